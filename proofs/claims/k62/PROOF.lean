import PyProof.Rows.All
import Wide.All
import OpenK.AllK
import Wide.FinOn
import HandS.ForMost
import HandS.EndBits
import HandS.Deep
import HandS.TupAny
import HandS.SortInts
import HandS.IsInst
import HandS.WideBits
import HandS.SortOrd
import KE.KSortedM
import KE.DataMinMax
import HandS.Conv
import HandS.Style
import HandS.Zip
import HandS.Walk
import HandS.SetFor
import HandS.More
import HandS.Flow
import KE.GoesEnum
import HandS.OwnIter
import HandS.IterVal
import HandS.Slots
import HandS.ClsMeth
import HandS.MakeKw
import PyProof.CollectWalk
import KE.KTupSum
import HandS.TryOnly
import HandS.Defaults
import HandS.SortKw
import HandS.Star
import HandS.TupSets
import KE.GoesRev
import PySem.Challenge.RW_stoppedloops_k62_whole_an_item_more_at_a
set_option Elab.async false
set_option linter.all false
set_option maxRecDepth 100000
/-! Ev: data trees and the evaluator -/
namespace Ev
open PySem

/-- data; a list with flag true is owned by the one name (or place) that holds it -/
inductive D where
  | non | bl (b : Bool) | int (i : Int) | str (s : Str) | tup (xs : List D) | lst (o : Bool) (xs : List D)
  /-- the script -/
  | scr (ns : List Int)
  deriving Inhabited, Repr

mutual
/-- shared from now on -/
def D.frz : D → D
  | .tup xs => .tup (frzs xs)
  | .lst _ xs => .lst false (frzs xs)
  | .non => .non
  | .bl b => .bl b
  | .int i => .int i
  | .str s => .str s
  | .scr ns => .scr ns
def frzs : List D → List D
  | [] => []
  | d :: ds => d.frz :: frzs ds
end
mutual
/-- shared at every depth -/
def D.fz : D → Bool
  | .tup xs => fzs xs
  | .lst o xs => !o && fzs xs
  | _ => true
def fzs : List D → Bool
  | [] => true
  | d :: ds => d.fz && fzs ds
end
mutual
/-- plain data to depth k -/
def D.py : D → PyData
  | .non => .none
  | .bl b => .bool b
  | .int i => .int i
  | .str s => .str s
  | .tup xs => .tuple (pys xs)
  | .lst _ xs => .list (pys xs)
  | .scr _ => .dict []
def pys : List D → List PyData
  | [] => []
  | d :: ds => d.py :: pys ds
end
mutual
/-- plain data, to a depth -/
def D.ok : Nat → D → Bool
  | _, .non => true
  | _, .bl _ => true
  | _, .int _ => true
  | _, .str s => PyData.strOk s
  | 0, .tup _ => false
  | k + 1, .tup xs => oks k xs
  | 0, .lst _ _ => false
  | k + 1, .lst _ xs => oks k xs
  | _, .scr _ => false
def oks : Nat → List D → Bool
  | _, [] => true
  | k, d :: ds => d.ok k && oks k ds
end
mutual
/-- Python's == -/
def D.eq : D → D → Bool
  | .non, .non => true
  | .bl a, .bl b => a == b
  | .bl a, .int j => (if a then 1 else 0) == j
  | .int i, .bl b => i == (if b then 1 else 0)
  | .int i, .int j => i == j
  | .str x, .str y => x == y
  | .lst _ xs, .lst _ ys => eqs xs ys
  | .tup xs, .tup ys => eqs xs ys
  | _, _ => false
def eqs : List D → List D → Bool
  | [], [] => true
  | x :: xs, y :: ys => x.eq y && eqs xs ys
  | _, _ => false
end
def D.flat : D → Bool
  | .tup _ => false
  | .lst _ _ => false
  | .scr _ => false
  | _ => true
def flats : List D → Bool
  | [] => true
  | d :: ds => d.flat && flats ds

abbrev cap : Nat := 1000000

/-! operations -/
inductive Op where | add | sub | mul | fdiv | mod | pow
  deriving DecidableEq, Repr
inductive Cop where | eq | ne | lt | le | gt | ge | isin | notin | isn | isnotn
  deriving DecidableEq, Repr
inductive Bi where | len | abs | min2 | max2 | min1 | max1 | sum1 | int1 | list1 | tuple1 | sorted1 | all1 | any1 | divmod | lrange | trange | maxd | sset | step | lenr
  deriving DecidableEq, Repr
/-- a built-in that is called by its name alone -/
def Bi.pl : Bi → Bool
  | .lrange => false
  | .trange => false
  | .maxd => false
  | .sset => false
  | .step => false
  | .lenr => false
  | _ => true
inductive Ty where | bool | int | str | list | tuple | dict
  deriving DecidableEq, Repr
inductive Me where | append | pop | popAt | extend | remove | index
  deriving DecidableEq, Repr
inductive ItK where | val | range | enum | zip
  deriving DecidableEq, Repr

def small64 : Int → Bool
  | .ofNat n => Nat.ble n 18446744073709551615
  | .negSucc n => Nat.ble n 18446744073709551614
theorem small64_eq (a : Int) : small64 a = (decide (-18446744073709551616 < a) && decide (a < 18446744073709551616)) := by
  rw [Bool.eq_iff_iff, Bool.and_eq_true, decide_eq_true_eq, decide_eq_true_eq]
  cases a with
  | ofNat n => rw [show small64 (Int.ofNat n) = Nat.ble n 18446744073709551615 from rfl, Nat.ble_eq]; simp only [Int.ofNat_eq_natCast]; omega
  | negSucc n => rw [show small64 (Int.negSucc n) = Nat.ble n 18446744073709551614 from rfl, Nat.ble_eq]; omega
def binD : Op → D → D → Option D
  | .add, .int a, .int b => some (.int (a + b))
  | .add, .lst _ xs, .lst _ ys => if fzs xs && fzs ys && decide (xs.length + ys.length ≤ cap) then some (.lst true (xs ++ ys)) else none
  | .add, .tup xs, .tup ys => if decide (xs.length + ys.length ≤ cap) then some (.tup (xs ++ ys)) else none
  | .sub, .int a, .int b => some (.int (a - b))
  | .mul, .int a, .int b => if small64 a || small64 b then some (.int (a * b)) else none
  | .mul, .lst _ xs, .int k => if fzs xs && decide (0 ≤ k) && decide (k ≤ 1000) && decide (xs.length ≤ 1000) then some (.lst true (List.replicate k.toNat xs).flatten) else none
  | .fdiv, .int a, .int b => if decide (0 < b) && decide (b < 1073741824) then some (.int (a / b)) else none
  | .mod, .int a, .int b => if decide (0 < b) then some (.int (a % b)) else none
  | .pow, .int a, .int b => if decide (0 ≤ b) && decide (b ≤ 1000000) && small64 a then some (.int (a ^ b.toNat)) else none
  | _, _, _ => none

def intsOf : List D → Option (List Int)
  | [] => some []
  | .int i :: ds => (intsOf ds).map (i :: ·)
  | _ => none
def boolsOf : List D → Option (List Bool)
  | [] => some []
  | .bl i :: ds => (boolsOf ds).map (i :: ·)
  | _ => none
def ltI : List Int → List Int → Bool
  | [], [] => false
  | [], _ :: _ => true
  | _ :: _, [] => false
  | x :: xs, y :: ys => if x = y then ltI xs ys else decide (x < y)
/-- the items of a list or tuple that are shared -/
def items : D → Option (List D)
  | .tup xs => some xs
  | .lst _ xs => if fzs xs then some xs else none
  | _ => none
def isNon : D → Bool
  | .non => true
  | _ => false
def plain (d : D) : Bool := d.ok 60
def cmpD : Cop → D → D → Option Bool
  | .eq, a, b => if plain a && plain b then some (a.eq b) else none
  | .ne, a, b => if plain a && plain b then some (!a.eq b) else none
  | .lt, .int a, .int b => some (decide (a < b))
  | .lt, .tup xs, .tup ys => match intsOf xs, intsOf ys with
    | some ns, some ms => some (ltI ns ms)
    | _, _ => none
  | .le, .int a, .int b => some (decide (a ≤ b))
  | .gt, .int a, .int b => some (decide (b < a))
  | .ge, .int a, .int b => some (decide (b ≤ a))
  | .isin, a, .lst _ xs => if plain a && oks 58 xs then some (xs.any fun x => x.eq a) else none
  | .isin, a, .tup xs => if a.flat && flats xs then some (xs.any fun x => x.eq a) else none
  | .notin, a, .lst _ xs => if plain a && oks 58 xs then some (!xs.any fun x => x.eq a) else none
  | .notin, a, .tup xs => if a.flat && flats xs then some (!xs.any fun x => x.eq a) else none
  | .isn, a, .non => some (isNon a)
  | .isnotn, a, .non => some (!isNon a)
  | _, _, _ => none

def ixN (n : Nat) (i : Int) : Option Nat := if 0 ≤ i then (if i < n then some i.toNat else none) else if -(n : Int) ≤ i then some (i + n).toNat else none
def sIx (n d : Nat) : Option Int → Nat
  | none => d
  | some v => (if v < 0 then max (v + (n : Int)) 0 else min v (n : Int)).toNat
def cutD (xs : List D) (lo hi : Option Int) : List D := (xs.drop (sIx xs.length 0 lo)).take (sIx xs.length xs.length hi - sIx xs.length 0 lo)
def slD : D → Option Int → Option Int → Option D
  | .lst _ xs, lo, hi => if fzs xs then some (.lst true (cutD xs lo hi)) else none
  | .tup xs, lo, hi => some (.tup (cutD xs lo hi))
  | .scr ns, lo, hi => some (.lst true (cutD (ns.map .int) lo hi))
  | _, _, _ => none
def revD : D → Option D
  | .lst _ xs => if fzs xs then some (.lst true xs.reverse) else none
  | _ => none
def insI (x : Int) : List Int → List Int
  | [] => [x]
  | y :: ys => if x ≤ y then x :: y :: ys else y :: insI x ys
def sortI : List Int → List Int
  | [] => []
  | x :: xs => insI x (sortI xs)
def minI : Int → List Int → Int
  | m, [] => m
  | m, x :: xs => minI (if x < m then x else m) xs
def maxI : Int → List Int → Int
  | m, [] => m
  | m, x :: xs => maxI (if m < x then x else m) xs
def rangeD (lo : Int) (st : Int) : Nat → List D
  | 0 => []
  | n + 1 => .int lo :: rangeD (lo + st) st n
def small62 : Int → Bool
  | .ofNat n => Nat.ble n 4611686018427387903
  | .negSucc n => Nat.ble n 4611686018427387903
theorem small62_eq (a : Int) : small62 a = (decide (-4611686018427387904 ≤ a) && decide (a < 4611686018427387904)) := by
  rw [Bool.eq_iff_iff, Bool.and_eq_true, decide_eq_true_eq, decide_eq_true_eq]
  cases a with
  | ofNat n => rw [show small62 (Int.ofNat n) = Nat.ble n 4611686018427387903 from rfl, Nat.ble_eq]; simp only [Int.ofNat_eq_natCast]; omega
  | negSucc n => rw [show small62 (Int.negSucc n) = Nat.ble n 4611686018427387903 from rfl, Nat.ble_eq]; omega
/-- how many turns -/
def rangeN (i j c : Int) : Nat := (Builtin.Range.rangeSize i j c).toNat
def fits9 : Int → Bool
  | .ofNat n => Nat.ble n 1000000000
  | .negSucc n => Nat.ble n 1000000000
theorem fits9_of {a : Int} (h : fits9 a = true) : -1000000001 ≤ a ∧ a ≤ 1000000000 := by
  cases a with
  | ofNat n => rw [show fits9 (Int.ofNat n) = Nat.ble n 1000000000 from rfl, Nat.ble_eq] at h; simp only [Int.ofNat_eq_natCast]; omega
  | negSucc n => rw [show fits9 (Int.negSucc n) = Nat.ble n 1000000000 from rfl, Nat.ble_eq] at h; omega
theorem rsmall_ok {i j c : Int} (h : (fits9 i && fits9 j && fits9 c) = true) (hc : c ≠ 0) : Builtin.Range.small i j c = true := by
  simp only [Bool.and_eq_true] at h
  obtain ⟨⟨h1, h2⟩, h3⟩ := h
  have b1 := fits9_of h1
  have b2 := fits9_of h2
  have b3 := fits9_of h3
  have fl : ∀ {a : Int}, -1000000000000 ≤ a → a ≤ 1000000000000 → Builtin.Range.rangeFitsLong a = true := fun {a} h0 h1 => by
    unfold Builtin.Range.rangeFitsLong
    simp only [Bool.and_eq_true, decide_eq_true_eq]
    constructor <;> omega
  have rs : -1000000000000 ≤ Builtin.Range.rangeSize i j c ∧ Builtin.Range.rangeSize i j c ≤ 1000000000000 := by
    unfold Builtin.Range.rangeSize
    split
    · split
      · have := Int.ediv_nonneg (a := j - i - 1) (b := c) (by omega) (by omega)
        have := Int.ediv_le_self (a := j - i - 1) c (by omega)
        omega
      · omega
    · split
      · have := Int.ediv_nonneg (a := i - j - 1) (b := -c) (by omega) (by omega)
        have := Int.ediv_le_self (a := i - j - 1) (-c) (by omega)
        omega
      · omega
  unfold Builtin.Range.small
  rw [fl (by omega) (by omega), fl (by omega) (by omega), fl (by omega) (by omega), fl rs.1 rs.2]
  split
  · rw [fl (by omega) (by omega)]; simp
  · rw [fl (by omega) (by omega)]; simp
def rangeOf : List D → Option (List D)
  | [.int j] => if small62 j then some (rangeD 0 1 j.toNat) else none
  | [.int i, .int j] => if small62 i && small62 j then some (rangeD i 1 (j - i).toNat) else none
  | [.int i, .int j, .int c] => if (fits9 i && fits9 j && fits9 c) && decide (c ≠ 0) && decide (c.natAbs < 1000000) then some (rangeD i c (rangeN i j c)) else none
  | _ => none
def pairsOf : List D → Option (List (Nat × Nat))
  | [] => some []
  | .tup [.int (.ofNat x), .int (.ofNat y)] :: ds => if Nat.blt x 64 && Nat.blt y 64 then (pairsOf ds).map fun ps => (x, y) :: ps else none
  | _ => none
def keyP (p : Nat × Nat) : Nat := p.1 * 64 + p.2
def insP (p : Nat × Nat) : List (Nat × Nat) → List (Nat × Nat)
  | [] => [p]
  | q :: l => if Nat.blt (keyP p) (keyP q) then p :: q :: l else if Nat.beq (keyP p) (keyP q) then q :: l else q :: insP p l
def ssetP : List (Nat × Nat) → List (Nat × Nat)
  | [] => []
  | p :: l => insP p (ssetP l)
def pairD (p : Nat × Nat) : D := .tup [.int p.1, .int p.2]
/-- how many there are in xs[lo::st] -/
def stepN (n lo st : Nat) : Nat := if Nat.blt lo n then (n - lo - 1) / st + 1 else 0
def pickL {α : Type} (is : List Nat) (xs : List α) : List α := is.filterMap fun i => xs[i]?
def stepL {α : Type} (xs : List α) (lo st : Nat) : List α := pickL ((List.range (stepN xs.length lo st)).map fun m => min lo xs.length + m * st) xs
/-- pairs of numbers, sorted -/
def prsOf : List D → Option (List (Nat × Nat))
  | [] => some []
  | .tup [.int (.ofNat x), .int (.ofNat y)] :: ds => (prsOf ds).map fun ps => (x, y) :: ps
  | _ => none
def ltQ (p q : Nat × Nat) : Bool := Nat.blt p.1 q.1 || (Nat.beq p.1 q.1 && Nat.blt p.2 q.2)
def insQ (p : Nat × Nat) : List (Nat × Nat) → List (Nat × Nat)
  | [] => [p]
  | q :: l => if ltQ q p then q :: insQ p l else p :: q :: l
def sortQ : List (Nat × Nat) → List (Nat × Nat)
  | [] => []
  | p :: l => insQ p (sortQ l)
def biD : Bi → List D → Option D
  | .len, [.lst _ xs] => some (.int xs.length)
  | .len, [.tup xs] => some (.int xs.length)
  | .len, [.str s] => if decide (s.length ≤ cap) then some (.int s.length) else none
  | .abs, [.int a] => some (.int (if a < 0 then -a else a))
  | .min2, [.int a, .int b] => some (.int (if b < a then b else a))
  | .max2, [.int a, .int b] => some (.int (if b > a then b else a))
  | .min1, [.lst _ xs] => match intsOf xs with
    | some (n :: ns) => some (.int (minI n ns))
    | _ => none
  | .min1, [.tup xs] => match intsOf xs with
    | some (n :: ns) => some (.int (minI n ns))
    | _ => none
  | .max1, [.lst _ xs] => match intsOf xs with
    | some (n :: ns) => some (.int (maxI n ns))
    | _ => none
  | .maxd, [.lst _ xs, .int z] => match intsOf xs with
    | some (n :: ns) => some (.int (maxI n ns))
    | some [] => some (.int z)
    | none => none
  | .sum1, [.lst _ xs] => match intsOf xs with
    | some ns => some (.int ns.sum)
    | _ => none
  | .int1, [.int a] => some (.int a)
  | .int1, [.bl b] => some (.int (if b then 1 else 0))
  | .list1, [d] => (items d).map (.lst true)
  | .tuple1, [d] => (items d).map .tup
  | .sorted1, [.lst _ xs] => match intsOf xs with
    | some ns => some (.lst true ((sortI ns).map .int))
    | none => match prsOf xs with
      | some ps => some (.lst true ((sortQ ps).map pairD))
      | none => none
  | .sorted1, [.tup xs] => match intsOf xs with
    | some ns => some (.lst true ((sortI ns).map .int))
    | _ => none
  | .all1, [.lst _ xs] => match boolsOf xs with
    | some ns => some (.bl (ns.all id))
    | _ => none
  | .any1, [.lst _ xs] => match boolsOf xs with
    | some ns => some (.bl (ns.any id))
    | _ => none
  | .divmod, [.int a, .int b] => if decide (0 < b) && decide (b < 1073741824) then some (.tup [.int (a / b), .int (a % b)]) else none
  | .lrange, ds => match rangeOf ds with
    | some xs => if decide (xs.length ≤ cap) then some (.lst true xs) else none
    | none => none
  | .trange, ds => match rangeOf ds with
    | some xs => if decide (xs.length ≤ cap) then some (.tup xs) else none
    | none => none
  | .lenr, ds => match rangeOf ds with
    | some xs => if decide (xs.length ≤ cap) then some (.int xs.length) else none
    | none => none
  | .step, [.tup xs, .int (.ofNat lo), .int (.ofNat st)] => if Nat.blt 0 st then some (.tup (stepL xs lo st)) else none
  | .sset, [.lst _ xs] => match pairsOf xs with
    | some ps => if Nat.ble xs.length 60 then some (.lst true ((ssetP ps).map pairD)) else none
    | none => none
  | _, _ => none
def isTy : D → Ty → Bool
  | .bl _, .bool => true
  | .bl _, .int => true
  | .int _, .int => true
  | .str _, .str => true
  | .lst _ _, .list => true
  | .scr _, .list => true
  | .tup _, .tuple => true
  | _, _ => false

/-! values on their way: a value, or a place that is owned (slot, path) -/
inductive A where
  | tmp (d : D)
  | bor (i : Nat) (p : List Nat)
  deriving Inhabited, Repr
abbrev Dl := List (Option D)
def D.at : D → List Nat → Option D
  | d, [] => some d
  | .lst true xs, k :: p => match xs[k]? with
    | some x => x.at p
    | none => none
  | _, _ :: _ => none
def D.upAt : D → List Nat → (D → Option D) → Option D
  | d, [], f => f d
  | .lst true xs, k :: p, f => match xs[k]? with
    | some x => match x.upAt p f with
      | some y => some (.lst true (xs.set k y))
      | none => none
    | none => none
  | _, _ :: _, _ => none
def slot (δ : Dl) (i : Nat) : Option D := match δ[i]? with
  | some (some d) => some d
  | _ => none
def look (δ : Dl) : A → Option D
  | .tmp d => some d
  | .bor i p => match slot δ i with
    | some d => d.at p
    | none => none
def looks (δ : Dl) : List A → Option (List D)
  | [] => some []
  | a :: as => match look δ a, looks δ as with
    | some d, some ds => some (d :: ds)
    | _, _ => none
def upSlot (δ : Dl) (i : Nat) (p : List Nat) (f : D → Option D) : Option Dl := match slot δ i with
  | some d => match d.upAt p f with
    | some d' => some (δ.set i (some d'))
    | none => none
  | none => none
/-- as a value that goes elsewhere: an owned place is shared from now on -/
def toV (δ : Dl) : A → Option (D × Dl)
  | .tmp d => some (d, δ)
  | .bor i p => match look δ (.bor i p), upSlot δ i p (fun d => some d.frz) with
    | some d, some δ' => some (d.frz, δ')
    | _, _ => none
def toVs (δ : Dl) : List A → Option (List D × Dl)
  | [] => some ([], δ)
  | a :: as => match toV δ a with
    | some (d, δ1) => match toVs δ1 as with
      | some (ds, δ2) => some (d :: ds, δ2)
      | none => none
    | none => none
def noPath : A → Bool
  | .bor _ (_ :: _) => false
  | _ => true
def keepOf : A → List Nat
  | .bor i (_ :: _) => [i]
  | _ => []

/-- a place within a place is shared if more is to be evaluated -/
def settle {α : Type} (es : List α) (δ : Dl) : A → Option (A × Dl)
  | .bor i (k :: p) => if es.isEmpty then some (.bor i (k :: p), δ) else match toV δ (.bor i (k :: p)) with
    | some (d, δ1) => some (.tmp d, δ1)
    | none => none
  | a => some (a, δ)

def augI : Op → Int → Int → Option Int
  | .add, a, b => some (a + b)
  | .sub, a, b => some (a - b)
  | .mul, a, b => if small64 a || small64 b then some (a * b) else none
  | _, _, _ => none
/-! targets -/
inductive Tg where
  | nm (i : Nat)
  | tp (is : List Nat)
  deriving Repr
def setN (lock : List Nat) (i : Nat) (d : D) (δ : Dl) : Option Dl := if decide (i < δ.length) && !lock.contains i then some (δ.set i (some d)) else none
def setNs (lock : List Nat) : List Nat → List D → Dl → Option Dl
  | [], [], δ => some δ
  | i :: is, d :: ds, δ => match setN lock i d δ with
    | some δ1 => setNs lock is ds δ1
    | none => none
  | _, _, _ => none
def setT (lock : List Nat) : Tg → D → Dl → Option Dl
  | .nm i, d, δ => setN lock i d δ
  | .tp is, .tup ds, δ => if fzs ds then setNs lock is ds δ else none
  | .tp is, .lst _ ds, δ => if fzs ds then setNs lock is ds δ else none
  | .tp _, _, _ => none

/-! the core language -/
/-- a constant of the module -/
inductive Kc where
  | int (i : Int) | str (s : Str) | strs (l : List Str)
  deriving Inhabited, Repr, DecidableEq
def Kc.toD : Kc → D
  | .int i => .int i
  | .str s => .str s
  | .strs l => .tup (l.map .str)
inductive E where
  | non | bl (b : Bool) | int (i : Int) | str (s : Str)
  | con (k : Kc)
  | var (i : Nat)
  | bin (op : Op) (a b : E)
  | neg (a : E)
  | cmp (op : Cop) (a b : E)
  | chain (o1 o2 : Cop) (a b c : E)
  | band (es : List E)
  | bor (es : List E)
  | bnot (a : E)
  | ite (c a b : E)
  | tup (es : List E)
  | lst (es : List E)
  /-- a display with a star; l: a list -/
  | disS (l : Bool) (pre : List E) (st : E) (post : List E)
  /-- asked alone, with all shared: all is as it was -/
  | pur (e : E)
  | sub (a i : E)
  | slice (a : E) (lo hi : Option E)
  | rev (a : E)
  | call (f : Nat) (es : List E)
  | callK (f : Nat) (es : List E) (perm : List Nat)
  | bi (b : Bi) (es : List E)
  | isi (a : E) (ts : List Ty)
  | meth (m : Me) (o : E) (es : List E)
  | lc (elt : E) (tg : Tg) (k : ItK) (its : List E) (ifs : List E) (own : List Nat)
  | lc2 (elt : E) (tg : Tg) (k : ItK) (its : List E) (tg2 : Tg) (k2 : ItK) (its2 : List E) (own own2 : List Nat)
  deriving Inhabited, Repr
inductive S where
  | expr (e : E)
  | ret (e : E)
  | retN
  | asg (t : Tg) (e : E)
  | par (is : List Nat) (es : List E)
  | setIx (o i e : E)
  | swapIx (o1 i1 o2 i2 : E) (e : E)
  | aug (i : Nat) (op : Op) (e : E)
  | ifs (c : E) (a b : List S)
  | for_ (tg : Tg) (k : ItK) (its : List E) (body : List S)
  | while_ (c : E) (body : List S)
  | pass | brk | cont | bad
  deriving Inhabited, Repr
/-- how a statement ends -/
inductive Fl where
  | nx (δ : Dl) | rt (d : D) (δ : Dl) | bk (δ : Dl) | ct (δ : Dl)
  deriving Inhabited, Repr

structure Ctx where
  call : Nat → List D → Option (D × List D)
  io : Nat → List Nat
  lock : List Nat

def isAtom : D → Bool
  | .tup _ => false
  | .lst _ _ => false
  | .scr _ => false
  | _ => true
/-- truth -/
def truD : D → Option Bool
  | .non => some false
  | .bl b => some b
  | .int i => some (i != 0)
  | .str s => if decide (s.length ≤ cap) then some ((s.length : Int) != 0) else none
  | .tup xs => some (!xs.isEmpty)
  | .lst _ xs => some (!xs.isEmpty)
  | .scr _ => none

/-- the places of a call that are lent: taken out -/
def ioOf (io : List Nat) : Nat → List A → Dl → Option (List (Option D) × Dl)
  | _, [], δ => some ([], δ)
  | j, a :: as, δ => match io.contains j with
    | true => match a with
      | .tmp _ => match ioOf io (j + 1) as δ with
        | some (os, δ') => some (none :: os, δ')
        | none => none
      | .bor i [] => match slot δ i with
        | some d => match ioOf io (j + 1) as (δ.set i none) with
          | some (os, δ') => some (some d :: os, δ')
          | none => none
        | none => none
      | .bor _ (_ :: _) => none
    | false => match ioOf io (j + 1) as δ with
      | some (os, δ') => some (none :: os, δ')
      | none => none
/-- all else goes as values -/
def valOf : List (Option D) → List A → Dl → Option (List D × Dl)
  | [], [], δ => some ([], δ)
  | some d :: os, _ :: as, δ => match valOf os as δ with
    | some (ds, δ') => some (d :: ds, δ')
    | none => none
  | none :: os, a :: as, δ => match toV δ a with
    | some (d, δ1) => match valOf os as δ1 with
      | some (ds, δ') => some (d :: ds, δ')
      | none => none
    | none => none
  | _, _, _ => none
def flatOwn : D → Bool
  | .lst true xs => flats xs
  | _ => false
/-- the io places come back -/
def backOf (io : List Nat) : Nat → List A → List D → Dl → Dl
  | _, [], _, δ => δ
  | j, a :: as, outs, δ => match io.contains j with
    | true => match outs with
      | d :: outs => backOf io (j + 1) as outs (match a with
        | .bor i _ => δ.set i (some d)
        | _ => δ)
      | [] => δ
    | false => backOf io (j + 1) as outs δ
def permD {α : Type} (perm : List Nat) (ds : List α) : Option (List α) := perm.mapM fun i => ds[i]?

def enumD : Nat → List D → List D
  | _, [] => []
  | k, d :: ds => .tup [.int k, d] :: enumD (k + 1) ds
def zipD : List D → List D → List D
  | x :: xs, y :: ys => .tup [x, y] :: zipD xs ys
  | _, _ => []
/-- what is walked, from values that are shared -/
def itVal : List D → Option (List D)
  | [.tup xs] => some xs
  | [.lst false xs] => some xs
  | _ => none
def itEnum : List D → Option (List D)
  | [.lst false xs] => some (enumD 0 xs)
  | [.tup xs] => some (enumD 0 xs)
  | _ => none
def itZip : List D → Option (List D)
  | [.tup xs, .tup ys] => some (zipD xs ys)
  | [.lst false xs, .lst false ys] => some (zipD xs ys)
  | _ => none
def itD : ItK → List D → Option (List D)
  | .val, ds => itVal ds
  | .range, ds => rangeOf ds
  | .enum, ds => itEnum ds
  | .zip, ds => itZip ds
def wipeD (δ : Dl) : List Nat → Dl
  | [] => δ
  | v :: vs => (wipeD δ vs).set v none
/-- the block's own slots as they were -/
def restD (δ0 δ : Dl) : List Nat → Dl
  | [] => δ
  | v :: vs => (restD δ0 δ vs).set v (match δ0[v]? with
    | some x => x
    | none => none)
def lcL (set : D → Dl → Option Dl) (test : Dl → Option (Bool × Dl)) (elt : Dl → Option (D × Dl)) (own : List Nat) : List D → List D → Dl → Option (List D × Dl)
  | [], acc, δ => some (acc, δ)
  | x :: xs, acc, δ => match set x δ with
    | none => none
    | some δ1 => match test δ1 with
      | none => none
      | some (false, δ2) => lcL set test elt own xs acc (wipeD δ2 own)
      | some (true, δ2) => match elt δ2 with
        | none => none
        | some (y, δ3) => if decide (acc.length < cap) then lcL set test elt own xs (acc ++ [y]) (wipeD δ3 own) else none
/-- the inner loop of two -/
def lc2L (set : D → Dl → Option Dl) (its : Dl → Option (List D × Dl)) (inner : List D → List D → Dl → Option (List D × Dl)) (own own2 : List Nat) : List D → List D → Dl → Option (List D × Dl)
  | [], acc, δ => some (acc, δ)
  | x :: xs, acc, δ => match set x δ with
    | none => none
    | some δ1 => match its δ1 with
      | none => none
      | some (ys, δ2) => match inner ys acc (wipeD δ2 own2) with
        | none => none
        | some (acc', δ3) => lc2L set its inner own own2 xs acc' (wipeD δ3 own)
def forL (set : D → Dl → Option Dl) (body : Dl → Option Fl) : List D → Dl → Option Fl
  | [], δ => some (.nx δ)
  | x :: xs, δ => match set x δ with
    | none => none
    | some δ1 => match body δ1 with
      | some (.nx δ2) => forL set body xs δ2
      | some (.ct δ2) => forL set body xs δ2
      | some (.bk δ2) => some (.nx δ2)
      | some (.rt d δ2) => some (.rt d δ2)
      | none => none
def whileL (test : Dl → Option (Bool × Dl)) (body : Dl → Option Fl) : Nat → Dl → Option Fl
  | 0, _ => none
  | n + 1, δ => match test δ with
    | none => none
    | some (false, δ1) => some (.nx δ1)
    | some (true, δ1) => match body δ1 with
      | some (.nx δ2) => whileL test body n δ2
      | some (.ct δ2) => whileL test body n δ2
      | some (.bk δ2) => some (.nx δ2)
      | some (.rt d δ2) => some (.rt d δ2)
      | none => none
/-- the first place -/
def ixOf (i : Int) : List Int → Option Nat
  | [] => none
  | x :: xs => if x = i then some 0 else match ixOf i xs with
    | some j => some (j + 1)
    | none => none
def methD : Me → D → List D → Option (D × D)
  | .append, .lst true xs, [d] => if decide (xs.length < cap) then some (.non, .lst true (xs ++ [d])) else none
  | .pop, .lst true xs, [] => match xs.reverse with
    | y :: r => if y.fz then some (y, .lst true r.reverse) else none
    | [] => none
  | .popAt, .lst true xs, [.int i] => if small62 i then match ixN xs.length i with
      | some k => match xs[k]? with
        | some y => if y.fz then some (y, .lst true (xs.eraseIdx k)) else none
        | none => none
      | none => none
    else none
  | .extend, .lst true xs, [.lst _ ys] => if fzs ys && decide (xs.length + ys.length ≤ cap) then some (.non, .lst true (xs ++ ys)) else none
  | .remove, .lst true xs, [.int i] => match intsOf xs with
    | some ns => match ixOf i ns with
      | some j => some (.non, .lst true ((ns.eraseIdx j).map .int))
      | none => none
    | none => none
  | _, _, _ => none
/-- methods that only read -/
def methR : Me → D → List D → Option D
  | .index, .lst _ xs, [.int i] => match intsOf xs with
    | some ns => match ixOf i ns with
      | some j => some (.int j)
      | none => none
    | none => none
  | _, _, _ => none
def isLst : Option D → Bool
  | some (.lst _ _) => true
  | _ => false
def partsOf : Bool → Bool → List A → Option (Option Int × Option Int)
  | false, false, [] => some (none, none)
  | true, false, [.tmp (.int i)] => some (some i, none)
  | false, true, [.tmp (.int i)] => some (none, some i)
  | true, true, [.tmp (.int i), .tmp (.int j)] => some (some i, some j)
  | _, _, _ => none

/-- a call: what is shared for it alone is as it was if nothing of it can be left anywhere -/
def callD (C : Ctx) (f : Nat) (as : List A) (δ : Dl) : Option (A × Dl) := match ioOf (C.io f) 0 as δ with
  | some (os, δm) => match valOf os as δm with
    | some (ds, δ2) => match C.call f ds with
      | some (r, outs) => some (.tmp r, backOf (C.io f) 0 as outs (if isAtom r then δm else δ2))
      | none => none
    | none => none
  | none => none
/-- a method that changes its list -/
def methX (m : Me) (es : Dl → Option (List A × Dl)) : Option (A × Dl) → Option (A × Dl)
  | some (.bor s p, δ1) => match slot δ1 s with
    | some d0 => if isLst (d0.at p) then match es (if p.isEmpty then δ1 else δ1.set s none) with
        | some (as, δ2) => match toVs δ2 as with
          | some (ds, δ3) => match slot (if p.isEmpty then δ3 else δ3.set s (some d0)) s with
            | some d1 => match d1.at p with
              | some d => match methD m d ds with
                | some (r, d') => match upSlot (if p.isEmpty then δ3 else δ3.set s (some d0)) s p (fun _ => some d') with
                  | some δ4 => some (.tmp r, δ4)
                  | none => none
                | none => none
              | none => none
            | none => none
          | none => none
        | none => none
      else none
    | none => none
  | _ => none
/-- the block's own slots hold nothing owned -/
def ownFz (δ : Dl) : List Nat → Bool
  | [] => true
  | v :: vs => (match slot δ v with
    | some d => d.fz
    | none => true) && ownFz δ vs

/-- all is shared -/
def frzA (δ : Dl) : Dl := δ.map (Option.map D.frz)
def disD (l : Bool) (ds : List D) : D := if l then .lst true ds else .tup ds
mutual
def evE (C : Ctx) : Nat → E → Dl → Option (A × Dl)
  | 0, _, _ => none
  | n + 1, e, δ => match e with
    | .non => some (.tmp .non, δ)
    | .bl b => some (.tmp (.bl b), δ)
    | .int i => some (.tmp (.int i), δ)
    | .str s => some (.tmp (.str s), δ)
    | .con k => some (.tmp k.toD, δ)
    | .var i => match slot δ i with
      | some d => if d.fz then some (.tmp d, δ) else some (.bor i [], δ)
      | none => none
    | .bin op a b => match evAs C n [a, b] δ with
      | some (as, δ1) => match looks δ1 as with
        | some [x, y] => match binD op x y with
          | some d => some (.tmp d, δ1)
          | none => match toVs δ1 as with
            | some ([x, y], δ2) => match binD op x.frz y.frz with
              | some d => some (.tmp d, δ2)
              | none => none
            | _ => none
        | _ => none
      | none => none
    | .neg a => match evE C n a δ with
      | some (.tmp (.int i), δ1) => some (.tmp (.int (-i)), δ1)
      | _ => none
    | .cmp op a b => match evAs C n [a, b] δ with
      | some (as, δ1) => match looks δ1 as with
        | some [x, y] => match cmpD op x y with
          | some t => some (.tmp (.bl t), δ1)
          | none => none
        | _ => none
      | none => none
    | .chain o1 o2 a b c => match evAs C n [a, b] δ with
      | some ([.tmp x, .tmp y], δ1) => match cmpD o1 x y with
        | some false => some (.tmp (.bl false), δ1)
        | some true => match evE C n c δ1 with
          | some (.tmp z, δ2) => match cmpD o2 y z with
            | some t => some (.tmp (.bl t), δ2)
            | none => none
          | _ => none
        | none => none
      | _ => none
    | .band es => evAnd C n es δ
    | .bor es => evOr C n es δ
    | .bnot a => match evE C n a δ with
      | some (x, δ1) => match look δ1 x with
        | some d => match truD d with
          | some b => some (.tmp (.bl (!b)), δ1)
          | none => none
        | none => none
      | none => none
    | .ite c a b => match evT C n c δ with
      | some (true, δ1) => evE C n a δ1
      | some (false, δ1) => evE C n b δ1
      | none => none
    | .tup es => match evAs C n es δ with
      | some (as, δ1) => match toVs δ1 as with
        | some (ds, δ2) => if decide (ds.length ≤ cap) then some (.tmp (.tup (frzs ds)), δ2) else none
        | none => none
      | none => none
    | .lst es => match evAs C n es δ with
      | some (as, δ1) => match toVs δ1 as with
        | some (ds, δ2) => if decide (ds.length ≤ cap) then some (.tmp (.lst true ds), δ2) else none
        | none => none
      | none => none
    | .disS l pre st post => match evVs C n pre δ with
      | some (ds, δ1) => match evV C n st δ1 with
        | some (d, δ2) => match items d.frz with
          | some xs => match evVs C n post δ2 with
            | some (bs, δ3) => if decide (ds.length + xs.length + bs.length ≤ cap) then some (.tmp (disD l (frzs ds ++ xs ++ frzs bs)), δ3) else none
            | none => none
          | none => none
        | none => none
      | none => none
    | .pur e => match evE C n e (frzA δ) with
      | some (.tmp d, _) => if isAtom d then some (.tmp d, δ) else none
      | _ => none
    | .sub a i => match evAs C n [a, i] δ with
      | some ([x, .tmp (.int k)], δ1) => match look δ1 x with
        | some d => match d with
          | .lst _ xs => match ixN xs.length k with
            | some j => match xs[j]? with
              | some y => if y.fz then some (.tmp y, δ1) else match x with
                | .bor s p => some (.bor s (p ++ [j]), δ1)
                | .tmp _ => none
              | none => none
            | none => none
          | .tup xs => match ixN xs.length k with
            | some j => match xs[j]? with
              | some y => some (.tmp y, δ1)
              | none => none
            | none => none
          | _ => none
        | none => none
      | _ => none
    | .slice a lo hi => match evAs C n (a :: (lo.toList ++ hi.toList)) δ with
      | some (x :: as, δ1) => match look δ1 x, partsOf lo.isSome hi.isSome as with
        | some d, some (l, h) => match slD d l h with
          | some r => some (.tmp r, δ1)
          | none => match toVs δ1 (x :: as) with
            | some (d :: _, δ2) => match slD d.frz l h with
              | some r => some (.tmp r, δ2)
              | none => none
            | _ => none
        | _, _ => none
      | _ => none
    | .rev a => match evE C n a δ with
      | some (x, δ1) => match look δ1 x with
        | some d => match revD d with
          | some r => some (.tmp r, δ1)
          | none => none
        | none => none
      | none => none
    | .call f es => match evAs C n es δ with
      | some (as, δ1) => callD C f as δ1
      | none => none
    | .callK f es perm => match evAs C n es δ with
      | some (as, δ1) => match permD perm as with
        | some as => callD C f as δ1
        | none => none
      | none => none
    | .bi b es => match evAs C n es δ with
      | some (as, δ1) => match looks δ1 as with
        | some ds => match biD b ds with
          | some d => some (.tmp d, δ1)
          | none => none
        | none => none
      | none => none
    | .isi a ts => match evE C n a δ with
      | some (x, δ1) => match look δ1 x with
        | some d => some (.tmp (.bl (ts.any (isTy d))), δ1)
        | none => none
      | none => none
    | .meth m o es => match m with
      | .index => match evE C n o δ with
        | some (x, δ1) => if noPath x && isLst (look δ1 x) then match evAs C n es δ1 with
            | some (as, δ2) => match look δ2 x, looks δ2 as with
              | some d, some ds => match methR m d ds with
                | some r => some (.tmp r, δ2)
                | none => none
              | _, _ => none
            | none => none
          else none
        | none => none
      | m => methX m (evAs C n es) (evE C n o δ)
    | .lc elt tg k its ifs own => match evIt C n k its δ with
      | some (xs, δ1) => if ownFz δ1 own then match lcL (setT C.lock tg) (evIfs C n ifs) (evV C n elt) own xs [] (wipeD δ1 own) with
          | some (ys, δ2) => some (.tmp (.lst true ys), restD δ1 δ2 own)
          | none => none
        else none
      | none => none
    | .lc2 elt tg k its tg2 k2 its2 own own2 => match evIt C n k its δ with
      | some (xs, δ1) => if ownFz δ1 own then match lc2L (setT C.lock tg) (evIt C n k2 its2) (lcL (setT C.lock tg2) (evIfs C n []) (evV C n elt) own2) own own2 xs [] (wipeD δ1 own) with
          | some (ys, δ2) => some (.tmp (.lst true ys), restD δ1 δ2 own)
          | none => none
        else none
      | none => none
def evIfs (C : Ctx) : Nat → List E → Dl → Option (Bool × Dl)
  | 0, _, _ => none
  | _ + 1, [], δ => some (true, δ)
  | n + 1, [c], δ => evT C n c δ
  | _ + 1, _ :: _ :: _, _ => none
def evV (C : Ctx) : Nat → E → Dl → Option (D × Dl)
  | 0, _, _ => none
  | n + 1, e, δ => match evE C n e δ with
    | some (a, δ1) => toV δ1 a
    | none => none
def evVs (C : Ctx) : Nat → List E → Dl → Option (List D × Dl)
  | 0, _, _ => none
  | n + 1, es, δ => match evAs C n es δ with
    | some (as, δ1) => toVs δ1 as
    | none => none
def evAs (C : Ctx) : Nat → List E → Dl → Option (List A × Dl)
  | 0, _, _ => none
  | _ + 1, [], δ => some ([], δ)
  | n + 1, e :: es, δ => match evE C n e δ with
    | some (a, δ1) => match settle es δ1 a with
      | some (a, δ2) => match evAs C n es δ2 with
        | some (as, δ3) => some (a :: as, δ3)
        | none => none
      | none => none
    | none => none
def evAnd (C : Ctx) : Nat → List E → Dl → Option (A × Dl)
  | 0, _, _ => none
  | _ + 1, [], _ => none
  | n + 1, [e], δ => evE C n e δ
  | n + 1, e :: es, δ => match evE C n e δ with
    | some (a, δ1) => match look δ1 a with
      | some d => match truD d with
        | some true => evAnd C n es δ1
        | some false => some (a, δ1)
        | none => none
      | none => none
    | none => none
def evOr (C : Ctx) : Nat → List E → Dl → Option (A × Dl)
  | 0, _, _ => none
  | _ + 1, [], _ => none
  | n + 1, [e], δ => evE C n e δ
  | n + 1, e :: es, δ => match evE C n e δ with
    | some (a, δ1) => match look δ1 a with
      | some d => match truD d with
        | some false => evOr C n es δ1
        | some true => some (a, δ1)
        | none => none
      | none => none
    | none => none
def evT (C : Ctx) : Nat → E → Dl → Option (Bool × Dl)
  | 0, _, _ => none
  | n + 1, e, δ => match e with
    | .band es => evTAnd C n es δ
    | .bor es => evTOr C n es δ
    | .bnot a => match evT C n a δ with
      | some (b, δ1) => some (!b, δ1)
      | none => none
    | e => match evE C n e δ with
      | some (a, δ1) => match look δ1 a with
        | some d => match truD d with
          | some b => some (b, δ1)
          | none => none
        | none => none
      | none => none
def evTAnd (C : Ctx) : Nat → List E → Dl → Option (Bool × Dl)
  | 0, _, _ => none
  | _ + 1, [], _ => none
  | n + 1, [e], δ => evT C n e δ
  | n + 1, e :: es, δ => match evT C n e δ with
    | some (true, δ1) => evTAnd C n es δ1
    | some (false, δ1) => some (false, δ1)
    | none => none
def evTOr (C : Ctx) : Nat → List E → Dl → Option (Bool × Dl)
  | 0, _, _ => none
  | _ + 1, [], _ => none
  | n + 1, [e], δ => evT C n e δ
  | n + 1, e :: es, δ => match evT C n e δ with
    | some (false, δ1) => evTOr C n es δ1
    | some (true, δ1) => some (true, δ1)
    | none => none
def evIt (C : Ctx) : Nat → ItK → List E → Dl → Option (List D × Dl)
  | 0, _, _, _ => none
  | n + 1, k, es, δ => match evAs C n es δ with
    | some (as, δ1) => match toVs δ1 as with
      | some (ds, δ2) => match itD k (frzs ds) with
        | some xs => some (xs, δ2)
        | none => none
      | none => none
    | none => none
def evS (C : Ctx) : Nat → S → Dl → Option Fl
  | 0, _, _ => none
  | n + 1, s, δ => match s with
    | .expr e => match evE C n e δ with
      | some (_, δ1) => some (.nx δ1)
      | none => none
    | .ret e => match evE C n e δ with
      | some (.tmp d, δ1) => some (.rt d δ1)
      | some (.bor i [], δ1) => match slot δ1 i with
        | some d => if C.lock.contains i then none else some (.rt d (δ1.set i none))
        | none => none
      | some (.bor i p, δ1) => match toV δ1 (.bor i p) with
        | some (d, δ2) => some (.rt d δ2)
        | none => none
      | none => none
    | .retN => some (.rt .non δ)
    | .asg t e => match evV C n e δ with
      | some (d, δ1) => match setT C.lock t d δ1 with
        | some δ2 => some (.nx δ2)
        | none => none
      | none => none
    | .par is es => match evAs C n es δ with
      | some (as, δ1) => match toVs δ1 as with
        | some (ds, δ2) => match setNs C.lock is ds δ2 with
          | some δ3 => some (.nx δ3)
          | none => none
        | none => none
      | none => none
    | .setIx o i e => match evAs C n [e, o, i] δ with
      | some ([v, .bor s p, .tmp (.int k)], δ1) => match toV δ1 v with
        | some (d, δ2) => match upSlot δ2 s p (fun x => match x with
            | .lst true xs => match ixN xs.length k with
              | some j => some (.lst true (xs.set j d))
              | none => none
            | _ => none) with
          | some δ3 => some (.nx δ3)
          | none => none
        | none => none
      | _ => none
    | .swapIx o1 i1 o2 i2 e => match evV C n e δ with
      | some (.tup [a, b], δ1) => match evAs C n [o1, i1] δ1 with
        | some ([.bor s1 [], .tmp (.int k1)], δ2) => match upSlot δ2 s1 [] (fun x => match x with
            | .lst true xs => match ixN xs.length k1 with
              | some j => some (.lst true (xs.set j a))
              | none => none
            | _ => none) with
          | some δ3 => match evAs C n [o2, i2] δ3 with
            | some ([.bor s2 [], .tmp (.int k2)], δ4) => match upSlot δ4 s2 [] (fun x => match x with
                | .lst true xs => match ixN xs.length k2 with
                  | some j => some (.lst true (xs.set j b))
                  | none => none
                | _ => none) with
              | some δ5 => some (.nx δ5)
              | none => none
            | _ => none
          | none => none
        | _ => none
      | _ => none
    | .aug i op e => match slot δ i with
      | some (.int x) => match evE C n e δ with
        | some (.tmp (.int y), δ1) => match augI op x y with
          | some z => match setN C.lock i (.int z) δ1 with
            | some δ2 => some (.nx δ2)
            | none => none
          | none => none
        | _ => none
      | _ => none
    | .ifs c a b => match evT C n c δ with
      | some (true, δ1) => evSs C n a δ1
      | some (false, δ1) => evSs C n b δ1
      | none => none
    | .for_ tg k its body => match evIt C n k its δ with
      | some (xs, δ1) => forL (setT C.lock tg) (evSs C n body) xs δ1
      | none => none
    | .while_ c body => whileL (evT C n c) (evSs C n body) 1000 δ
    | .pass => some (.nx δ)
    | .brk => some (.bk δ)
    | .cont => some (.ct δ)
    | .bad => none
def evSs (C : Ctx) : Nat → List S → Dl → Option Fl
  | 0, _, _ => none
  | _ + 1, [], δ => some (.nx δ)
  | n + 1, s :: ss, δ => match evS C n s δ with
    | some (.nx δ1) => evSs C n ss δ1
    | r => r
end

/-- a def -/
structure Fn where
  n : Nat
  ps : Nat
  io : List Nat
  body : List S
  vt : Option (Nat × List (Str × Nat)) := none
  deriving Inhabited, Repr
/-! rows that a class makes: list(C.made(rule, items, lap)) -/
def initA : S := .asg (.nm 2) (.bi .tuple1 [(.var 1)])
def initB : S := .for_ (.tp [3, 4]) .enum [(.var 2)] [.ifs (.cmp .isin (.var 4) (.slice (.var 2) none (some (.var 3)))) [.bad] []]
abbrev CI : Ctx := ⟨fun _ _ => none, fun _ => [], [0]⟩
def initF (d : D) : Option (List D) := match evS CI 99 initA [none, some d, none, none, none] with
  | some (.nx δ1) => match evS CI 98 initB δ1 with
    | some (.nx δ2) => match slot δ2 2 with
      | some (.tup rs) => if fzs rs then some rs else none
      | _ => none
    | _ => none
  | _ => none
def madeF (C : Ctx) (it : Nat) (ways : List (Str × Nat)) : List D → Option (List D)
  | [rule, items, lap] => match evS C 99 (.asg (.nm 4) (.call it [.var 1])) [none, some rule, some items, some lap, none, none] with
    | some (.nx δ1) => match evE C 97 (.sub (.var 4) (.int 0)) δ1 with
      | some (.tmp (.str w), δ2) => match ways.lookup w with
        | some f => match δ2[5]? with
          | some none => match evE C 96 (.call f [(.bi .tuple1 [.var 2]), .var 3, .var 4]) δ2 with
            | some (.tmp d, _) => initF d
            | _ => none
          | _ => none
        | none => none
      | _ => none
    | _ => none
  | _ => none
def outsOf (δ : Dl) (io : List Nat) : Nat → Nat → Option (List D)
  | _, 0 => some []
  | j, m + 1 => if io.contains j then match slot δ j, outsOf δ io (j + 1) m with
      | some d, some ds => if flatOwn d then some (d :: ds) else none
      | _, _ => none
    else outsOf δ io (j + 1) m
def startD (f : Fn) (ds : List D) : Dl := ds.map some ++ List.replicate (f.n - ds.length) none
def evF (T : List Fn) : Nat → Nat → List D → Option (D × List D)
  | 0, _, _ => none
  | k + 1, g, ds => match T[g]? with
    | none => none
    | some f => match f.vt with
      | some (it, ways) => match k with
        | k' + 8 => (madeF ⟨evF T k', fun h => ((T[h]?).map (·.io)).getD [], [0]⟩ it ways ds).map fun rs => (.lst true rs, [])
        | _ => none
      | none => if ds.length = f.ps then match evSs ⟨evF T k, fun h => ((T[h]?).map (·.io)).getD [], f.io⟩ 100 f.body (startD f ds) with
        | some (.rt d δ) => (outsOf δ f.io 0 f.ps).map fun o => (d, o)
        | some (.nx δ) => (outsOf δ f.io 0 f.ps).map fun o => (.non, o)
        | _ => none
      else none
end Ev

set_option linter.all false
set_option maxRecDepth 100000
set_option maxHeartbeats 1000000
/-! Ev: what stands in the heap for a datum; what is owned; how a run leaves the heap -/
namespace Ev
open PySem PySem.Spec PyProof.Rows L2

mutual
theorem frz_of : ∀ d : D, d.fz = true → d.frz = d
  | .non, _ => rfl
  | .bl _, _ => rfl
  | .int _, _ => rfl
  | .str _, _ => rfl
  | .scr _, _ => rfl
  | .tup xs, h => by simp only [D.fz] at h; simp only [D.frz, frzs_of xs h]
  | .lst o xs, h => by
    simp only [D.fz, Bool.and_eq_true, Bool.not_eq_true'] at h
    obtain ⟨h1, h2⟩ := h
    subst h1
    simp only [D.frz, frzs_of xs h2]
theorem frzs_of : ∀ ds : List D, fzs ds = true → frzs ds = ds
  | [], _ => rfl
  | d :: ds, h => by
    simp only [fzs, Bool.and_eq_true] at h
    simp only [frzs, frz_of d h.1, frzs_of ds h.2]
end
mutual
theorem fz_frz : ∀ d : D, d.frz.fz = true
  | .non => rfl
  | .bl _ => rfl
  | .int _ => rfl
  | .str _ => rfl
  | .scr _ => rfl
  | .tup xs => by simp only [D.frz, D.fz, fzs_frzs xs]
  | .lst o xs => by simp only [D.frz, D.fz, fzs_frzs xs]; rfl
theorem fzs_frzs : ∀ ds : List D, fzs (frzs ds) = true
  | [] => rfl
  | d :: ds => by simp only [frzs, fzs, fz_frz d, fzs_frzs ds]; rfl
end
theorem frzs_length : ∀ ds : List D, (frzs ds).length = ds.length
  | [] => rfl
  | d :: ds => by simp only [frzs, List.length_cons, frzs_length ds]
theorem fzs_get : ∀ {ds : List D} {i : Nat} {d : D}, fzs ds = true → ds[i]? = some d → d.fz = true
  | [], i, d, _, e => by simp at e
  | x :: xs, 0, d, h, e => by
    simp only [fzs, Bool.and_eq_true] at h
    simp at e
    subst e
    exact h.1
  | x :: xs, i + 1, d, h, e => by
    simp only [fzs, Bool.and_eq_true] at h
    exact fzs_get (i := i) h.2 (by simpa using e)

/-! ### what stands at a value: shared data -/
mutual
inductive Rp (K : PySem.W.Frag) (F : Hp) : V → D → Prop
  | non : Rp K F .non .non
  | bl (b : Bool) : Rp K F (.bl b) (.bl b)
  | int (i : Int) : Rp K F (.int i) (.int i)
  | str (s : Str) : Rp K F (.str s) (.str s)
  | tup {a : Addr} {vs : List V} {ds : List D} : SqT K F a vs → RpL K F vs ds → Rp K F (.ref a) (.tup ds)
  | lst {a : Addr} {vs : List V} {ds : List D} : F a = some (.lst vs) → RpL K F vs ds → Rp K F (.ref a) (.lst false ds)
  | scr {a : Addr} {ns : List Int} : SqL K F a (ns.map V.int) → Rp K F (.ref a) (.scr ns)
inductive RpL (K : PySem.W.Frag) (F : Hp) : List V → List D → Prop
  | nil : RpL K F [] []
  | cons {v : V} {vs : List V} {d : D} {ds : List D} : Rp K F v d → RpL K F vs ds → RpL K F (v :: vs) (d :: ds)
end
theorem sqt_mono {K : PySem.W.Frag} {F F' : Hp} (s : Same F F') {a : Addr} {xs : List V} (h : SqT K F a xs) : SqT K F' a xs := by
  rcases h with (h | ⟨o, h⟩) | h
  · exact .inl (.inl (s _ _ h))
  · exact .inl (.inr ⟨o, s _ _ h⟩)
  · exact .inr h
section
variable {K : PySem.W.Frag} {F F' H H' : Hp}
mutual
theorem Rp.mono (s : Same F F') : ∀ {v : V} {d : D}, Rp K F v d → Rp K F' v d
  | _, _, .non => .non
  | _, _, .bl b => .bl b
  | _, _, .int i => .int i
  | _, _, .str x => .str x
  | _, _, .tup h l => .tup (sqt_mono s h) (RpL.mono s l)
  | _, _, .lst h l => .lst (s _ _ h) (RpL.mono s l)
  | _, _, .scr h => .scr (s.seq h)
theorem RpL.mono (s : Same F F') : ∀ {vs : List V} {ds : List D}, RpL K F vs ds → RpL K F' vs ds
  | _, _, .nil => .nil
  | _, _, .cons h t => .cons (Rp.mono s h) (RpL.mono s t)
end
mutual
theorem Rp.fz : ∀ {v : V} {d : D}, Rp K F v d → d.fz = true
  | _, _, .non => rfl
  | _, _, .bl b => rfl
  | _, _, .int i => rfl
  | _, _, .str x => rfl
  | _, _, .tup h l => by simp only [D.fz]; exact RpL.fz l
  | _, _, .lst h l => by simp only [D.fz, Bool.not_false, Bool.true_and]; exact RpL.fz l
  | _, _, .scr h => rfl
theorem RpL.fz : ∀ {vs : List V} {ds : List D}, RpL K F vs ds → fzs ds = true
  | _, _, .nil => rfl
  | _, _, .cons h t => by simp only [fzs, Rp.fz h, RpL.fz t]; rfl
end
theorem RpL.length : ∀ {vs : List V} {ds : List D}, RpL K F vs ds → vs.length = ds.length
  | _, _, .nil => rfl
  | _, _, .cons _ t => by simp only [List.length_cons, RpL.length t]
theorem RpL.get : ∀ {vs : List V} {ds : List D} {i : Nat} {d : D}, RpL K F vs ds → ds[i]? = some d → ∃ v, vs[i]? = some v ∧ Rp K F v d
  | _, _, i, d, .nil, e => by simp at e
  | _, _, 0, d, .cons h t, e => by simp at e; subst e; exact ⟨_, rfl, h⟩
  | _, _, i + 1, d, .cons h t, e => by
    obtain ⟨v, h1, h2⟩ := RpL.get (i := i) (d := d) t (by simpa using e)
    exact ⟨v, by simpa using h1, h2⟩
theorem RpL.append : ∀ {vs ws : List V} {ds es : List D}, RpL K F vs ds → RpL K F ws es → RpL K F (vs ++ ws) (ds ++ es)
  | _, _, _, _, .nil, q => q
  | _, _, _, _, .cons h t, q => .cons h (RpL.append t q)
theorem RpL.take : ∀ {vs : List V} {ds : List D} (n : Nat), RpL K F vs ds → RpL K F (vs.take n) (ds.take n)
  | _, _, 0, _ => .nil
  | _, _, _ + 1, .nil => .nil
  | _, _, n + 1, .cons h t => .cons h (RpL.take n t)
theorem RpL.drop : ∀ {vs : List V} {ds : List D} (n : Nat), RpL K F vs ds → RpL K F (vs.drop n) (ds.drop n)
  | _, _, 0, r => r
  | _, _, _ + 1, .nil => .nil
  | _, _, n + 1, .cons h t => RpL.drop n t
theorem RpL.reverse {vs : List V} {ds : List D} (h : RpL K F vs ds) : RpL K F vs.reverse ds.reverse := by
  induction vs generalizing ds with
  | nil => cases h; exact .nil
  | cons v vs ih =>
    cases h with
    | cons h t =>
      rw [List.reverse_cons, List.reverse_cons]
      exact (ih t).append (.cons h .nil)

/-! ### what is owned; W: a set in which the owned cells lie -/
abbrev Fp := Addr → Prop
def Dj (W U : Fp) : Prop := ∀ b, W b → ¬ U b
def Un2 (W U : Fp) : Fp := fun b => W b ∨ U b
def No : Fp := fun _ => False
mutual
inductive Ow (K : PySem.W.Frag) (F H : Hp) : V → D → Fp → Prop
  | frz {v : V} {d : D} {W : Fp} : Rp K F v d → Ow K F H v d W
  | own {a : Addr} {vs : List V} {ds : List D} {W U : Fp} : H a = some (.lst vs) → F a = none → W a → OwL K F H vs ds U → ¬ U a → (∀ b, U b → W b) → Ow K F H (.ref a) (.lst true ds) W
inductive OwL (K : PySem.W.Frag) (F H : Hp) : List V → List D → Fp → Prop
  | nil {W : Fp} : OwL K F H [] [] W
  | cons {v : V} {vs : List V} {d : D} {ds : List D} {W W1 W2 : Fp} : Ow K F H v d W1 → OwL K F H vs ds W2 → Dj W1 W2 → (∀ b, W1 b → W b) → (∀ b, W2 b → W b) → OwL K F H (v :: vs) (d :: ds) W
end
theorem Ow.weak {v : V} {d : D} {W W' : Fp} (h : Ow K F H v d W) (s : ∀ b, W b → W' b) : Ow K F H v d W' := by
  cases h with
  | frz r => exact .frz r
  | own h1 h2 h3 h4 h5 h6 => exact .own h1 h2 (s _ h3) h4 h5 fun b q => s b (h6 b q)
theorem OwL.weak {vs : List V} {ds : List D} {W W' : Fp} (h : OwL K F H vs ds W) (s : ∀ b, W b → W' b) : OwL K F H vs ds W' := by
  cases h with
  | nil => exact .nil
  | cons h1 h2 h3 h4 h5 => exact .cons h1 h2 h3 (fun b q => s b (h4 b q)) fun b q => s b (h5 b q)
mutual
theorem Ow.keep (s : Same F F') : ∀ {v : V} {d : D} {W : Fp}, Ow K F H v d W → (∀ b, W b → ∀ o, H b = some o → F b = none → H' b = some o ∧ F' b = none) → Ow K F' H' v d W
  | _, _, _, .frz r, _ => .frz (r.mono s)
  | _, _, _, .own h1 h2 h3 h4 h5 h6, k => .own (k _ h3 _ h1 h2).1 (k _ h3 _ h1 h2).2 h3 (OwL.keep s h4 fun b q => k b (h6 b q)) h5 h6
theorem OwL.keep (s : Same F F') : ∀ {vs : List V} {ds : List D} {W : Fp}, OwL K F H vs ds W → (∀ b, W b → ∀ o, H b = some o → F b = none → H' b = some o ∧ F' b = none) → OwL K F' H' vs ds W
  | _, _, _, .nil, _ => .nil
  | _, _, _, .cons h1 h2 h3 h4 h5, k => .cons (Ow.keep s h1 fun b q => k b (h4 b q)) (OwL.keep s h2 fun b q => k b (h5 b q)) h3 h4 h5
end
theorem Ow.fz {v : V} {d : D} {W : Fp} (h : Ow K F H v d W) (e : d.fz = true) : Rp K F v d := by
  cases h with
  | frz r => exact r
  | own _ _ _ _ _ _ => simp [D.fz] at e
theorem OwL.fz : ∀ {vs : List V} {ds : List D} {W : Fp}, OwL K F H vs ds W → fzs ds = true → RpL K F vs ds
  | _, _, _, .nil, _ => .nil
  | _, _, _, .cons h1 h2 _ _ _, e => by
    simp only [fzs, Bool.and_eq_true] at e
    exact .cons (h1.fz e.1) (OwL.fz h2 e.2)
theorem OwL.length : ∀ {vs : List V} {ds : List D} {W : Fp}, OwL K F H vs ds W → vs.length = ds.length
  | _, _, _, .nil => rfl
  | _, _, _, .cons _ h2 _ _ _ => by simp only [List.length_cons, OwL.length h2]
theorem OwL.of : ∀ {vs : List V} {ds : List D} {W : Fp}, RpL K F vs ds → OwL K F H vs ds W
  | _, _, _, .nil => .nil
  | _, _, _, .cons h t => .cons (W1 := No) (W2 := No) (.frz h) (OwL.of t) (fun _ q => q.elim) (fun _ q => q.elim) fun _ q => q.elim

/-! ### an owned thing is shared -/
open Classical in
noncomputable def fzH (F H : Hp) (W : Fp) : Hp := fun b => if W b then H b else F b
theorem fzH_in {W : Fp} {b : Addr} (h : W b) : fzH F H W b = H b := by unfold fzH; rw [if_pos h]
theorem fzH_out {W : Fp} {b : Addr} (h : ¬ W b) : fzH F H W b = F b := by unfold fzH; rw [if_neg h]
theorem fzH_sub {W : Fp} (s : Same F H) : Same F (fzH F H W) := fun b o e => by
  by_cases h : W b
  · rw [fzH_in h]; exact s _ _ e
  · rw [fzH_out h]; exact e
theorem fzH_le {W : Fp} (s : Same F H) : Same (fzH F H W) H := fun b o e => by
  by_cases h : W b
  · rw [fzH_in h] at e; exact e
  · rw [fzH_out h] at e; exact s _ _ e
theorem fzH_new {W : Fp} {b : Addr} {o : HO} (e : fzH F H W b = some o) : F b = some o ∨ W b := by
  by_cases h : W b
  · exact .inr h
  · rw [fzH_out h] at e; exact .inl e
mutual
theorem Ow.share (s : Same F H) {U : Fp} : ∀ {v : V} {d : D} {W : Fp}, Ow K F H v d W → (∀ b, W b → U b) → Rp K (fzH F H U) v d.frz
  | _, d, _, .frz r, _ => by rw [frz_of d r.fz]; exact r.mono (fzH_sub s)
  | _, _, _, .own h1 h2 h3 h4 h5 h6, k => by
    simp only [D.frz]
    exact .lst (by rw [fzH_in (k _ h3)]; exact h1) (OwL.share s h4 fun b q => k b (h6 b q))
theorem OwL.share (s : Same F H) {U : Fp} : ∀ {vs : List V} {ds : List D} {W : Fp}, OwL K F H vs ds W → (∀ b, W b → U b) → RpL K (fzH F H U) vs (frzs ds)
  | _, _, _, .nil, _ => .nil
  | _, _, _, .cons h1 h2 _ h4 h5, k => .cons (Ow.share s h1 fun b q => k b (h4 b q)) (OwL.share s h2 fun b q => k b (h5 b q))
end

/-! ### places -/
def PathTo (H : Hp) : V → List Nat → V → Prop
  | v0, [], v => v0 = v
  | v0, k :: p, v => ∃ a vs v1, v0 = .ref a ∧ H a = some (.lst vs) ∧ vs[k]? = some v1 ∧ PathTo H v1 p v
theorem PathTo.uniq : ∀ {p : List Nat} {v0 v v' : V}, PathTo H v0 p v → PathTo H v0 p v' → v = v'
  | [], _, _, _, a, b => a.symm.trans b
  | k :: p, _, _, _, ⟨a, vs, v1, e1, h1, g1, q1⟩, ⟨a', vs', v1', e2, h2, g2, q2⟩ => by
    subst e1
    cases e2
    rw [h1] at h2
    cases h2
    rw [g1] at g2
    cases g2
    exact PathTo.uniq q1 q2
theorem OwL.get : ∀ {vs : List V} {ds : List D} {W : Fp} {i : Nat} {d : D}, OwL K F H vs ds W → ds[i]? = some d → ∃ v U, vs[i]? = some v ∧ Ow K F H v d U ∧ ∀ b, U b → W b
  | _, _, _, i, d, .nil, e => by simp at e
  | _, _, _, 0, d, .cons h1 _ _ h4 _, e => by simp at e; subst e; exact ⟨_, _, rfl, h1, h4⟩
  | _, _, _, i + 1, d, .cons _ h2 _ _ h5, e => by
    obtain ⟨v, U, g, h, s⟩ := OwL.get (i := i) (d := d) h2 (by simpa using e)
    exact ⟨v, U, by simpa using g, h, fun b q => h5 b (s b q)⟩
theorem Ow.at : ∀ {p : List Nat} {v0 : V} {d0 d : D} {W : Fp}, Ow K F H v0 d0 W → d0.at p = some d → ∃ v U, PathTo H v0 p v ∧ Ow K F H v d U ∧ ∀ b, U b → W b
  | [], v0, d0, d, W, h, e => by
    simp only [D.at, Option.some.injEq] at e
    subst e
    exact ⟨v0, W, rfl, h, fun _ q => q⟩
  | k :: p, v0, d0, d, W, h, e => by
    cases d0 with
    | lst o ds =>
      cases o with
      | true =>
        cases h with
        | frz r => cases r
        | own h1 h2 h3 h4 h5 h6 =>
          simp only [D.at] at e
          split at e
          · rename_i x ex
            obtain ⟨v1, U1, g1, o1, s1⟩ := h4.get ex
            obtain ⟨v, U, q, o2, s2⟩ := Ow.at o1 e
            exact ⟨v, U, ⟨_, _, v1, rfl, h1, g1, q⟩, o2, fun b z => h6 b (s1 b (s2 b z))⟩
          · cases e
      | false => simp [D.at] at e
    | _ => simp [D.at] at e
end
end Ev

set_option linter.all false
set_option maxRecDepth 100000
set_option maxHeartbeats 1000000
/-! Ev: states, how a run leaves them, places shared and changed -/
namespace Ev
open PySem PySem.Spec PyProof.Rows L2
theorem set_self {α : Type} : ∀ {l : List α} {k : Nat} {x : α}, l[k]? = some x → l.set k x = l
  | [], k, x, e => by simp at e
  | y :: l, 0, x, e => by simp at e; simp [e]
  | y :: l, k + 1, x, e => by simp only [List.set_cons_succ]; rw [set_self (by simpa using e)]
section
variable {K : PySem.W.Frag} {F H : Hp}
/-- what is kept at the cells of W that are not U's -/
def Kept (F H F' H' : Hp) (W U : Fp) : Prop := ∀ b, W b → ¬ U b → ∀ o, H b = some o → F b = none → H' b = some o ∧ F' b = none
theorem OwL.zip : ∀ {vs : List V} {ds : List D} {W : Fp} {k : Nat} {d : D}, OwL K F H vs ds W → ds[k]? = some d → ∃ v U, vs[k]? = some v ∧ Ow K F H v d U ∧ (∀ b, U b → W b) ∧
    ∀ {F' H' : Hp} {v' : V} {d' : D} {U' W' : Fp}, Same F F' → Ow K F' H' v' d' U' → Kept F H F' H' W U → (∀ b, U' b → U b ∨ ¬ W b) → (∀ b, W b → W' b) → (∀ b, U' b → W' b) → OwL K F' H' (vs.set k v') (ds.set k d') W'
  | _, _, _, k, d, .nil, e => by simp at e
  | _, _, _, 0, d, .cons (v := v) (W1 := W1) (W2 := W2) h1 h2 h3 h4 h5, e => by
    simp at e
    subst e
    refine ⟨v, W1, rfl, h1, h4, fun {F' H' v' d' U' W'} s o kp un w1 w2 => ?_⟩
    simp only [List.set_cons_zero]
    refine .cons o (h2.keep s fun b q => kp b (h5 b q) fun z => h3 b z q) (fun b q z => ?_) w2 fun b q => w1 b (h5 b q)
    rcases un b q with r | r
    · exact h3 b r z
    · exact r (h5 b z)
  | _, _, _, k + 1, d, .cons (v := v0) (W1 := W1) (W2 := W2) h1 h2 h3 h4 h5, e => by
    obtain ⟨v, U, g, o, s1, z⟩ := OwL.zip (k := k) h2 (by simpa using e)
    refine ⟨v, U, by simpa using g, o, fun b q => h5 b (s1 b q), fun {F' H' v' d' U' W'} s o' kp un w1 w2 => ?_⟩
    simp only [List.set_cons_succ]
    refine .cons (W1 := W1) (W2 := Un2 W2 U') (h1.keep s fun b q => kp b (h4 b q) fun r => h3 b q (s1 b r)) (z s o' (fun b q => kp b (h5 b q)) (fun b q => (un b q).imp id fun r t => r (h5 b t)) (fun b q => .inl q) fun b q => .inr q) (fun b q r => ?_) (fun b q => w1 b (h4 b q)) fun b q => ?_
    · rcases r with r | r
      · exact h3 b q r
      · rcases un b r with t | t
        · exact h3 b q (s1 b t)
        · exact t (h4 b q)
    · rcases q with q | q
      · exact w1 b (h5 b q)
      · exact w2 b q
theorem Ow.zip : ∀ {p : List Nat} {v0 : V} {d0 d : D} {W : Fp}, Ow K F H v0 d0 W → d0.at p = some d → ∃ v U, PathTo H v0 p v ∧ Ow K F H v d U ∧ (∀ b, U b → W b) ∧
    ∀ {F' H' : Hp} {d' d0' : D} {U' W' : Fp} {f : D → Option D}, Same F F' → Ow K F' H' v d' U' → Kept F H F' H' W U → (∀ b, U' b → U b ∨ ¬ W b) → (∀ b, W b → W' b) → (∀ b, U' b → W' b) →
      f d = some d' → d0.upAt p f = some d0' → Ow K F' H' v0 d0' W'
  | [], v0, d0, d, W, h, e => by
    simp only [D.at, Option.some.injEq] at e
    subst e
    refine ⟨v0, W, rfl, h, fun _ q => q, fun {F' H' d' d0' U' W' f} s o kp un w1 w2 hf hu => ?_⟩
    simp only [D.upAt] at hu
    rw [hf] at hu
    cases hu
    exact o.weak w2
  | k :: p, v0, d0, d, W, h, e => by
    cases d0 with
    | lst o ds =>
      cases o with
      | true =>
        cases h with
        | frz r => cases r
        | @own a vs _ _ W0 h1 h2 h3 h4 h5 h6 =>
          simp only [D.at] at e
          split at e
          · rename_i x ex
            obtain ⟨v1, U1, g1, o1, s1, z1⟩ := h4.zip ex
            obtain ⟨v, U, q, o2, s2, z2⟩ := Ow.zip o1 e
            refine ⟨v, U, ⟨_, _, v1, rfl, h1, g1, q⟩, o2, fun b z => h6 b (s1 b (s2 b z)), fun {F' H' d' d0' U' W' f} s o kp un w1 w2 hf hu => ?_⟩
            simp only [D.upAt, ex] at hu
            split at hu
            · rename_i y ey
              cases hu
              have na : ¬ U a := fun z => h5 (s1 a (s2 a z))
              obtain ⟨ha, fa⟩ := kp a h3 na _ h1 h2
              have oy : Ow K F' H' v1 y (Un2 U1 U') := z2 s o (fun b q => kp b (h6 b (s1 b q))) (fun b q => (un b q).imp id fun r t => r (h6 b (s1 b t))) (fun b q => .inl q) (fun b q => .inr q) hf ey
              have l := z1 (F' := F') (H' := H') (v' := v1) (d' := y) (U' := Un2 U1 U') (W' := Un2 W0 U') s oy (fun b q n => kp b (h6 b q) fun z => n (s2 b z)) (fun b q => ?_) (fun b q => .inl q) fun b q => q.imp (s1 b) id
              · rw [set_self g1] at l
                refine .own ha fa (w1 a h3) l (fun z => ?_) fun b z => ?_
                · rcases z with z | z
                  · exact h5 z
                  · rcases un a z with t | t
                    · exact na t
                    · exact t h3
                · rcases z with z | z
                  · exact w1 b (h6 b z)
                  · exact w2 b z
              · rcases q with q | q
                · exact .inl q
                · rcases un b q with t | t
                  · exact .inl (s2 b t)
                  · exact .inr fun z => t (h6 b z)
            · cases hu
          · cases e
      | false => simp [D.at] at e
    | _ => simp [D.at] at e
/-- at a place: what stands there is shared, all else is as it was -/
theorem Ow.shareAt (s : Same F H) {p : List Nat} {v0 : V} {d0 d d0' : D} {W : Fp} (h : Ow K F H v0 d0 W) (e : d0.at p = some d) (u : d0.upAt p (fun x => some x.frz) = some d0') :
    ∃ F' v, PathTo H v0 p v ∧ Same F F' ∧ Same F' H ∧ (∀ b o, F' b = some o → F b = some o ∨ W b) ∧ Rp K F' v d.frz ∧ Ow K F' H v0 d0' W := by
  obtain ⟨v, U, q, o, s1, z⟩ := h.zip e
  have r := o.share s (U := U) fun _ z => z
  exact ⟨fzH F H U, v, q, fzH_sub s, fzH_le s, fun b o z => (fzH_new z).imp id (s1 b), r, z (U' := No) (fzH_sub s) (.frz r) (fun b _ n o e f => ⟨e, by rw [fzH_out n]; exact f⟩) (fun _ q => q.elim) (fun _ q => q) (fun _ q => q.elim) rfl u⟩
end

/-! ### a state: the slots' data -/
section
variable {K : PySem.W.Frag} {F F' H H' : Hp}
inductive StL (K : PySem.W.Frag) (F H : Hp) : L2.St → Dl → Fp → Prop
  | nil {W : Fp} : StL K F H [] [] W
  | gap {x : Option V} {σ : L2.St} {δ : Dl} {W : Fp} : StL K F H σ δ W → StL K F H (x :: σ) (none :: δ) W
  | one {v : V} {d : D} {σ : L2.St} {δ : Dl} {W W1 W2 : Fp} : Ow K F H v d W1 → StL K F H σ δ W2 → Dj W1 W2 → (∀ b, W1 b → W b) → (∀ b, W2 b → W b) → StL K F H (some v :: σ) (some d :: δ) W
structure SOk (K : PySem.W.Frag) (F H : Hp) (σ : L2.St) (δ : Dl) (W : Fp) : Prop where
  sub : Same F H
  st : StL K F H σ δ W
  lv : ∀ b, W b → H b ≠ none
theorem StL.weak : ∀ {σ : L2.St} {δ : Dl} {W W' : Fp}, StL K F H σ δ W → (∀ b, W b → W' b) → StL K F H σ δ W'
  | _, _, _, _, .nil, _ => .nil
  | _, _, _, _, .gap h, s => .gap (StL.weak h s)
  | _, _, _, _, .one h1 h2 h3 h4 h5, s => .one h1 h2 h3 (fun b q => s b (h4 b q)) fun b q => s b (h5 b q)
theorem StL.keep (s : Same F F') : ∀ {σ : L2.St} {δ : Dl} {W : Fp}, StL K F H σ δ W → (∀ b, W b → ∀ o, H b = some o → F b = none → H' b = some o ∧ F' b = none) → StL K F' H' σ δ W
  | _, _, _, .nil, _ => .nil
  | _, _, _, .gap h, k => .gap (StL.keep s h k)
  | _, _, _, .one h1 h2 h3 h4 h5, k => .one (h1.keep s fun b q => k b (h4 b q)) (StL.keep s h2 fun b q => k b (h5 b q)) h3 h4 h5
theorem StL.length : ∀ {σ : L2.St} {δ : Dl} {W : Fp}, StL K F H σ δ W → σ.length = δ.length
  | _, _, _, .nil => rfl
  | _, _, _, .gap h => by simp only [List.length_cons, StL.length h]
  | _, _, _, .one _ h _ _ _ => by simp only [List.length_cons, StL.length h]
/-- a slot with its data taken out, and put in again, changed -/
theorem StL.zip : ∀ {σ : L2.St} {δ : Dl} {W : Fp} {i : Nat} {d : D}, StL K F H σ δ W → δ[i]? = some (some d) → ∃ v U R, σ[i]? = some (some v) ∧ Ow K F H v d U ∧ (∀ b, U b → W b) ∧ (∀ b, R b → W b) ∧ Dj U R ∧ StL K F H σ (δ.set i none) R ∧
    ∀ {F' H' : Hp} {d' : D} {U' W' : Fp}, Same F F' → Ow K F' H' v d' U' → Kept F H F' H' W U → (∀ b, U' b → U b ∨ ¬ W b) → (∀ b, W b → W' b) → (∀ b, U' b → W' b) → StL K F' H' σ (δ.set i (some d')) W'
  | _, _, _, i, d, .nil, e => by simp at e
  | _, _, _, 0, d, .gap h, e => by simp at e
  | _, _, _, i + 1, d, .gap h, e => by
    obtain ⟨v, U, R, g, o, s1, s2, dj, t, z⟩ := StL.zip (i := i) h (by simpa using e)
    exact ⟨v, U, R, by simpa using g, o, s1, s2, dj, by simpa using StL.gap t, fun {F' H' d' U' W'} s o' kp un w1 w2 => by simpa using StL.gap (z s o' kp un w1 w2)⟩
  | _, _, _, 0, d, .one (v := v) (W1 := W1) (W2 := W2) h1 h2 h3 h4 h5, e => by
    simp at e
    subst e
    refine ⟨v, W1, W2, rfl, h1, h4, h5, h3, by simpa using StL.gap h2, fun {F' H' d' U' W'} s o' kp un w1 w2 => ?_⟩
    simp only [List.set_cons_zero]
    refine .one o' (h2.keep s fun b q => kp b (h5 b q) fun z => h3 b z q) (fun b q z => ?_) w2 fun b q => w1 b (h5 b q)
    rcases un b q with r | r
    · exact h3 b r z
    · exact r (h5 b z)
  | _, _, _, i + 1, d, .one (v := v0) (d := d0) (W1 := W1) (W2 := W2) h1 h2 h3 h4 h5, e => by
    obtain ⟨v, U, R, g, o, s1, s2, dj, t, z⟩ := StL.zip (i := i) h2 (by simpa using e)
    refine ⟨v, U, Un2 W1 R, by simpa using g, o, fun b q => h5 b (s1 b q), fun b q => q.elim (h4 b) fun q => h5 b (s2 b q), fun b q r => ?_, ?_, fun {F' H' d' U' W'} s o' kp un w1 w2 => ?_⟩
    · rcases r with r | r
      · exact h3 b r (s1 b q)
      · exact dj b q r
    · simp only [List.set_cons_succ]
      exact .one h1 t (fun b q r => h3 b q (s2 b r)) (fun b q => .inl q) fun b q => .inr q
    · simp only [List.set_cons_succ]
      refine .one (W1 := W1) (W2 := Un2 W2 U') (h1.keep s fun b q => kp b (h4 b q) fun r => h3 b q (s1 b r)) (z s o' (fun b q => kp b (h5 b q)) (fun b q => (un b q).imp id fun r t => r (h5 b t)) (fun b q => .inl q) fun b q => .inr q) (fun b q r => ?_) (fun b q => w1 b (h4 b q)) fun b q => ?_
      · rcases r with r | r
        · exact h3 b q r
        · rcases un b r with t | t
          · exact h3 b q (s1 b t)
          · exact t (h4 b q)
      · rcases q with q | q
        · exact w1 b (h5 b q)
        · exact w2 b q
/-- a slot's data forgotten -/
theorem StL.drop : ∀ {σ : L2.St} {δ : Dl} {W : Fp} (i : Nat), StL K F H σ δ W → StL K F H σ (δ.set i none) W
  | _, _, _, _, .nil => .nil
  | _, _, _, 0, .gap h => .gap h
  | _, _, _, i + 1, .gap h => .gap (StL.drop i h)
  | _, _, _, 0, .one _ h2 _ _ h5 => .gap (h2.weak h5)
  | _, _, _, i + 1, .one h1 h2 h3 h4 h5 => .one h1 (StL.drop i h2) h3 h4 h5
/-- a slot is stored -/
theorem StL.put : ∀ {σ : L2.St} {δ : Dl} {W U W' : Fp} {i : Nat} {v : V} {d : D}, StL K F H σ δ W → i < δ.length → Ow K F H v d U → Dj U W → (∀ b, W b → W' b) → (∀ b, U b → W' b) → StL K F H (σ.set i (some v)) (δ.set i (some d)) W'
  | _, _, _, _, _, i, _, _, .nil, hi, _, _, _, _ => by simp at hi
  | _, _, _, _, _, 0, _, _, .gap h, _, o, dj, w1, w2 => by
    simp only [List.set_cons_zero]
    exact .one o h dj w2 w1
  | _, _, _, _, _, i + 1, _, _, .gap h, hi, o, dj, w1, w2 => by
    simp only [List.set_cons_succ]
    exact .gap (StL.put h (by simpa using hi) o dj w1 w2)
  | _, _, _, _, _, 0, _, _, .one h1 h2 h3 h4 h5, _, o, dj, w1, w2 => by
    simp only [List.set_cons_zero]
    exact .one o h2 (fun b q r => dj b q (h5 b r)) w2 fun b q => w1 b (h5 b q)
  | _, _, W, U, W', i + 1, _, _, .one (W1 := W1) (W2 := W2) h1 h2 h3 h4 h5, hi, o, dj, w1, w2 => by
    simp only [List.set_cons_succ]
    refine .one (W1 := W1) (W2 := Un2 W2 U) h1 (StL.put h2 (by simpa using hi) o (fun b q r => dj b q (h5 b r)) (fun b q => .inl q) fun b q => .inr q) (fun b q r => ?_) (fun b q => w1 b (h4 b q)) fun b q => ?_
    · rcases r with r | r
      · exact h3 b q r
      · exact dj b r (h4 b q)
    · rcases q with q | q
      · exact w1 b (h5 b q)
      · exact w2 b q
/-- a slot whose value stays gets its data again -/
theorem StL.back : ∀ {σ : L2.St} {δ : Dl} {W U W' : Fp} {i : Nat} {v : V} {d : D}, StL K F H σ δ W → σ[i]? = some (some v) → Ow K F H v d U → Dj U W → (∀ b, W b → W' b) → (∀ b, U b → W' b) → StL K F H σ (δ.set i (some d)) W' := by
  intro σ δ W U W' i v d h g o dj w1 w2
  have hi : i < δ.length := by rw [← h.length]; exact (List.getElem?_eq_some_iff.mp g).1
  have q := h.put hi o dj w1 w2
  rwa [set_self g] at q

/-! ### how a run leaves the heap -/
structure Ext (F H : Hp) (W : Fp) (F' H' : Hp) (W' : Fp) : Prop where
  fsub : Same F F'
  fnew : ∀ b o, F' b = some o → F b = some o ∨ W b ∨ H b = none
  keep : ∀ b o, H b = some o → ¬ W b → H' b = some o
  live : ∀ b, H' b = none → H b = none
  wnew : ∀ b, W' b → W b ∨ H b = none
theorem Ext.refl {W : Fp} : Ext F H W F H W := ⟨fun _ _ h => h, fun _ _ h => .inl h, fun _ _ h _ => h, fun _ h => h, fun _ h => .inl h⟩
theorem Ext.trans {F1 H1 F2 H2 : Hp} {W W1 W2 : Fp} (a : Ext F H W F1 H1 W1) (b : Ext F1 H1 W1 F2 H2 W2) : Ext F H W F2 H2 W2 where
  fsub := a.fsub.trans b.fsub
  fnew := fun c o h => by
    rcases b.fnew c o h with q | q | q
    · exact a.fnew c o q
    · exact .inr (a.wnew c q)
    · exact .inr (.inr (a.live c q))
  keep := fun c o h n => by
    refine b.keep c o (a.keep c o h n) fun q => ?_
    rcases a.wnew c q with r | r
    · exact n r
    · rw [h] at r; cases r
  live := fun c h => a.live c (b.live c h)
  wnew := fun c h => by
    rcases b.wnew c h with q | q
    · exact a.wnew c q
    · exact .inr (a.live c q)
theorem Ext.mono {W W' U U' : Fp} (a : Ext F H W F' H' W') (s : ∀ b, W b → U b) (t : ∀ b, U' b → W' b ∨ U b) : Ext F H U F' H' U' :=
  ⟨a.fsub, fun b o h => (a.fnew b o h).imp id (Or.imp (s b) id), fun b o h n => a.keep b o h fun q => n (s b q), a.live, fun b h => (t b h).elim (fun q => (a.wnew b q).imp (s b) id) .inl⟩
/-- what is apart is kept -/
theorem Ext.apart {W W' U : Fp} (a : Ext F H W F' H' W') (d : Dj U W) : ∀ b, U b → ∀ o, H b = some o → F b = none → H' b = some o ∧ F' b = none := fun b q o h f => by
  refine ⟨a.keep b o h (d b q), ?_⟩
  cases e : F' b with
  | none => rfl
  | some u =>
    rcases a.fnew b u e with r | r | r
    · rw [f] at r; cases r
    · exact absurd r (d b q)
    · rw [h] at r; cases r
theorem Ow.ext {W W' U : Fp} {v : V} {d : D} (o : Ow K F H v d U) (a : Ext F H W F' H' W') (dj : Dj U W) : Ow K F' H' v d U := o.keep a.fsub (a.apart dj)
/-- the owned cells that stand -/
def Liv (H : Hp) (U : Fp) : Fp := fun b => U b ∧ H b ≠ none
mutual
theorem Ow.liv : ∀ {v : V} {d : D} {W : Fp}, Ow K F H v d W → Ow K F H v d (Liv H W)
  | _, _, _, .frz r => .frz r
  | _, _, _, .own h1 h2 h3 h4 h5 h6 => .own h1 h2 ⟨h3, by rw [h1]; simp⟩ (OwL.liv h4) (fun z => h5 z.1) fun b q => ⟨h6 b q.1, q.2⟩
theorem OwL.liv : ∀ {vs : List V} {ds : List D} {W : Fp}, OwL K F H vs ds W → OwL K F H vs ds (Liv H W)
  | _, _, _, .nil => .nil
  | _, _, _, .cons h1 h2 h3 h4 h5 => .cons (Ow.liv h1) (OwL.liv h2) (fun b q r => h3 b q.1 r.1) (fun b q => ⟨h4 b q.1, q.2⟩) fun b q => ⟨h5 b q.1, q.2⟩
end
theorem StL.liv : ∀ {σ : L2.St} {δ : Dl} {W : Fp}, StL K F H σ δ W → StL K F H σ δ (Liv H W)
  | _, _, _, .nil => .nil
  | _, _, _, .gap h => .gap (StL.liv h)
  | _, _, _, .one h1 h2 h3 h4 h5 => .one h1.liv (StL.liv h2) (fun b q r => h3 b q.1 r.1) (fun b q => ⟨h4 b q.1, q.2⟩) fun b q => ⟨h5 b q.1, q.2⟩
theorem Ext.dj {W W' U : Fp} (a : Ext F H W F' H' W') (d : Dj U W) (l : ∀ b, U b → H b ≠ none) : Dj U W' := fun b q r => by
  rcases a.wnew b r with z | z
  · exact d b q z
  · exact l b q z
end
end Ev

set_option linter.all false
set_option maxRecDepth 100000
set_option maxHeartbeats 1000000
/-! Ev: values on their way -/
namespace Ev
open PySem PySem.Spec PyProof.Rows L2
section
variable {K : PySem.W.Frag} {F F' H H' : Hp}
/-- a run has left this: the state, and beside it the cells Wt of what it hands on -/
structure Post (K : PySem.W.Frag) (F H : Hp) (W : Fp) (F' H' : Hp) (σ : L2.St) (δ' : Dl) (W' Wt : Fp) : Prop where
  ok : SOk K F' H' σ δ' W'
  dj : Dj Wt W'
  lt : ∀ b, Wt b → H' b ≠ none
  ext : Ext F H W F' H' (Un2 Wt W')
theorem Post.refl {σ : L2.St} {δ : Dl} {W : Fp} (h : SOk K F H σ δ W) : Post K F H W F H σ δ W No :=
  ⟨h, fun _ q => q.elim, fun _ q => q.elim, Ext.refl.mono (fun _ q => q) fun b q => .inl (q.elim False.elim id)⟩
/-- one run behind another, nothing is handed on from the first -/
theorem Post.trans0 {F1 H1 F2 H2 : Hp} {σ1 σ2 : L2.St} {δ1 δ2 : Dl} {W W1 W2 Wa Wb : Fp} (a : Post K F H W F1 H1 σ1 δ1 W1 Wa) (b : Post K F1 H1 W1 F2 H2 σ2 δ2 W2 Wb) : Post K F H W F2 H2 σ2 δ2 W2 Wb :=
  ⟨b.ok, b.dj, b.lt, a.ext.trans (b.ext.mono (fun c q => .inr q) fun c q => .inl q)⟩
/-- .., what the first hands on is kept -/
theorem Post.keepT {F1 H1 F2 H2 : Hp} {σ1 σ2 : L2.St} {δ1 δ2 : Dl} {W W1 W2 Wa Wb : Fp} (a : Post K F H W F1 H1 σ1 δ1 W1 Wa) (b : Post K F1 H1 W1 F2 H2 σ2 δ2 W2 Wb) :
    Dj Wa (Un2 Wb W2) ∧ Post K F H W F2 H2 σ2 δ2 W2 (Un2 Wa Wb) := by
  have d := b.ext.dj a.dj a.lt
  refine ⟨d, b.ok, fun c q r => ?_, fun c q => ?_, ?_⟩
  · rcases q with q | q
    · exact d c q (.inr r)
    · exact b.dj c q r
  · rcases q with q | q
    · intro z
      exact a.lt c q (b.ext.live c z)
    · exact b.lt c q
  · refine a.ext.trans (b.ext.mono (fun c q => .inr q) fun c q => ?_)
    rcases q with (q | q) | q
    · exact .inr (.inl q)
    · exact .inl (.inl q)
    · exact .inl (.inr q)
theorem Post.weakT {σ : L2.St} {δ' : Dl} {W W' Wt Wu : Fp} (a : Post K F H W F' H' σ δ' W' Wt) (s : ∀ b, Wu b → Wt b) : Post K F H W F' H' σ δ' W' Wu :=
  ⟨a.ok, fun b q => a.dj b (s b q), fun b q => a.lt b (s b q), a.ext.mono (fun _ q => q) fun b q => .inl (q.imp (s b) id)⟩

/-! ### a value or a place -/
inductive AOk (K : PySem.W.Frag) (F H : Hp) (σ : L2.St) : V → A → Fp → Prop
  | tmp {v : V} {d : D} {W : Fp} : Ow K F H v d W → AOk K F H σ v (.tmp d) W
  | bor {v0 v : V} {i : Nat} {p : List Nat} {W : Fp} : σ[i]? = some (some v0) → PathTo H v0 p v → AOk K F H σ v (.bor i p) W
/-- what is seen there -/
def Vw (K : PySem.W.Frag) (F H : Hp) (v : V) (d : D) : Prop := ∃ W, Ow K F H v d W
theorem slot_some {δ : Dl} {i : Nat} {d : D} (e : slot δ i = some d) : δ[i]? = some (some d) := by
  unfold slot at e
  split at e
  · rename_i x h
    cases e
    exact h
  · cases e
theorem slot_of {δ : Dl} {i : Nat} {d : D} (e : δ[i]? = some (some d)) : slot δ i = some d := by
  unfold slot
  rw [e]
theorem AOk.look {σ : L2.St} {δ : Dl} {W Wt : Fp} {v : V} {a : A} {d : D} (h : AOk K F H σ v a Wt) (s : SOk K F H σ δ W) (e : look δ a = some d) : Vw K F H v d := by
  cases h with
  | tmp o =>
    simp only [Ev.look, Option.some.injEq] at e
    subst e
    exact ⟨_, o⟩
  | @bor v0 _ i p _ g q =>
    simp only [Ev.look] at e
    split at e
    · rename_i d0 e0
      obtain ⟨v0', U, R, g', o, _⟩ := s.st.zip (slot_some e0)
      rw [g] at g'
      cases g'
      obtain ⟨v', U', q', o', _⟩ := o.at e
      rw [q.uniq q']
      exact ⟨U', o'⟩
    · cases e
/-- as a value that goes elsewhere -/
theorem AOk.toV {σ : L2.St} {δ δ' : Dl} {W Wt : Fp} {v : V} {a : A} {d : D} (h : AOk K F H σ v a Wt) (s : SOk K F H σ δ W) (dj : Dj Wt W) (lt : ∀ b, Wt b → H b ≠ none) (e : toV δ a = some (d, δ')) :
    ∃ F', Post K F H (Un2 Wt W) F' H σ δ' W Wt ∧ Ow K F' H v d Wt := by
  cases h with
  | tmp o =>
    simp only [Ev.toV, Option.some.injEq, Prod.mk.injEq] at e
    obtain ⟨rfl, rfl⟩ := e
    exact ⟨F, ⟨s, dj, lt, Ext.refl⟩, o⟩
  | @bor v0 _ i p _ g q =>
    unfold Ev.toV at e
    simp only at e
    split at e
    · rename_i d1 δ1 e1 e2
      cases e
      unfold Ev.look at e1
      simp only at e1
      split at e1
      · rename_i d0 e0
        unfold upSlot at e2
        rw [e0] at e2
        simp only at e2
        split at e2
        · rename_i d0' e3
          cases e2
          obtain ⟨v0', U, R, g', o, s1, s2, du, sr, z⟩ := s.st.zip (slot_some e0)
          rw [g] at g'
          cases g'
          obtain ⟨F', v', q', f1, f2, f3, r, o'⟩ := o.shareAt s.sub e1 e3
          rw [q.uniq q']
          refine ⟨F', ⟨⟨f2, ?_, s.lv⟩, dj, lt, ?_⟩, .frz r⟩
          · refine z (U' := U) f1 o' (fun b w n o a f => ⟨a, ?_⟩) (fun b q => .inl q) (fun _ q => q) s1
            cases e : F' b with
            | none => rfl
            | some u =>
              rcases f3 b u e with t | t
              · rw [f] at t; cases t
              · exact absurd t n
          · exact ⟨f1, fun b o e => (f3 b o e).imp id fun t => .inl (.inr (s1 b t)), fun b o a _ => a, fun b n => n, fun b q => .inl q⟩
        · cases e2
      · cases e1
    · cases e

/-! ### several -/
inductive AsOk (K : PySem.W.Frag) (F H : Hp) (σ : L2.St) : List V → List A → Fp → Prop
  | nil {W : Fp} : AsOk K F H σ [] [] W
  | cons {v : V} {vs : List V} {a : A} {as : List A} {W W1 W2 : Fp} : AOk K F H σ v a W1 → AsOk K F H σ vs as W2 → Dj W1 W2 → (∀ b, W1 b → W b) → (∀ b, W2 b → W b) → AsOk K F H σ (v :: vs) (a :: as) W
inductive VwL (K : PySem.W.Frag) (F H : Hp) : List V → List D → Prop
  | nil : VwL K F H [] []
  | cons {v : V} {vs : List V} {d : D} {ds : List D} : Vw K F H v d → VwL K F H vs ds → VwL K F H (v :: vs) (d :: ds)
theorem AsOk.looks {σ : L2.St} {δ : Dl} {W : Fp} (s : SOk K F H σ δ W) : ∀ {vs : List V} {as : List A} {Wt : Fp} {ds : List D}, AsOk K F H σ vs as Wt → looks δ as = some ds → VwL K F H vs ds
  | _, _, _, ds, .nil, e => by
    simp only [Ev.looks, Option.some.injEq] at e
    subst e
    exact .nil
  | _, _, _, ds, .cons h1 h2 _ _ _, e => by
    unfold Ev.looks at e
    split at e
    · rename_i d ds' e1 e2
      cases e
      exact .cons (h1.look s e1) (AsOk.looks s h2 e2)
    · cases e
theorem AOk.ext {σ : L2.St} {δ' : Dl} {W W' Wt Wu : Fp} {v : V} {a : A} (h : AOk K F H σ v a Wt) (x : Ext F H W F' H' W') (dj : Dj Wt W) (n : noPath a = true) : AOk K F' H' σ v a Wt := by
  cases h with
  | tmp o => exact .tmp (o.ext x dj)
  | @bor v0 _ i p _ g q =>
    cases p with
    | nil => exact .bor g q
    | cons k p => simp [noPath] at n
theorem AOk.weak {σ : L2.St} {W W' : Fp} {v : V} {a : A} (h : AOk K F H σ v a W) (s : ∀ b, W b → W' b) : AOk K F H σ v a W' := by
  cases h with
  | tmp o => exact .tmp (o.weak s)
  | bor g q => exact .bor g q
theorem AsOk.weak {σ : L2.St} {W W' : Fp} {vs : List V} {as : List A} (h : AsOk K F H σ vs as W) (s : ∀ b, W b → W' b) : AsOk K F H σ vs as W' := by
  cases h with
  | nil => exact .nil
  | cons h1 h2 h3 h4 h5 => exact .cons h1 h2 h3 (fun b q => s b (h4 b q)) fun b q => s b (h5 b q)
/-- when only what is shared grows -/
theorem AOk.grow {σ : L2.St} {Wt : Fp} {v : V} {a : A} (h : AOk K F H σ v a Wt) (s : Same F F') (k : ∀ b, Wt b → F b = none → F' b = none) : AOk K F' H σ v a Wt := by
  cases h with
  | tmp o => exact .tmp (o.keep s fun b q o a f => ⟨a, k b q f⟩)
  | bor g q => exact .bor g q
theorem AsOk.grow {σ : L2.St} (s : Same F F') : ∀ {Wt : Fp} {vs : List V} {as : List A}, AsOk K F H σ vs as Wt → (∀ b, Wt b → F b = none → F' b = none) → AsOk K F' H σ vs as Wt
  | _, _, _, .nil, _ => .nil
  | _, _, _, .cons h1 h2 h3 h4 h5, k => .cons (h1.grow s fun b q => k b (h4 b q)) (AsOk.grow s h2 fun b q => k b (h5 b q)) h3 h4 h5
/-- all as values: one after another -/
theorem AsOk.toVs {σ : L2.St} : ∀ {vs : List V} {as : List A} {F : Hp} {δ δ' : Dl} {W Wt : Fp} {ds : List D}, AsOk K F H σ vs as Wt → SOk K F H σ δ W → Dj Wt W → (∀ b, Wt b → H b ≠ none) → toVs δ as = some (ds, δ') →
    ∃ F', Post K F H (Un2 Wt W) F' H σ δ' W Wt ∧ OwL K F' H vs ds Wt
  | _, _, F, δ, δ', W, Wt, ds, .nil, s, dj, lt, e => by
    simp only [Ev.toVs, Option.some.injEq, Prod.mk.injEq] at e
    obtain ⟨rfl, rfl⟩ := e
    exact ⟨F, ⟨s, dj, lt, Ext.refl⟩, .nil⟩
  | _, _, F, δ, δ', W, Wt, ds, .cons (W1 := W1) (W2 := W2) h1 h2 h3 h4 h5, s, dj, lt, e => by
    unfold Ev.toVs at e
    split at e
    · rename_i d δ1 e1
      split at e
      · rename_i ds' δ2 e2
        cases e
        obtain ⟨F1, p1, o1⟩ := h1.toV s (fun b q => dj b (h4 b q)) (fun b q => lt b (h4 b q)) e1
        have k2 : ∀ b, W2 b → F b = none → F1 b = none := fun b q f => by
          cases e : F1 b with
          | none => rfl
          | some u =>
            rcases p1.ext.fnew b u e with t | t | t
            · rw [f] at t; cases t
            · rcases t with t | t
              · exact absurd q (h3 b t)
              · exact absurd t (dj b (h5 b q))
            · exact absurd t (lt b (h5 b q))
        obtain ⟨F2, p2, o2⟩ := AsOk.toVs (h2.grow p1.ext.fsub k2) p1.ok (fun b q => dj b (h5 b q)) (fun b q => lt b (h5 b q)) e2
        refine ⟨F2, ⟨p2.ok, dj, lt, ?_⟩, .cons (o1.keep p2.ext.fsub fun b q o a f => ⟨a, ?_⟩) o2 h3 h4 h5⟩
        · refine ⟨p1.ext.fsub.trans p2.ext.fsub, fun b o e => ?_, fun b o a _ => a, fun b n => n, fun b q => .inl q⟩
          rcases p2.ext.fnew b o e with t | t | t
          · rcases p1.ext.fnew b o t with t | t | t
            · exact .inl t
            · exact .inr (.inl (t.imp (h4 b) id))
            · exact .inr (.inr t)
          · exact .inr (.inl (t.imp (h5 b) id))
          · exact .inr (.inr t)
        · cases e : F2 b with
          | none => rfl
          | some u =>
            rcases p2.ext.fnew b u e with t | t | t
            · rw [f] at t; cases t
            · rcases t with t | t
              · exact absurd t (h3 b q)
              · exact absurd t (dj b (h4 b q))
            · exact absurd t (lt b (h4 b q))
      · cases e
    · cases e
end
end Ev

set_option linter.all false
set_option maxRecDepth 100000
set_option maxHeartbeats 1000000
/-! Ev: the weakest readings, and the operations -/
namespace Ev
open PySem PySem.Spec PyProof.Rows L2

theorem cap_line : cap ≤ sizeLine := by rw [sizeLine_eq]; decide
theorem eqs_py_mut : True := trivial
mutual
theorem eq_py : ∀ a b : D, (∀ ns, a ≠ .scr ns) → PyData.eqv a.py b.py = a.eq b
  | .non, b, _ => by cases b <;> simp [D.py, D.eq, PyData.eqv]
  | .bl _, b, _ => by cases b <;> simp [D.py, D.eq, PyData.eqv]
  | .int _, b, _ => by cases b <;> simp [D.py, D.eq, PyData.eqv]
  | .str _, b, _ => by cases b <;> simp [D.py, D.eq, PyData.eqv]
  | .tup xs, b, _ => by
    cases b with
    | tup ys => simp only [D.py, D.eq, PyData.eqv]; exact eqs_py xs ys
    | _ => simp [D.py, D.eq, PyData.eqv]
  | .lst o xs, b, _ => by
    cases b with
    | lst o' ys => simp only [D.py, D.eq, PyData.eqv]; exact eqs_py xs ys
    | _ => simp [D.py, D.eq, PyData.eqv]
  | .scr ns, b, h => absurd rfl (h ns)
theorem eqs_py : ∀ xs ys : List D, PyData.eqvAll (pys xs) (pys ys) = eqs xs ys
  | [], [] => rfl
  | [], _ :: _ => rfl
  | _ :: _, [] => rfl
  | x :: xs, y :: ys => by
    simp only [pys, eqs, PyData.eqvAll, eqs_py xs ys]
    cases x with
    | scr ns => cases y <;> simp [D.py, D.eq, PyData.eqv]
    | _ => rw [eq_py _ y (by intro ns e; cases e)]
end
theorem eq_py' (a b : D) : PyData.eqv a.py b.py = a.eq b := by
  cases a with
  | scr ns => cases b <;> simp [D.py, D.eq, PyData.eqv]
  | _ => exact eq_py _ b (by intro ns e; cases e)
mutual
theorem ok_lay : ∀ (d : D) (k : Nat), d.ok k = true → d.py.canLay0 = true ∧ d.py.depth ≤ k
  | .non, _, _ => ⟨by simp [D.py, PyData.canLay0], by simp [D.py, PyData.depth]⟩
  | .bl _, _, _ => ⟨by simp [D.py, PyData.canLay0], by simp [D.py, PyData.depth]⟩
  | .int _, _, _ => ⟨by simp [D.py, PyData.canLay0], by simp [D.py, PyData.depth]⟩
  | .str s, k, h => ⟨by simp only [D.py, PyData.canLay0]; simpa [D.ok] using h, by simp [D.py, PyData.depth]⟩
  | .tup xs, 0, h => by simp [D.ok] at h
  | .tup xs, k + 1, h => by
    obtain ⟨h1, h2⟩ := oks_lay xs k (by simpa [D.ok] using h)
    exact ⟨by simpa [D.py, PyData.canLay0] using h1, by simp only [D.py, PyData.depth]; omega⟩
  | .lst o xs, 0, h => by simp [D.ok] at h
  | .lst o xs, k + 1, h => by
    obtain ⟨h1, h2⟩ := oks_lay xs k (by simpa [D.ok] using h)
    exact ⟨by simpa [D.py, PyData.canLay0] using h1, by simp only [D.py, PyData.depth]; omega⟩
  | .scr _, k, h => by simp [D.ok] at h
theorem oks_lay : ∀ (ds : List D) (k : Nat), oks k ds = true → PyData.canLayAll0 (pys ds) = true ∧ PyData.depthAll (pys ds) ≤ k
  | [], _, _ => ⟨by simp [pys, PyData.canLayAll0], by simp [pys, PyData.depthAll]⟩
  | d :: ds, k, h => by
    simp only [oks, Bool.and_eq_true] at h
    obtain ⟨a1, a2⟩ := ok_lay d k h.1
    obtain ⟨b1, b2⟩ := oks_lay ds k h.2
    exact ⟨by simp [pys, PyData.canLayAll0, a1, b1], by simp only [pys, PyData.depthAll]; omega⟩
end
theorem ok_shaped {d : D} {k : Nat} (hk : k ≤ 64) (h : d.ok k = true) : SeqAt.shaped d.py = true := by
  obtain ⟨h1, h2⟩ := ok_lay d k h
  unfold SeqAt.shaped
  rw [h1, decide_eq_true (show d.py.depth ≤ 64 by omega)]
  rfl
section
variable {K : PySem.W.Frag} {F H : Hp}
mutual
theorem Rp.dp (s : Same F H) : ∀ {v : V} {d : D} {k : Nat}, Rp K F v d → d.ok k = true → Dp K H v d.py
  | _, _, _, .non, _ => .non
  | _, _, _, .bl b, _ => .bl b
  | _, _, _, .int i, _ => .int i
  | _, _, _, .str x, _ => .str x
  | _, _, 0, .tup h l, e => by simp [D.ok] at e
  | _, _, k + 1, .tup h l, e => by
    simp only [D.py]
    exact .tup (sqt_mono s h) (RpL.dp s l (by simpa [D.ok] using e))
  | _, _, 0, .lst h l, e => by simp [D.ok] at e
  | _, _, k + 1, .lst h l, e => by
    simp only [D.py]
    exact .lst (SqL.of (s _ _ h)) (RpL.dp s l (by simpa [D.ok] using e))
  | _, _, k, .scr h, e => by simp [D.ok] at e
theorem RpL.dp (s : Same F H) : ∀ {vs : List V} {ds : List D} {k : Nat}, RpL K F vs ds → oks k ds = true → DpAll K H vs (pys ds)
  | _, _, _, .nil, _ => .nil
  | _, _, _, .cons h t, e => by
    simp only [oks, Bool.and_eq_true] at e
    exact .cons (Rp.dp s h e.1) (RpL.dp s t e.2)
end
mutual
theorem Ow.dp (s : Same F H) : ∀ {v : V} {d : D} {W : Fp} {k : Nat}, Ow K F H v d W → d.ok k = true → Dp K H v d.py
  | _, _, _, _, .frz r, e => r.dp s e
  | _, _, _, 0, .own h1 h2 h3 h4 h5 h6, e => by simp [D.ok] at e
  | _, _, _, k + 1, .own h1 h2 h3 h4 h5 h6, e => by
    simp only [D.py]
    exact .lst (SqL.of h1) (OwL.dp s h4 (by simpa [D.ok] using e))
theorem OwL.dp (s : Same F H) : ∀ {vs : List V} {ds : List D} {W : Fp} {k : Nat}, OwL K F H vs ds W → oks k ds = true → DpAll K H vs (pys ds)
  | _, _, _, _, .nil, _ => .nil
  | _, _, _, _, .cons h1 h2 _ _ _, e => by
    simp only [oks, Bool.and_eq_true] at e
    exact .cons (Ow.dp s h1 e.1) (OwL.dp s h2 e.2)
end
/-! ### what is seen -/
theorem Vw.int {x : V} {i : Int} (h : Vw K F H x (.int i)) : x = .int i := by
  obtain ⟨W, h⟩ := h
  cases h with
  | frz r => cases r; rfl
theorem Vw.bl {x : V} {i : Bool} (h : Vw K F H x (.bl i)) : x = .bl i := by
  obtain ⟨W, h⟩ := h
  cases h with
  | frz r => cases r; rfl
theorem Vw.str {x : V} {i : Str} (h : Vw K F H x (.str i)) : x = .str i := by
  obtain ⟨W, h⟩ := h
  cases h with
  | frz r => cases r; rfl
theorem Vw.non {x : V} (h : Vw K F H x .non) : x = .non := by
  obtain ⟨W, h⟩ := h
  cases h with
  | frz r => cases r; rfl
theorem Vw.tup {x : V} {ds : List D} (h : Vw K F H x (.tup ds)) : ∃ a vs, x = .ref a ∧ SqT K F a vs ∧ RpL K F vs ds := by
  obtain ⟨W, h⟩ := h
  cases h with
  | frz r =>
    cases r with
    | tup h l => exact ⟨_, _, rfl, h, l⟩
theorem Vw.lst {x : V} {o : Bool} {ds : List D} (s : Same F H) (h : Vw K F H x (.lst o ds)) : ∃ a vs, x = .ref a ∧ H a = some (.lst vs) ∧ vs.length = ds.length ∧ (fzs ds = true → RpL K F vs ds) := by
  obtain ⟨W, h⟩ := h
  cases h with
  | frz r =>
    cases r with
    | lst h l => exact ⟨_, _, rfl, s _ _ h, l.length, fun _ => l⟩
  | own h1 h2 h3 h4 h5 h6 => exact ⟨_, _, rfl, h1, h4.length, fun e => h4.fz e⟩
theorem Vw.scr {x : V} {ns : List Int} (h : Vw K F H x (.scr ns)) : ∃ a, x = .ref a ∧ SqL K F a (ns.map V.int) := by
  obtain ⟨W, h⟩ := h
  cases h with
  | frz r =>
    cases r with
    | scr h => exact ⟨_, rfl, h⟩
theorem Vw.dp {x : V} {d : D} {k : Nat} (s : Same F H) (h : Vw K F H x d) (e : d.ok k = true) : Dp K H x d.py := by
  obtain ⟨W, h⟩ := h
  exact h.dp s e
theorem Rp.vw {x : V} {d : D} (h : Rp K F x d) : Vw K F H x d := ⟨No, .frz h⟩
theorem RpL.ints : ∀ {vs : List V} {ds : List D} {ns : List Int}, RpL K F vs ds → intsOf ds = some ns → vs = ns.map V.int ∧ ds = ns.map D.int
  | _, _, ns, .nil, e => by
    simp only [intsOf, Option.some.injEq] at e
    subst e
    exact ⟨rfl, rfl⟩
  | _, _, ns, .cons (d := d) h t, e => by
    cases d with
    | int i =>
      simp only [intsOf, Option.map_eq_some_iff] at e
      obtain ⟨ms, e1, e2⟩ := e
      subst e2
      obtain ⟨q1, q2⟩ := RpL.ints t e1
      cases h
      subst q1 q2
      exact ⟨rfl, rfl⟩
    | _ => simp [intsOf] at e
theorem RpL.bools : ∀ {vs : List V} {ds : List D} {ns : List Bool}, RpL K F vs ds → boolsOf ds = some ns → vs = ns.map V.bl ∧ ds = ns.map D.bl
  | _, _, ns, .nil, e => by
    simp only [boolsOf, Option.some.injEq] at e
    subst e
    exact ⟨rfl, rfl⟩
  | _, _, ns, .cons (d := d) h t, e => by
    cases d with
    | bl i =>
      simp only [boolsOf, Option.map_eq_some_iff] at e
      obtain ⟨ms, e1, e2⟩ := e
      subst e2
      obtain ⟨q1, q2⟩ := RpL.bools t e1
      cases h
      subst q1 q2
      exact ⟨rfl, rfl⟩
    | _ => simp [boolsOf] at e
theorem ints_rp : ∀ ns : List Int, RpL K F (ns.map V.int) (ns.map D.int)
  | [] => .nil
  | n :: ns => .cons (.int n) (ints_rp ns)
theorem intsOf_fz : ∀ {ds : List D} {ns : List Int}, intsOf ds = some ns → fzs ds = true
  | [], _, _ => rfl
  | d :: ds, ns, e => by
    cases d with
    | int i =>
      simp only [intsOf, Option.map_eq_some_iff] at e
      obtain ⟨ms, e1, _⟩ := e
      simp only [fzs, D.fz, intsOf_fz e1]
      rfl
    | _ => simp [intsOf] at e
theorem boolsOf_fz : ∀ {ds : List D} {ns : List Bool}, boolsOf ds = some ns → fzs ds = true
  | [], _, _ => rfl
  | d :: ds, ns, e => by
    cases d with
    | bl i =>
      simp only [boolsOf, Option.map_eq_some_iff] at e
      obtain ⟨ms, e1, _⟩ := e
      simp only [fzs, D.fz, boolsOf_fz e1]
      rfl
    | _ => simp [boolsOf] at e
theorem intsOf_map : ∀ ns : List Int, intsOf (ns.map D.int) = some ns
  | [] => rfl
  | n :: ns => by simp only [List.map_cons, intsOf, intsOf_map ns, Option.map_some]

/-! ### new things -/
structure New (F H F' H' : Hp) (Wt : Fp) : Prop where
  sub : Same F' H'
  lt : ∀ b, Wt b → H' b ≠ none
  ext : Ext F H No F' H' Wt
theorem New.refl (s : Same F H) : New F H F H No := ⟨s, fun _ q => q.elim, Ext.refl⟩
theorem Post.new {σ : L2.St} {δ : Dl} {W Wt : Fp} {F' H' : Hp} (s : SOk K F H σ δ W) (n : New F H F' H' Wt) : Post K F H W F' H' σ δ W Wt where
  ok := ⟨n.sub, s.st.keep n.ext.fsub (n.ext.apart fun _ _ q => q), fun b q z => s.lv b q (n.ext.live b z)⟩
  dj := fun b q r => by
    rcases n.ext.wnew b q with t | t
    · exact t
    · exact s.lv b r t
  lt := n.lt
  ext := n.ext.mono (fun _ q => q.elim) fun b q => q.imp id id
def At (p : Addr) : Fp := fun b => b = p
theorem New.list {p : Addr} {vs : List V} (s : Same F H) (h : H p = none) : New F H F (upd H p (.lst vs)) (At p) where
  sub := fun b o e => by
    have q := s b o e
    rw [upd_ne (ne_of_none q h)]
    exact q
  lt := fun b e => by rw [e, upd_same]; simp
  ext := ⟨fun _ _ e => e, fun _ _ e => .inl e, fun b o e _ => by rw [upd_ne (ne_of_none e h)]; exact e, fun b e => by
    by_cases hb : b = p
    · rw [hb]; exact h
    · rw [upd_ne hb] at e; exact e, fun b e => .inr (by rw [e]; exact h)⟩
theorem New.tuple {p : Addr} {vs : List V} (s : Same F H) (h : H p = none) : New F H (upd F p (.tup vs)) (upd H p (.tup vs)) No where
  sub := fun b o e => by
    by_cases hb : b = p
    · subst hb; rw [upd_same] at e ⊢; exact e
    · rw [upd_ne hb] at e ⊢; exact s b o e
  lt := fun _ q => q.elim
  ext := ⟨fun b o e => by
      rw [upd_ne (ne_of_none (s _ _ e) h)]
      exact e, fun b o e => by
      by_cases hb : b = p
      · exact .inr (.inr (by rw [hb]; exact h))
      · rw [upd_ne hb] at e; exact .inl e, fun b o e _ => by rw [upd_ne (ne_of_none e h)]; exact e, fun b e => by
      by_cases hb : b = p
      · rw [hb]; exact h
      · rw [upd_ne hb] at e; exact e, fun b e => e.elim⟩
theorem Ow.list {p : Addr} {vs : List V} {ds : List D} (s : Same F H) (h : H p = none) (r : RpL K F vs ds) : Ow K F (upd H p (.lst vs)) (.ref p) (.lst true ds) (At p) := by
  refine .own (U := No) upd_same ?_ rfl (.of r) (fun q => q) fun _ q => q.elim
  cases e : F p with
  | none => rfl
  | some o => rw [s _ _ e] at h; cases h
theorem Ow.tuple {p : Addr} {vs : List V} {ds : List D} {H' : Hp} (s : Same F H) (h : H p = none) (r : RpL K F vs ds) : Ow K (upd F p (.tup vs)) H' (.ref p) (.tup ds) No :=
  .frz (.tup (.inl (.inl upd_same)) (r.mono (New.tuple (vs := vs) s h).ext.fsub))
end

/-! ### the weakest readings -/
section
variable {X : Cx}
def tW (X : Cx) (e : Expr) : TE := fun σ H Q => ∀ pins s, Inv X pins σ H s → wpAny (model X.prog X.w) X.A (eval e X.env) (EP X pins σ Q) X.xe s
theorem pe_tW {e : Expr} : PE X e (tW X e) := ⟨fun pins s σ H Q I h => h pins s I⟩
theorem tW_of {e : Expr} {t : TE} {σ : L2.St} {H : Hp} {Q : VK} (h : PE X e t) (q : t σ H Q) : tW X e σ H Q := fun pins s I => h.run pins s σ H Q I q
def tWT (X : Cx) (e : Expr) : TT := fun σ H Q => ∀ pins s, Inv X pins σ H s → wpAny (model X.prog X.w) X.A (isTrue e X.env (eval e X.env)) (TP X pins σ Q) X.xe s
theorem pt_tW {e : Expr} : PT X e (tWT X e) := ⟨fun pins s σ H Q I h => h pins s I⟩
theorem tWT_of {e : Expr} {t : TT} {σ : L2.St} {H : Hp} {Q : Bool → Hp → Prop} (h : PT X e t) (q : t σ H Q) : tWT X e σ H Q := fun pins s I => h.run pins s σ H Q I q
def tWA (X : Cx) (es : List Expr) : TA := fun σ H Q => ∀ (pos : Pos) pins s, Inv X pins σ H s → wpAny (model X.prog X.w) X.A (spliced (backTo pos (starEach es X.env))) (AP X pins σ Q) X.xe s
theorem pa_tW {es : List Expr} : PA X es (tWA X es) := ⟨fun pos pins s σ H Q I h => h pos pins s I⟩
theorem tWA_of {es : List Expr} {t : TA} {σ : L2.St} {H : Hp} {Q : List V → Hp → Prop} (h : PA X es t) (q : t σ H Q) : tWA X es σ H Q := fun pos pins s I => h.run pos pins s σ H Q I q
def tWS (X : Cx) (st : Stmt) : TS := fun D σ H => ∀ pins s, Inv X pins σ H s → wpAny (model X.prog X.w) X.A (exec st X.env) (SP X pins D) X.xe s
theorem ps_tW {st : Stmt} : PS X st (tWS X st) := ⟨fun pins s σ H D I h => h pins s I⟩
theorem tWS_of {st : Stmt} {t : TS} {σ : L2.St} {H : Hp} {D : Ends} (h : PS X st t) (q : t D σ H) : tWS X st D σ H := fun pins s I => h.run pins s σ H D I q
def tWSs (X : Cx) (st : List Stmt) : TS := fun D σ H => ∀ pins s, Inv X pins σ H s → wpAny (model X.prog X.w) X.A (execs st X.env) (SP X pins D) X.xe s
theorem pss_tW {st : List Stmt} : PSs X st (tWSs X st) := ⟨fun pins s σ H D I h => h pins s I⟩
theorem tWSs_of {st : List Stmt} {t : TS} {σ : L2.St} {H : Hp} {D : Ends} (h : PSs X st t) (q : t D σ H) : tWSs X st D σ H := fun pins s I => h.run pins s σ H D I q
def rW (X : Cx) (f : Value → Value → Sem Value) : R2 := fun x y H Q => ∀ pins s σ v u, Inv X pins σ H s → RelV x v → RelV y u → wpAny (model X.prog X.w) X.A (f v u) (EP X pins σ Q) X.xe s
theorem op_rW {f : Value → Value → Sem Value} : OpR X f (rW X f) := fun pins s σ H x y v u Q I rx ry q => q pins s σ v u I rx ry
theorem rW_of {f : Value → Value → Sem Value} {r : R2} {x y : V} {H : Hp} {Q : VK} (h : OpR X f r) (q : r x y H Q) : rW X f x y H Q := fun pins s σ v u I rx ry => h pins s σ H x y v u Q I rx ry q
def cW (X : Cx) (f : Value) : List V → Hp → VK → Prop := fun xs H Q => ∀ pins s σ us, Inv X pins σ H s → Vals xs us → wpAny (model X.prog X.w) X.A (call f us) (EP X pins σ Q) X.xe s
theorem cr_cW {f : Value} : CallR X f (cW X f) := fun pins s σ H xs us Q I r q => q pins s σ us I r
theorem cW_of {f : Value} {r : List V → Hp → VK → Prop} {xs : List V} {H : Hp} {Q : VK} (h : CallR X f r) (q : r xs H Q) : cW X f xs H Q := fun pins s σ us I rv => h pins s σ H xs us Q I rv q

/-! ### operations -/
variable {F H : Hp}
def opO : Op → Operator
  | .add => .Add | .sub => .Sub | .mul => .Mult | .fdiv => .FloorDiv | .mod => .Mod | .pow => .Pow
theorem small_mul {a b : Int} (h : (small64 a || small64 b) = true) : CMul a b := by
  simp only [small64_eq] at h
  simp only [Bool.or_eq_true, Bool.and_eq_true, decide_eq_true_eq] at h
  rcases h with h | h
  · exact .inl ⟨by omega, by omega⟩
  · exact .inr ⟨by omega, by omega⟩
theorem rep_rp {K : PySem.W.Frag} {vs : List V} {ds : List D} (r : RpL K F vs ds) : ∀ k : Nat, RpL K F (List.replicate k vs).flatten (List.replicate k ds).flatten
  | 0 => .nil
  | k + 1 => by
    rw [List.replicate_succ, List.replicate_succ, List.flatten_cons, List.flatten_cons]
    exact r.append (rep_rp r k)
/-- what an operation hands on -/
abbrev Goes (X : Cx) (F H : Hp) (d : D) (Q : VK) : Prop := ∀ v F' H' Wt, Ow X.K F' H' v d Wt → New F H F' H' Wt → Q v H'
theorem Goes.atom {d : D} {Q : VK} {v : V} (g : Goes X F H d Q) (s : Same F H) (r : Rp X.K F v d) : Q v H := g v F H No (.frz r) (New.refl s)
theorem Goes.list {ds : List D} {Q : VK} {vs : List V} {p : Addr} (g : Goes X F H (.lst true ds) Q) (s : Same F H) (h : H p = none) (r : RpL X.K F vs ds) : Q (.ref p) (upd H p (.lst vs)) :=
  g _ _ _ _ (Ow.list s h r) (New.list s h)
theorem Goes.tuple {ds : List D} {Q : VK} {vs : List V} {p : Addr} (g : Goes X F H (.tup ds) Q) (s : Same F H) (h : H p = none) (r : RpL X.K F vs ds) : Q (.ref p) (upd H p (.tup vs)) :=
  g _ _ _ _ (Ow.tuple s h r) (New.tuple s h)
theorem bin_ok {op : Op} {a b d : D} {x y : V} {Q : VK} (s : Same F H) (e : binD op a b = some d) (hx : Vw X.K F H x a) (hy : Vw X.K F H y b) (g : Goes X F H d Q) : rW X (binaryOp (opO op)) x y H Q := by
  unfold binD at e
  split at e
  · cases e; cases hx.int; cases hy.int
    exact rW_of op_add ⟨_, _, rfl, rfl, g.atom s (.int _)⟩
  · split at e
    · rename_i c
      cases e
      simp only [Bool.and_eq_true, decide_eq_true_eq] at c
      obtain ⟨a1, v1, rfl, h1, l1, r1⟩ := hx.lst s
      obtain ⟨a2, v2, rfl, h2, l2, r2⟩ := hy.lst s
      refine rW_of op_cat ⟨a1, a2, v1, v2, rfl, rfl, h1, h2, ?_, fun p hp => g.list s hp ((r1 c.1.1).append (r2 c.1.2))⟩
      have := cap_line
      omega
    · cases e
  · split at e
    · rename_i c
      cases e
      simp only [decide_eq_true_eq] at c
      obtain ⟨a1, v1, rfl, h1, r1⟩ := hx.tup
      obtain ⟨a2, v2, rfl, h2, r2⟩ := hy.tup
      have e1 := r1.length
      have e2 := r2.length
      refine rW_of op_catA ⟨a1, a2, v1, v2, rfl, rfl, sqt_mono s h1, sqt_mono s h2, ?_, fun z => ?_, fun _ z => ?_, fun _ _ p hp => g.tuple s hp (r1.append r2)⟩
      · have := cap_line
        omega
      · subst z
        cases r1
        exact g.atom s (.tup h2 r2)
      · subst z
        cases r2
        rw [List.append_nil] at g
        exact g.atom s (.tup h1 r1)
    · cases e
  · cases e; cases hx.int; cases hy.int
    exact rW_of op_sub ⟨_, _, rfl, rfl, g.atom s (.int _)⟩
  · split at e
    · rename_i c
      cases e; cases hx.int; cases hy.int
      exact rW_of op_mul ⟨_, _, rfl, rfl, small_mul c, g.atom s (.int _)⟩
    · cases e
  · split at e
    · rename_i c
      cases e
      simp only [Bool.and_eq_true, decide_eq_true_eq] at c
      obtain ⟨a1, v1, rfl, h1, l1, r1⟩ := hx.lst s
      cases hy.int
      rename_i xs k
      refine rW_of op_rep ⟨a1, k, v1, rfl, rfl, h1, by omega, by omega, ?_, fun p hp => g.list s hp (rep_rp (r1 c.1.1.1) _)⟩
      have : 1000000 ≤ sizeLine := cap_line
      have h : v1.length * k.toNat ≤ 1000 * 1000 := Nat.mul_le_mul (by omega) (by omega)
      omega
    · cases e
  · split at e
    · rename_i c
      cases e; cases hx.int; cases hy.int
      simp only [Bool.and_eq_true, decide_eq_true_eq] at c
      exact rW_of op_fdiv ⟨_, _, rfl, rfl, ⟨c.1, c.2⟩, g.atom s (.int _)⟩
    · cases e
  · split at e
    · rename_i c
      cases e; cases hx.int; cases hy.int
      simp only [decide_eq_true_eq] at c
      exact rW_of op_mod ⟨_, _, rfl, rfl, c, g.atom s (.int _)⟩
    · cases e
  · split at e
    · rename_i c
      cases e; cases hx.int; cases hy.int
      rw [small64_eq] at c
      simp only [Bool.and_eq_true, decide_eq_true_eq] at c
      exact rW_of op_pow ⟨_, _, rfl, rfl, ⟨by omega, by omega, by omega⟩, g.atom s (.int _)⟩
    · cases e
  · cases e

/-! ### comparisons -/
def copO : Cop → CmpOp
  | .eq => .Eq | .ne => .NotEq | .lt => .Lt | .le => .LtE | .gt => .Gt | .ge => .GtE | .isin => .In | .notin => .NotIn | .isn => .Is | .isnotn => .IsNot
theorem ltI_lex : ∀ ns ms : List Int, HT.lexLt ns ms = ltI ns ms
  | [], [] => rfl
  | [], _ :: _ => rfl
  | _ :: _, [] => rfl
  | x :: xs, y :: ys => by rw [HT.lexLt_cons]; simp only [ltI, ltI_lex xs ys]
theorem flat_rp {K : PySem.W.Frag} {v : V} {d : D} (r : Rp K F v d) (f : d.flat = true) : flatV v = true := by
  cases r <;> first | rfl | simp [D.flat] at f
theorem eqV_rp {K : PySem.W.Frag} {v w : V} {d e : D} (r : Rp K F v d) (q : Rp K F w e) (f : d.flat = true) (g : e.flat = true) : eqV v w = d.eq e := by
  cases r <;> cases q <;> first | rfl | (simp [D.flat] at f; done) | (simp [D.flat] at g; done) | simp [eqV, D.eq]
theorem inV_rp {K : PySem.W.Frag} {w : V} {e : D} (q : Rp K F w e) (g : e.flat = true) : ∀ {vs : List V} {ds : List D}, RpL K F vs ds → flats ds = true → vs.all flatV = true ∧ (inV w vs) = ds.any fun x => x.eq e
  | _, _, .nil, _ => ⟨rfl, rfl⟩
  | _, _, .cons h t, f => by
    simp only [flats, Bool.and_eq_true] at f
    obtain ⟨h1, h2⟩ := inV_rp q g t f.2
    unfold inV at h2 ⊢
    simp only [List.all_cons, List.any_cons, flat_rp h f.1, h1, h2, eqV_rp h q f.1 g, Bool.and_self, and_self]
theorem any_py (a : D) : ∀ ds : List D, ((pys ds).any fun z => PyData.eqv z a.py) = ds.any fun x => x.eq a
  | [] => rfl
  | d :: ds => by simp only [pys, List.any_cons, any_py a ds, eq_py']
theorem oks_shaped {ds : List D} (h : oks 58 ds = true) : SeqAt.shaped (.list (pys ds)) = true := ok_shaped (d := .lst false ds) (k := 59) (by decide) (by simpa [D.ok] using h)
theorem Vw.dpl {K : PySem.W.Frag} {x : V} {o : Bool} {ds : List D} (s : Same F H) (h : Vw K F H x (.lst o ds)) (e : oks 58 ds = true) : Dp K H x (.list (pys ds)) := h.dp (k := 59) s (by simpa [D.ok] using e)
theorem Vw.atom {K : PySem.W.Frag} {x : V} {d : D} (h : Vw K F H x d) (f : d.flat = true) : Rp K F x d := by
  obtain ⟨W, h⟩ := h
  cases h with
  | frz r => exact r
  | own _ _ _ _ _ _ => simp [D.flat] at f
theorem non_iff {K : PySem.W.Frag} {x : V} {d : D} (h : Vw K F H x d) : decide (x = .non) = isNon d := by
  obtain ⟨W, h⟩ := h
  cases h with
  | frz r => cases r <;> simp [isNon]
  | own _ _ _ _ _ _ => simp [isNon]
theorem cmp_ok {op : Cop} {a b : D} {t : Bool} {x y : V} {Q : VK} (hu : X.A.units + 65 < cLine) (s : Same F H) (e : cmpD op a b = some t) (hx : Vw X.K F H x a) (hy : Vw X.K F H y b) (g : Q (.bl t) H) : rW X (compareOp (copO op)) x y H Q := by
  unfold cmpD at e
  split at e
  · split at e
    · rename_i c
      cases e
      simp only [Bool.and_eq_true, plain] at c
      exact rW_of (op_eqD (by omega)) ⟨_, _, hx.dp s c.1, hy.dp s c.2, ok_shaped (by decide) c.1, ok_shaped (by decide) c.2, by rw [eq_py']; exact g⟩
    · cases e
  · split at e
    · rename_i c
      cases e
      simp only [Bool.and_eq_true, plain] at c
      exact rW_of (op_neD (by omega)) ⟨_, _, hx.dp s c.1, hy.dp s c.2, ok_shaped (by decide) c.1, ok_shaped (by decide) c.2, by rw [eq_py']; exact g⟩
    · cases e
  · cases e; cases hx.int; cases hy.int
    exact rW_of op_lt ⟨_, _, rfl, rfl, g⟩
  · split at e
    · rename_i ns ms e1 e2
      cases e
      obtain ⟨a1, v1, rfl, h1, r1⟩ := hx.tup
      obtain ⟨a2, v2, rfl, h2, r2⟩ := hy.tup
      obtain ⟨rfl, _⟩ := r1.ints e1
      obtain ⟨rfl, _⟩ := r2.ints e2
      exact rW_of (op_ltT (by omega)) ⟨a1, a2, ns, ms, rfl, rfl, sqt_mono s h1, sqt_mono s h2, by rw [ltI_lex]; exact g⟩
    · cases e
  · cases e; cases hx.int; cases hy.int
    exact rW_of op_le ⟨_, _, rfl, rfl, g⟩
  · cases e; cases hx.int; cases hy.int
    exact rW_of op_gt ⟨_, _, rfl, rfl, g⟩
  · cases e; cases hx.int; cases hy.int
    exact rW_of op_ge ⟨_, _, rfl, rfl, g⟩
  · split at e
    · rename_i c
      cases e
      simp only [Bool.and_eq_true, plain] at c
      exact rW_of (op_inD hu) ⟨_, _, hx.dp s c.1, hy.dpl s c.2, ok_shaped (by decide) c.1, oks_shaped c.2, by rw [any_py]; exact g⟩
    · cases e
  · split at e
    · rename_i c
      cases e
      simp only [Bool.and_eq_true] at c
      obtain ⟨a2, v2, rfl, h2, r2⟩ := hy.tup
      obtain ⟨q1, q2⟩ := inV_rp (hx.atom c.1) c.1 r2 c.2
      exact rW_of op_in_seq ⟨a2, v2, rfl, .inr (sqt_mono s h2), flat_rp (hx.atom c.1) c.1, q1, by rw [q2]; exact g⟩
    · cases e
  · split at e
    · rename_i c
      cases e
      simp only [Bool.and_eq_true, plain] at c
      exact rW_of (op_notInD hu) ⟨_, _, hx.dp s c.1, hy.dpl s c.2, ok_shaped (by decide) c.1, oks_shaped c.2, by rw [any_py]; exact g⟩
    · cases e
  · split at e
    · rename_i c
      cases e
      simp only [Bool.and_eq_true] at c
      obtain ⟨a2, v2, rfl, h2, r2⟩ := hy.tup
      obtain ⟨q1, q2⟩ := inV_rp (hx.atom c.1) c.1 r2 c.2
      exact rW_of op_notIn_seq ⟨a2, v2, rfl, .inr (sqt_mono s h2), flat_rp (hx.atom c.1) c.1, q1, by rw [q2]; exact g⟩
    · cases e
  · cases e
    refine rW_of op_isN ⟨hy.non, ?_⟩
    rw [non_iff hx]
    exact g
  · cases e
    refine rW_of op_notN ⟨hy.non, ?_⟩
    rw [non_iff hx]
    exact g
  · cases e
end
end Ev

set_option linter.all false
set_option maxRecDepth 100000
set_option maxHeartbeats 2000000
/-! Ev: built-ins -/
namespace Ev
open PySem PySem.Spec PyProof.Rows L2

section
variable {prog : Program} {w : World} {A : Around} {E : Value → Shared → Prop} {s : Shared}
/-- a tuple, collected -/
theorem collectTup {t : Addr} {vs : List Value} {Q : List Value → Shared → Prop} (ht : IsTup s.heap t vs.toArray) (hz : vs.length ≤ sizeLine)
    (h : Q vs { s with heap := (s.heap.push (seqObj "list" #[] 0)).update s.heap.objs.size (Obj.mapSeq (· ++ vs.toArray)) }) :
    wpAny (model prog w) A (collect (.ref t)) Q E s := by
  obtain ⟨o, ho, hc, n, hd⟩ := id ht
  unfold collect
  refine wpAny_bind (wpAny_runValue
    (codeAny_builtin entry_proto_collect' ?_))
  show wpAny _ _ (do
    again (.builtin "list.__iadd__" ⟨[← newList [], .ref t], []⟩)) _ _ s
  refine wpAny_bind (wpAny_newList (wpAny_pure
    ⟨Code.quiet_builtin _ (by decide +kernel), codeAny_builtin entry_list_iadd' ?_⟩))
  show wpAny _ _ (Builtin.List.listExtendWith
    (.ref s.heap.objs.size) (.ref t) (.ref s.heap.objs.size)) _ _
    { s with heap := s.heap.push (seqObj "list" #[] 0) }
  unfold Builtin.List.listExtendWith
  have ho' : (s.heap.push (seqObj "list" #[] 0)).get? t = some o :=
    Heap.get?_push_of_some _ ho
  refine wpAny_bind (wpAny_typeOf (T := "tuple") ⟨o, ho', hc⟩ ?_)
  rw [if_pos (by simp)]
  refine wpAny_bind (listItems_at ho' hd ?_)
  refine wpAny_bind (listItems_at (xs := #[]) (n := 0)
    (Heap.get?_push_size _ rfl) rfl ?_)
  rw [if_neg (by simp)]
  refine wpAny_bind (listUpdate_at (xs := #[]) (n := 0)
    (Heap.get?_push_size _ rfl) rfl ?_ (Nat.zero_le _)
    (by show (#[] ++ vs.toArray).size ≤ sizeLine + 1
        simp only [Array.size_append, List.size_toArray, List.length_nil]
        omega))
  refine wpAny_pure ?_
  show wpAny (model prog w) A (do
    let o ← load s.heap.objs.size
    match o.data with
    | .seq xs _ => pure xs.toList
    | _ => unsupported "internal:collect") Q E
    { s with heap := (s.heap.push (seqObj "list" #[] 0)).update s.heap.objs.size (Obj.mapSeq (· ++ vs.toArray)) }
  refine wpAny_bind (wpAny_load
    (get?_update_seq (Heap.get?_push_size _ rfl) _) ?_)
  show wpAny _ _ (pure ((#[] : Array Value) ++ vs.toArray).toList) Q E _
  have e : ((#[] : Array Value) ++ vs.toArray).toList = vs := by simp
  rw [e]
  exact wpAny_pure h
theorem sortedTup {t : Addr} {vs : List Value} {ns : List Int} {Q : Value → Shared → Prop} (ht : IsTup s.heap t vs.toArray) (hz : vs.length ≤ sizeLine) (hi : IntsAre vs ns)
    (h : ∀ out : List Value, SrtO.Srtd SrtO.ltIv out → SrtO.Stb SrtO.ltIv out vs →
      Q (.ref (s.heap.objs.size + 1)) { s with heap := sortedAll s.heap vs out.toArray }) :
    wpAny (model prog w) A (call (.builtin "sorted") [.ref t]) Q E s := by
  refine Calls.call_function_entry kind_sorted plain_sorted
    entry_sorted (args_sorted1 _) ?_
  unfold Builtin.«sorted»
  refine wpAny_bind (m := checkCount "sorted" 1 1 _)
    (wpAny_pure ?_)
  refine wpAny_bind (collectTup ht hz ?_)
  refine wpAny_bind (wpAny_newList ?_ hz)
  have up : ((s.heap.push (seqObj "list" #[] 0)).update s.heap.objs.size
      (Obj.mapSeq (· ++ vs.toArray))).objs.size = s.heap.objs.size + 1 := by
    rw [Heap.size_update, size_push']
  have new : (((s.heap.push (seqObj "list" #[] 0)).update s.heap.objs.size
      (Obj.mapSeq (· ++ vs.toArray))).push (seqObj "list" vs.toArray 0)).get?
      (s.heap.objs.size + 1) = some (seqObj "list" vs.toArray 0) := by
    rw [← up]
    exact Heap.get?_push_size _ rfl
  show wpAny _ _ _ _ _ { s with heap := ((s.heap.push (seqObj "list" #[] 0)).update s.heap.objs.size
    (Obj.mapSeq (· ++ vs.toArray))).push (seqObj "list" vs.toArray 0) }
  rw [up]
  refine wpAny_bind (wpAny_holding (wpAny_call_entry slot_list_sort ⟨_, new, rfl⟩ entry_list_sort
    (SrtO.list_sort_ord SrtO.swo_int new hz (fun h2 => SrtO.ints_sortable hi h2)
      fun out hs hb => ⟨_, rfl, ?_⟩) (args_list_sort _)))
  exact wpAny_pure ⟨_, rfl, h out hs hb⟩
end

/-! ### order -/
theorem insI_perm (x : Int) : ∀ ys : List Int, (insI x ys).Perm (x :: ys)
  | [] => .refl _
  | y :: ys => by
    unfold insI
    split
    · exact .refl _
    · exact ((insI_perm x ys).cons y).trans (.swap x y ys)
theorem sortI_perm : ∀ xs : List Int, (sortI xs).Perm xs
  | [] => .refl _
  | x :: xs => (insI_perm x (sortI xs)).trans ((sortI_perm xs).cons x)
theorem insI_pw (x : Int) : ∀ {ys : List Int}, ys.Pairwise (· ≤ ·) → (insI x ys).Pairwise (· ≤ ·)
  | [], _ => by simp [insI]
  | y :: ys, h => by
    obtain ⟨h1, h2⟩ := List.pairwise_cons.mp h
    unfold insI
    split
    · rename_i c
      refine List.pairwise_cons.mpr ⟨fun z hz => ?_, h⟩
      rcases List.mem_cons.mp hz with e | hz
      · omega
      · have := h1 z hz
        omega
    · rename_i c
      refine List.pairwise_cons.mpr ⟨fun z hz => ?_, insI_pw x h2⟩
      rcases List.mem_cons.mp ((insI_perm x ys).mem_iff.mp hz) with e | hz
      · omega
      · exact h1 z hz
theorem sortI_pw : ∀ xs : List Int, (sortI xs).Pairwise (· ≤ ·)
  | [] => .nil
  | x :: xs => insI_pw x (sortI_pw xs)
theorem sortI_uniq {a ns : List Int} (p : a.Perm ns) (q : a.Pairwise (· ≤ ·)) : a = sortI ns :=
  PySem.W.ksm_same (p.trans (sortI_perm ns).symm) q (sortI_pw ns)
theorem minI_spec : ∀ (xs : List Int) (m : Int), minI m xs ∈ m :: xs ∧ ∀ y ∈ m :: xs, minI m xs ≤ y
  | [], m => ⟨List.mem_cons_self, fun y h => by simp at h; unfold minI; omega⟩
  | x :: xs, m => by
    obtain ⟨h1, h2⟩ := minI_spec xs (if x < m then x else m)
    show minI (if x < m then x else m) xs ∈ _ ∧ ∀ y ∈ m :: x :: xs, minI (if x < m then x else m) xs ≤ y
    refine ⟨?_, fun y hy => ?_⟩
    · rcases List.mem_cons.mp h1 with e | e
      · rw [e]
        split <;> simp
      · exact List.mem_cons_of_mem _ (List.mem_cons_of_mem _ e)
    · have h3 := h2 (if x < m then x else m) List.mem_cons_self
      generalize minI (if x < m then x else m) xs = z at h2 h3 ⊢
      rcases List.mem_cons.mp hy with e | hy
      · subst e; split at h3 <;> omega
      · rcases List.mem_cons.mp hy with e | hy
        · subst e; split at h3 <;> omega
        · exact h2 y (List.mem_cons_of_mem _ hy)
theorem maxI_spec : ∀ (xs : List Int) (m : Int), maxI m xs ∈ m :: xs ∧ ∀ y ∈ m :: xs, y ≤ maxI m xs
  | [], m => ⟨List.mem_cons_self, fun y h => by simp at h; unfold maxI; omega⟩
  | x :: xs, m => by
    obtain ⟨h1, h2⟩ := maxI_spec xs (if m < x then x else m)
    show maxI (if m < x then x else m) xs ∈ _ ∧ ∀ y ∈ m :: x :: xs, y ≤ maxI (if m < x then x else m) xs
    refine ⟨?_, fun y hy => ?_⟩
    · rcases List.mem_cons.mp h1 with e | e
      · rw [e]
        split <;> simp
      · exact List.mem_cons_of_mem _ (List.mem_cons_of_mem _ e)
    · have h3 := h2 (if m < x then x else m) List.mem_cons_self
      generalize maxI (if m < x then x else m) xs = z at h2 h3 ⊢
      rcases List.mem_cons.mp hy with e | hy
      · subst e; split at h3 <;> omega
      · rcases List.mem_cons.mp hy with e | hy
        · subst e; split at h3 <;> omega
        · exact h2 y (List.mem_cons_of_mem _ hy)

section
variable {X : Cx} {F H : Hp}
theorem cr_sortTup : CallR X (.builtin "sorted") (fun vs H Q => ∃ (a : Addr) (ns : List Int), vs = [V.ref a] ∧ SqT X.K H a (ns.map V.int) ∧
    ∀ (ns' : List Int) (p : Addr), ns'.Perm ns → ns'.Pairwise (· ≤ ·) → H p = none → Q (.ref p) (upd H p (.lst (ns'.map V.int)))) := by
  intro pins s σ H vs us Q I r h
  obtain ⟨a, ns, rfl, hs, q⟩ := h
  obtain ⟨its, rv, hl, hz⟩ := I.tuple hs
  rw [Vals.ref1 r]
  have hi := rv.ints
  refine sortedTup hl (by rw [← rv.length]; exact hz) hi fun out h1 h2 => ?_
  obtain ⟨k1, k2, k3⟩ := SrtO.ints_out hi h1 h2
  obtain ⟨ep, he'⟩ := PyProof.Rows.sortedAll_at s.heap its out.toArray
  have len : ((out.map SrtO.iv).map V.int).length ≤ sizeLine := by
    rw [List.length_map, k2.length_eq]
    rw [List.length_map] at hz
    exact hz
  refine ⟨.ref _, upd H (s.heap.objs.size + 1) (.lst ((out.map SrtO.iv).map V.int)), ?_, rfl, q _ _ k2 k3 (I.hok.fresh (Nat.le_succ _))⟩
  exact I.laid (t' := s.toks) (fun _ _ => PyProof.Rows.sortedAll_old) (Nat.le_succ _) ⟨len, out, ep, vals_of_ints k1, he'⟩

/-! sorted of pairs -/
theorem cr_sortPT : CallR X (.builtin "sorted") (fun vs H Q => ∃ (a : Addr) (ts : List (Addr × (Int × Int))), vs = [V.ref a] ∧ SqL X.K H a (ts.map fun p => V.ref p.1) ∧ (∀ p ∈ ts, SqT X.K H p.1 [.int p.2.1, .int p.2.2]) ∧
    ∀ (ts' : List (Addr × (Int × Int))) (p : Addr), ts'.Perm ts → ts'.Pairwise (fun x y => SrtO.lexB y.2 x.2 = false) → H p = none → Q (.ref p) (upd H p (.lst (ts'.map fun p => V.ref p.1)))) := by
  intro pins s σ H vs us Q I r h
  obtain ⟨a, ts, rfl, hs, hx, q⟩ := h
  obtain ⟨its, rv, hl, hz⟩ := I.list hs
  obtain ⟨u, rfl, ru⟩ := vals1 r
  obtain rfl : u = Value.ref a := ru
  obtain ⟨e1, e2⟩ := refs_back rv fun x m => by
    obtain ⟨p, _, rfl⟩ := List.mem_map.mp m
    exact ⟨p.1, rfl⟩
  let f : Value → Addr × (Int × Int) := fun u => match u with
    | .ref b => (b, (ts.lookup b).getD (0, 0))
    | _ => (0, (0, 0))
  have fk : ∀ p ∈ ts, f (.ref p.1) = p := fun p hp => by
    have : ∃ z, ts.lookup p.1 = some z ∧ (p.1, z) ∈ ts := by
      clear hs hx q rv e1 e2 f hz hl
      induction ts with
      | nil => cases hp
      | cons y ts ih =>
        rw [List.lookup_cons]
        split
        · rename_i b
          have := beq_iff_eq.mp b
          exact ⟨y.2, rfl, by rw [this]; exact List.mem_cons_self⟩
        · rename_i b
          rcases List.mem_cons.mp hp with e | hp
          · rw [e] at b
            simp at b
          · obtain ⟨z, h1, h2⟩ := ih hp
            exact ⟨z, h1, List.mem_cons_of_mem _ h2⟩
    obtain ⟨z, h1, h2⟩ := this
    have := I.tuple_inj (hx _ h2) (hx p hp)
    have ez : z = p.2 := by
      simp only [List.cons.injEq, V.int.injEq, and_true] at this
      exact Prod.ext this.1 this.2
    show (p.1, (ts.lookup p.1).getD (0, 0)) = p
    rw [h1, ez]
    rfl
  have ei : its = ts.map fun p => Value.ref p.1 := by
    have : ∀ (ts : List (Addr × (Int × Int))) (its : List Value), Vals (ts.map fun p => V.ref p.1) its → its = ts.map fun p => Value.ref p.1 := by
      intro ts
      induction ts with
      | nil => intro its h; cases h; rfl
      | cons y ts ih =>
        intro its h
        cases h with
        | cons h t =>
          cases h
          rw [List.map_cons, ← ih _ t]
    exact this ts its rv
  have fi : its.map f = ts := by
    rw [ei, List.map_map]
    have : ∀ l : List (Addr × (Int × Int)), (∀ p ∈ l, p ∈ ts) → l.map (f ∘ fun p => Value.ref p.1) = l := by
      intro l hl
      induction l with
      | nil => rfl
      | cons y l ih =>
        rw [List.map_cons, ih fun p hp => hl p (List.mem_cons_of_mem _ hp)]
        show f (.ref y.1) :: l = y :: l
        rw [fk y (hl y List.mem_cons_self)]
    exact this ts fun _ h => h
  refine SrtO.sorted_pairsO (k := fun u => (f u).2) hl.isList (by rw [← rv.length]; exact hz) (fun v hv => ?_) fun h' d out h1 h2 kp hd hn => ?_
  · rw [ei] at hv
    obtain ⟨p, hp, rfl⟩ := List.mem_map.mp hv
    show Srt.IsPair s.heap (.ref p.1) (f (.ref p.1)).2.1 (f (.ref p.1)).2.2
    rw [fk p hp]
    obtain ⟨its2, r2, ⟨o, ho, hc, n, hd⟩, _⟩ := I.tuple (hx p hp)
    obtain ⟨u1, u2, rfl, ri, rj⟩ := vals2 r2
    obtain ⟨t1, rfl⟩ := ri
    obtain ⟨t2, rfl⟩ := rj
    exact ⟨p.1, o, t1, t2, n, rfl, ho, hc, hd⟩
  · have h3 : ∀ u ∈ out, ∃ a, u = Value.ref a := fun u hu => e2 u (h2.perm.mem_iff.mp hu)
    obtain ⟨n, hn⟩ := hn
    have pm : (out.map f).Perm ts := by
      have := h2.perm.map f
      rwa [fi] at this
    have eo : (out.map f).map (fun p => V.ref p.1) = out.map backV := by
      rw [List.map_map]
      refine List.map_congr_left fun u hu => ?_
      obtain ⟨b, rfl⟩ := h3 u hu
      rfl
    have len : (out.map backV).length ≤ sizeLine := by
      rw [List.length_map, h2.perm.length_eq, ← rv.length]
      exact hz
    refine ⟨.ref d, upd H d (.lst (out.map backV)), I.laid (t' := s.toks) kp hd ⟨len, out, n, vals_back h3, hn⟩, rfl, ?_⟩
    rw [← eo]
    exact q (out.map f) d pm (List.pairwise_map.mpr h1) (I.hok.fresh hd)
theorem ltQ_lex (p q : Nat × Nat) : ltQ p q = SrtO.lexB ((p.1 : Int), (p.2 : Int)) ((q.1 : Int), (q.2 : Int)) := by
  rw [Bool.eq_iff_iff, SrtO.lexB_iff]
  unfold ltQ
  rw [Bool.or_eq_true, Bool.and_eq_true, Nat.blt_eq, Nat.beq_eq, Nat.blt_eq]
  show _ ↔ (p.1 : Int) < q.1 ∨ ((p.1 : Int) = q.1 ∧ (p.2 : Int) < q.2)
  omega
theorem insQ_perm (x : Nat × Nat) : ∀ ys, (insQ x ys).Perm (x :: ys)
  | [] => .refl _
  | y :: ys => by
    unfold insQ
    split
    · exact ((insQ_perm x ys).cons y).trans (.swap x y ys)
    · exact .refl _
theorem sortQ_perm : ∀ xs, (sortQ xs).Perm xs
  | [] => .refl _
  | x :: xs => (insQ_perm x (sortQ xs)).trans ((sortQ_perm xs).cons x)
theorem ltQ_iff (p q : Nat × Nat) : ltQ p q = true ↔ p.1 < q.1 ∨ (p.1 = q.1 ∧ p.2 < q.2) := by
  unfold ltQ
  rw [Bool.or_eq_true, Bool.and_eq_true, Nat.blt_eq, Nat.beq_eq, Nat.blt_eq]
theorem ltQ_no (p q : Nat × Nat) : ltQ p q = false ↔ q.1 < p.1 ∨ (p.1 = q.1 ∧ q.2 ≤ p.2) := by
  rw [← Bool.not_eq_true, ltQ_iff]
  omega
theorem insQ_pw (x : Nat × Nat) : ∀ {ys : List (Nat × Nat)}, ys.Pairwise (fun a b => ltQ b a = false) → (insQ x ys).Pairwise (fun a b => ltQ b a = false)
  | [], _ => by simp [insQ]
  | y :: ys, h => by
    obtain ⟨h1, h2⟩ := List.pairwise_cons.mp h
    unfold insQ
    split
    · rename_i c
      refine List.pairwise_cons.mpr ⟨fun z hz => ?_, insQ_pw x h2⟩
      rcases List.mem_cons.mp ((insQ_perm x ys).mem_iff.mp hz) with e | hz
      · subst e
        rw [ltQ_iff] at c
        rw [ltQ_no]
        omega
      · exact h1 z hz
    · rename_i c
      rw [Bool.not_eq_true] at c
      refine List.pairwise_cons.mpr ⟨fun z hz => ?_, h⟩
      rcases List.mem_cons.mp hz with e | hz
      · subst e; exact c
      · have := h1 z hz
        rw [ltQ_no] at *
        omega
theorem sortQ_pw : ∀ xs, (sortQ xs).Pairwise (fun a b => ltQ b a = false)
  | [] => .nil
  | x :: xs => insQ_pw x (sortQ_pw xs)
theorem sortQ_uniq : ∀ {a b : List (Nat × Nat)}, a.Perm b → a.Pairwise (fun a b => ltQ b a = false) → b.Pairwise (fun a b => ltQ b a = false) → a = b
  | [], b, p, _, _ => (List.Perm.eq_nil p.symm).symm
  | x :: a, [], p, _, _ => absurd p.length_eq (by simp)
  | x :: a, y :: b, p, h, k => by
    have h' := List.pairwise_cons.mp h
    have k' := List.pairwise_cons.mp k
    have e : x = y := by
      rcases List.mem_cons.mp (p.mem_iff.mp List.mem_cons_self) with e | hx
      · exact e
      · rcases List.mem_cons.mp (p.mem_iff.mpr List.mem_cons_self) with e | hy
        · exact e.symm
        · have a1 := h'.1 y hy
          have a2 := k'.1 x hx
          rw [ltQ_no] at a1 a2
          exact Prod.ext (by omega) (by omega)
    subst e
    rw [sortQ_uniq p.cons_inv h'.2 k'.2]
theorem prsOf_eq : ∀ {xs : List D} {ps : List (Nat × Nat)}, prsOf xs = some ps → xs = ps.map pairD
  | [], ps, e => by cases e; rfl
  | d :: ds, ps, e => by
    unfold prsOf at e
    split at e
    · rename_i h; cases h
    · rename_i x y ds' h
      cases h
      rw [Option.map_eq_some_iff] at e
      obtain ⟨qs, e1, rfl⟩ := e
      rw [prsOf_eq e1]
      rfl
    · cases e
theorem prs_fz : ∀ ps : List (Nat × Nat), fzs (ps.map pairD) = true
  | [] => rfl
  | p :: ps => by
    simp only [List.map_cons, fzs, prs_fz ps]
    rfl
def prI (p : Nat × Nat) : Int × Int := ((p.1 : Int), (p.2 : Int))
theorem prs_rp {K : PySem.W.Frag} : ∀ {ps : List (Nat × Nat)} {vs : List V}, RpL K F vs (ps.map pairD) → ∃ ts : List (Addr × (Int × Int)), vs = ts.map (fun p => V.ref p.1) ∧ ts.map Prod.snd = ps.map prI ∧ ∀ p ∈ ts, SqT K F p.1 [.int p.2.1, .int p.2.2]
  | [], _, h => by cases h; exact ⟨[], rfl, rfl, fun p q => by cases q⟩
  | p :: ps, _, h => by
    cases h with
    | cons r t =>
      obtain ⟨ts, e1, e2, e3⟩ := prs_rp t
      change Rp K F _ (.tup [.int p.1, .int p.2]) at r
      cases r with
      | tup q l =>
        rename_i a ws
        obtain ⟨rfl, _⟩ := l.ints (ns := [(p.1 : Int), (p.2 : Int)]) rfl
        refine ⟨(a, prI p) :: ts, by rw [e1]; rfl, by rw [List.map_cons, e2]; rfl, fun x hx => ?_⟩
        rcases List.mem_cons.mp hx with rfl | hx
        · exact q
        · exact e3 x hx
theorem rp_prs {K : PySem.W.Frag} : ∀ {L : List (Addr × (Int × Int))} {qs : List (Nat × Nat)}, (∀ p ∈ L, SqT K F p.1 [.int p.2.1, .int p.2.2]) → L.map Prod.snd = qs.map prI → RpL K F (L.map fun p => V.ref p.1) (qs.map pairD)
  | [], [], _, _ => .nil
  | [], q :: qs, _, e => by simp at e
  | p :: L, [], _, e => by simp at e
  | p :: L, q :: qs, h, e => by
    simp only [List.map_cons, List.cons.injEq] at e
    refine .cons ?_ (rp_prs (fun x hx => h x (by simp [hx])) e.2)
    have := h p (by simp)
    rw [e.1] at this
    exact .tup this (ints_rp [(q.1 : Int), (q.2 : Int)])
theorem sort_prs {L : List (Int × Int)} {ps : List (Nat × Nat)} (pm : L.Perm (ps.map prI)) (pw : L.Pairwise (fun x y => SrtO.lexB y x = false)) : L = (sortQ ps).map prI := by
  have up : ∀ l : List (Int × Int), (∀ z ∈ l, ∃ p, z = prI p) → ∃ qs : List (Nat × Nat), l = qs.map prI := by
    intro l
    induction l with
    | nil => intro _; exact ⟨[], rfl⟩
    | cons z l ih =>
      intro h
      obtain ⟨qs, e⟩ := ih fun y hy => h y (List.mem_cons_of_mem _ hy)
      obtain ⟨p, e2⟩ := h z List.mem_cons_self
      exact ⟨p :: qs, by rw [e, e2]; rfl⟩
  obtain ⟨qs, rfl⟩ := up L fun z hz => by
    obtain ⟨p, _, e⟩ := List.mem_map.mp (pm.mem_iff.mp hz)
    exact ⟨p, e.symm⟩
  have pm2 : qs.Perm ps := by
    let g : Int × Int → Nat × Nat := fun z => (z.1.toNat, z.2.toNat)
    have gi : ∀ l : List (Nat × Nat), (l.map prI).map g = l := fun l => by
      rw [List.map_map]
      have : (g ∘ prI) = id := funext fun p => rfl
      rw [this, List.map_id]
    have := pm.map g
    rwa [gi, gi] at this
  rw [sortQ_uniq (pm2.trans (sortQ_perm ps).symm) ((List.pairwise_map.mp pw).imp fun {a b} h => by rw [ltQ_lex]; exact h) (sortQ_pw ps)]
def biV : Bi → Value
  | .len => .builtin "len" | .abs => .builtin "abs" | .min2 => .builtin "min" | .max2 => .builtin "max" | .min1 => .builtin "min" | .max1 => .builtin "max"
  | .sum1 => .builtin "sum" | .int1 => .type "int" | .list1 => .type "list" | .tuple1 => .type "tuple" | .sorted1 => .builtin "sorted" | .all1 => .builtin "all" | .any1 => .builtin "any"
  | .divmod => .builtin "divmod" | .lrange => .none | .trange => .none | .maxd => .none | .sset => .none | .step => .none | .lenr => .none
theorem VwL.one {K : PySem.W.Frag} {xs : List V} {d : D} (h : VwL K F H xs [d]) : ∃ x, xs = [x] ∧ Vw K F H x d := by
  cases h with
  | cons h t => cases t; exact ⟨_, rfl, h⟩
theorem VwL.two {K : PySem.W.Frag} {xs : List V} {d e : D} (h : VwL K F H xs [d, e]) : ∃ x y, xs = [x, y] ∧ Vw K F H x d ∧ Vw K F H y e := by
  cases h with
  | cons h t =>
    cases t with
    | cons h2 t => cases t; exact ⟨_, _, rfl, h, h2⟩
theorem Vw.ints {K : PySem.W.Frag} {x : V} {o : Bool} {ds : List D} {ns : List Int} (s : Same F H) (h : Vw K F H x (.lst o ds)) (e : intsOf ds = some ns) : ∃ a, x = .ref a ∧ H a = some (.lst (ns.map V.int)) := by
  obtain ⟨a, vs, rfl, h1, _, r⟩ := h.lst s
  obtain ⟨rfl, _⟩ := (r (intsOf_fz e)).ints e
  exact ⟨a, rfl, h1⟩
theorem foldl_min (ms : List Int) : ∀ n : Int, ms.foldl min n = minI n ms := by
  induction ms with
  | nil => intro n; rfl
  | cons m ms ih =>
    intro n
    rw [List.foldl_cons, ih, minI]
    congr 1
    split <;> omega
open PySem.W in
theorem alike_ints (ns : List Int) : AlikeAll (ns.map PyData.int) := by
  refine ⟨fun x hx y hy => ?_, fun x hx => ?_⟩
  · obtain ⟨i, _, rfl⟩ := List.mem_map.mp hx
    obtain ⟨j, _, rfl⟩ := List.mem_map.mp hy
    rfl
  · obtain ⟨i, _, rfl⟩ := List.mem_map.mp hx
    intro h; cases h
theorem depth_ints : ∀ ns : List Int, PyData.depthAll (ns.map PyData.int) ≤ 1
  | [] => by simp [PyData.depthAll]
  | n :: ns => by
    simp only [List.map_cons, PyData.depthAll, PyData.depth]
    have := depth_ints ns
    omega
def rMinT (K : PySem.W.Frag) : List V → Hp → VK → Prop := fun vs H Q => ∃ (a : Addr) (n : Int) (ms : List Int), vs = [V.ref a] ∧ SqT K H a ((n :: ms).map V.int) ∧ Q (.int (ms.foldl min n)) H
open PySem.W in
theorem cr_minT (hc : X.calm = true) (hu : X.A.units + 60 < cLine) : CallR X (.builtin "min") (rMinT X.K) := by
  intro pins s σ H vs us Q I r h
  obtain ⟨a, n, ms, rfl, hs, q⟩ := h
  rw [Vals.ref1 r]
  obtain ⟨its, rv, ht, _⟩ := I.tuple hs
  have rd := ints_readAll s.heap (xs := n :: ms) rv.ints
  have dp := depth_ints (n :: ms)
  refine min_tuple_data (I.ok.hd hc) ht (by simpa using rd) (alike_ints (n :: ms)) (by simp only [List.map_cons] at dp; omega) (fun i v h' tk bs hi hr hk => ?_)
  rw [minD_ints] at hr
  cases hr with
  | int => exact ⟨.int _, H, I.kept hk, ⟨_, rfl⟩, q⟩
theorem bi_ok {b : Bi} {ds : List D} {d : D} {xs : List V} {Q : VK} (hu : X.A.units + 65 < cLine) (hc : X.calm = true) (s : Same F H) (nb : b.pl = true) (e : biD b ds = some d) (hv : VwL X.K F H xs ds) (g : Goes X F H d Q) : cW X (biV b) xs H Q := by
  unfold biD at e
  split at e
  · cases e
    obtain ⟨x, rfl, hx⟩ := hv.one
    obtain ⟨a, vs, rfl, h1, l, _⟩ := hx.lst s
    exact cW_of call_len_seq ⟨a, vs, rfl, .inl (SqL.of h1), by rw [l]; exact g.atom s (.int _)⟩
  · cases e
    obtain ⟨x, rfl, hx⟩ := hv.one
    obtain ⟨a, vs, rfl, h1, r⟩ := hx.tup
    exact cW_of call_len_seq ⟨a, vs, rfl, .inr (sqt_mono s h1), by rw [r.length]; exact g.atom s (.int _)⟩
  · split at e
    · rename_i c
      cases e
      simp only [decide_eq_true_eq] at c
      obtain ⟨x, rfl, hx⟩ := hv.one
      cases hx.str
      exact cW_of call_len_str ⟨_, rfl, Nat.le_trans c cap_line, g.atom s (.int _)⟩
    · cases e
  · cases e
    obtain ⟨x, rfl, hx⟩ := hv.one
    cases hx.int
    exact cW_of call_abs ⟨_, rfl, g.atom s (.int _)⟩
  · cases e
    obtain ⟨x, y, rfl, hx, hy⟩ := hv.two
    cases hx.int; cases hy.int
    exact cW_of (call_min2 hc) ⟨_, _, rfl, g.atom s (.int _)⟩
  · cases e
    obtain ⟨x, y, rfl, hx, hy⟩ := hv.two
    cases hx.int; cases hy.int
    exact cW_of (call_max2 hc) ⟨_, _, rfl, g.atom s (.int _)⟩
  · split at e
    · rename_i n ns e1
      cases e
      obtain ⟨x, rfl, hx⟩ := hv.one
      obtain ⟨a, rfl, h1⟩ := hx.ints s e1
      refine cW_of (cr_min hc) ⟨a, n :: ns, rfl, SqL.of h1, by simp, fun m h2 h3 => ?_⟩
      obtain ⟨q1, q2⟩ := minI_spec ns n
      have : m = minI n ns := Int.le_antisymm (h3 _ q1) (q2 _ h2)
      rw [this]
      exact g.atom s (.int _)
    · cases e
  · split at e
    · rename_i n ns e1
      cases e
      obtain ⟨x, rfl, hx⟩ := hv.one
      obtain ⟨a, vs, rfl, h1, r⟩ := hx.tup
      obtain ⟨rfl, _⟩ := r.ints e1
      refine cW_of (cr_minT hc (by omega)) ⟨a, n, ns, rfl, sqt_mono s h1, ?_⟩
      rw [foldl_min]
      exact g.atom s (.int _)
    · cases e
  · split at e
    · rename_i n ns e1
      cases e
      obtain ⟨x, rfl, hx⟩ := hv.one
      obtain ⟨a, rfl, h1⟩ := hx.ints s e1
      refine cW_of (cr_max hc) ⟨a, n :: ns, rfl, SqL.of h1, by simp, fun m h2 h3 => ?_⟩
      obtain ⟨q1, q2⟩ := maxI_spec ns n
      have : m = maxI n ns := Int.le_antisymm (q2 _ h2) (h3 _ q1)
      rw [this]
      exact g.atom s (.int _)
    · cases e
  · exact absurd nb (by decide)
  · split at e
    · rename_i ns e1
      cases e
      obtain ⟨x, rfl, hx⟩ := hv.one
      obtain ⟨a, rfl, h1⟩ := hx.ints s e1
      exact cW_of (cr_sum hc) ⟨a, ns, rfl, SqL.of h1, g.atom s (.int _)⟩
    · cases e
  · cases e
    obtain ⟨x, rfl, hx⟩ := hv.one
    cases hx.int
    exact cW_of call_int1 (.inl ⟨_, rfl, g.atom s (.int _)⟩)
  · cases e
    obtain ⟨x, rfl, hx⟩ := hv.one
    cases hx.bl
    exact cW_of call_int1 (.inr ⟨_, rfl, g.atom s (.int _)⟩)
  · rename_i d0
    obtain ⟨x, rfl, hx⟩ := hv.one
    rw [Option.map_eq_some_iff] at e
    obtain ⟨ys, e1, e2⟩ := e
    subst e2
    cases d0 with
    | tup zs =>
      simp only [items, Option.some.injEq] at e1
      subst e1
      obtain ⟨a, vs, rfl, h1, r⟩ := hx.tup
      exact cW_of call_list_of ⟨a, vs, rfl, .inr (sqt_mono s h1), fun p hp => g.list s hp r⟩
    | lst o zs =>
      simp only [items] at e1
      split at e1
      · rename_i c
        cases e1
        obtain ⟨a, vs, rfl, h1, l, r⟩ := hx.lst s
        exact cW_of call_list_of ⟨a, vs, rfl, .inl (SqL.of h1), fun p hp => g.list s hp (r c)⟩
      · cases e1
    | _ => simp [items] at e1
  · rename_i d0
    obtain ⟨x, rfl, hx⟩ := hv.one
    rw [Option.map_eq_some_iff] at e
    obtain ⟨ys, e1, e2⟩ := e
    subst e2
    cases d0 with
    | tup zs =>
      simp only [items, Option.some.injEq] at e1
      subst e1
      obtain ⟨a, vs, rfl, h1, r⟩ := hx.tup
      exact cW_of call_tuple_of ⟨a, vs, rfl, .inr ⟨sqt_mono s h1, g.atom s (.tup h1 r)⟩⟩
    | lst o zs =>
      simp only [items] at e1
      split at e1
      · rename_i c
        cases e1
        obtain ⟨a, vs, rfl, h1, l, r⟩ := hx.lst s
        exact cW_of call_tuple_of ⟨a, vs, rfl, .inl ⟨SqL.of h1, fun p hp => g.tuple s hp (r c)⟩⟩
      · cases e1
    | _ => simp [items] at e1
  · split at e
    · rename_i ns e1
      cases e
      obtain ⟨x, rfl, hx⟩ := hv.one
      obtain ⟨a, rfl, h1⟩ := hx.ints s e1
      refine cW_of cr_sortedI ⟨a, ns, rfl, SqL.of h1, fun ns' p h2 h3 hp => ?_⟩
      rw [sortI_uniq h2 h3]
      exact g.list s hp (ints_rp _)
    · split at e
      · rename_i ps ep
        cases e
        obtain ⟨x, rfl, hx⟩ := hv.one
        obtain ⟨a, vs, rfl, h1, _, r⟩ := hx.lst s
        cases prsOf_eq ep
        obtain ⟨ts, rfl, k2, k3⟩ := prs_rp (r (prs_fz ps))
        refine cW_of cr_sortPT ⟨a, ts, rfl, SqL.of h1, fun p hp => sqt_mono s (k3 p hp), fun ts' p pm pw hp => ?_⟩
        refine g.list s hp (rp_prs (fun x hx => k3 x (pm.mem_iff.mp hx)) (sort_prs ?_ (List.pairwise_map.mpr pw)))
        rw [← k2]
        exact pm.map Prod.snd
      · cases e
  · split at e
    · rename_i ns e1
      cases e
      obtain ⟨x, rfl, hx⟩ := hv.one
      obtain ⟨a, vs, rfl, h1, r⟩ := hx.tup
      obtain ⟨rfl, _⟩ := r.ints e1
      refine cW_of cr_sortTup ⟨a, ns, rfl, sqt_mono s h1, fun ns' p h2 h3 hp => ?_⟩
      rw [sortI_uniq h2 h3]
      exact g.list s hp (ints_rp _)
    · cases e
  · split at e
    · rename_i ns e1
      cases e
      obtain ⟨x, rfl, hx⟩ := hv.one
      obtain ⟨a, vs, rfl, h1, l, r⟩ := hx.lst s
      obtain ⟨rfl, _⟩ := (r (boolsOf_fz e1)).bools e1
      exact cW_of (cr_all hc) ⟨a, ns, rfl, SqL.of h1, g.atom s (.bl _)⟩
    · cases e
  · split at e
    · rename_i ns e1
      cases e
      obtain ⟨x, rfl, hx⟩ := hv.one
      obtain ⟨a, vs, rfl, h1, l, r⟩ := hx.lst s
      obtain ⟨rfl, _⟩ := (r (boolsOf_fz e1)).bools e1
      exact cW_of (cr_any hc) ⟨a, ns, rfl, SqL.of h1, g.atom s (.bl _)⟩
    · cases e
  · split at e
    · rename_i c
      cases e
      simp only [Bool.and_eq_true, decide_eq_true_eq] at c
      obtain ⟨x, y, rfl, hx, hy⟩ := hv.two
      cases hx.int; cases hy.int
      exact cW_of call_divmod ⟨_, _, rfl, ⟨c.1, c.2⟩, fun p hp => g.tuple s hp (.cons (.int _) (.cons (.int _) .nil))⟩
    · cases e
  · exact absurd nb (by decide)
  · exact absurd nb (by decide)
  · exact absurd nb (by decide)
  · exact absurd nb (by decide)
  · exact absurd nb (by decide)
  · cases e
end
end Ev

set_option linter.all false
set_option maxRecDepth 100000
set_option maxHeartbeats 2000000
/-! Ev: items, slices, classes, methods, what is walked -/
namespace Ev
open PySem PySem.Spec PyProof.Rows L2
section
variable {X : Cx} {F H : Hp}

/-! ### one behind another -/
def nestA (X : Cx) : List Expr → TA
  | [] => fun _ H Q => Q [] H
  | e :: es => fun σ H Q => tW X e σ H fun x H1 => nestA X es σ H1 fun xs H2 => Q (x :: xs) H2
def noStar : List Expr → Bool
  | [] => true
  | .Starred _ _ :: _ => false
  | _ :: es => noStar es
theorem star_cons {e : Expr} {es : List Expr} (env : Env) (h : noStar (e :: es) = true) : starEach (e :: es) env = (false, eval e env) :: starEach es env := by
  cases e <;> first | rfl | simp [noStar] at h
theorem noStar_tail {e : Expr} {es : List Expr} (h : noStar (e :: es) = true) : noStar es = true := by
  cases e <;> first | exact h | simp [noStar] at h
theorem pa_nest : ∀ {es : List Expr}, noStar es = true → PA X es (nestA X es)
  | [], _ => pa_nil
  | e :: es, h => pa_cons pe_tW (pa_nest (noStar_tail h)) (star_cons X.env h)
theorem star_plain : ∀ {es : List Expr} (env : Env) (pos : Pos), noStar es = true → (backTo pos (starEach es env)).any (·.1) = false
  | [], _, _, _ => rfl
  | e :: es, env, pos, h => by
    rw [star_cons env h]
    have ih := star_plain (es := es) env pos (noStar_tail h)
    unfold backTo at ih ⊢
    rw [List.map_cons, List.any_cons, ih] <;> rfl

/-! ### items -/
theorem ixN_eq (n : Nat) (i : Int) : L2.ixN n i = Ev.ixN n i := rfl
theorem atI_of {α : Type} {xs : List α} {k : Int} {j : Nat} {v : α} (h : Ev.ixN xs.length k = some j) (g : xs[j]? = some v) : atI xs k = some v := by
  unfold atI
  rw [ixN_eq, h]
  exact g
theorem Vw.kid {K : PySem.W.Frag} {x : V} {o : Bool} {xs : List D} {j : Nat} {y : D} (s : Same F H) (h : Vw K F H x (.lst o xs)) (g : xs[j]? = some y) : ∃ a vs v, x = .ref a ∧ H a = some (.lst vs) ∧ vs.length = xs.length ∧ vs[j]? = some v ∧ Vw K F H v y := by
  obtain ⟨W, h⟩ := h
  cases h with
  | frz r =>
    cases r with
    | lst h l =>
      obtain ⟨v, g1, g2⟩ := l.get g
      exact ⟨_, _, v, rfl, s _ _ h, l.length, g1, No, .frz g2⟩
  | own h1 h2 h3 h4 h5 h6 =>
    obtain ⟨v, U, g1, g2, _⟩ := h4.get g
    exact ⟨_, _, v, rfl, h1, h4.length, g1, U, g2⟩
theorem ix_list_ok {x : V} {a : Addr} {vs : List V} {k : Int} {j : Nat} {v : V} {Q : VK} (h : H a = some (.lst vs)) (e : Ev.ixN vs.length k = some j) (g : vs[j]? = some v) (q : Q v H) : rIx X.K (.ref a) (.int k) H Q :=
  .inl ⟨a, vs, k, v, rfl, rfl, SqL.of h, atI_of e g, q⟩
theorem ix_tup_ok {x : V} {a : Addr} {vs : List V} {k : Int} {j : Nat} {v : V} {Q : VK} (h : SqT X.K H a vs) (e : Ev.ixN vs.length k = some j) (g : vs[j]? = some v) (q : Q v H) : rIx X.K (.ref a) (.int k) H Q :=
  .inr (.inl ⟨a, vs, k, v, rfl, rfl, h, atI_of e g, q⟩)
def isSlice : Expr → Bool
  | .Slice _ _ _ _ => true
  | _ => false
theorem plainIx {b : Expr} (h : isSlice b = false) : PlainIx b := fun o i => by
  cases b <;> first | rfl | simp [isSlice] at h

/-! ### slices -/
theorem sIx_eq (n d : Nat) (o : Option Int) : HT.sIx n d o = Ev.sIx n d o := by
  cases o with
  | none => rfl
  | some v =>
    show (if v < 0 then (v + (n : Int)).toNat else min v.toNat n) = (if v < 0 then max (v + (n : Int)) 0 else min v (n : Int)).toNat
    split <;> omega
theorem cut_rp {K : PySem.W.Frag} {vs : List V} {ds : List D} (r : RpL K F vs ds) (lo hi : Option Int) : RpL K F (cutV vs lo hi) (cutD ds lo hi) := by
  unfold cutV cutD
  rw [r.length, sIx_eq, sIx_eq]
  exact (r.drop _).take _
def rSlX (K : PySem.W.Frag) : V → Option Int → Option Int → Hp → VK → Prop := fun x lo hi H Q => rSlL K x lo hi H Q ∨ L2.rSlA K x lo hi H Q
theorem sl_any : SlR X (rSlX X.K) := sl_list.or sl_tupA
theorem cut_whole {vs : List V} {lo hi : Option Int} (h : HT.sIx vs.length 0 lo = 0 ∧ HT.sIx vs.length vs.length hi = vs.length) : cutV vs lo hi = vs := by
  unfold cutV
  rw [h.1, h.2]
  simp
theorem sl_ok {d r : D} {x : V} {lo hi : Option Int} {Q : VK} (s : Same F H) (e : slD d lo hi = some r) (hx : Vw X.K F H x d) (g : Goes X F H r Q) : rSlX X.K x lo hi H Q := by
  unfold slD at e
  split at e
  · split at e
    · rename_i c
      cases e
      obtain ⟨a, vs, rfl, h1, l, q⟩ := hx.lst s
      exact .inl ⟨a, vs, rfl, SqL.of h1, fun p hp => g.list s hp (cut_rp (q c) lo hi)⟩
    · cases e
  · cases e
    obtain ⟨a, vs, rfl, h1, q⟩ := hx.tup
    have hc := cut_rp q lo hi
    refine .inr ⟨a, vs, rfl, sqt_mono s h1, fun w => ?_, fun _ p hp => g.tuple s hp hc⟩
    rw [cut_whole w] at hc
    exact g.atom s (.tup h1 hc)
  · cases e
    obtain ⟨a, rfl, h1⟩ := hx.scr
    exact .inl ⟨a, _, rfl, s.seq h1, fun p hp => g.list s hp (cut_rp (ints_rp _) lo hi)⟩
  · cases e

/-! ### classes -/
def tyN : Ty → String
  | .bool => "bool" | .int => "int" | .str => "str" | .list => "list" | .tuple => "tuple" | .dict => "dict"
def kindN : D → String
  | .non => "NoneType" | .bl _ => "bool" | .int _ => "int" | .str _ => "str" | .tup _ => "tuple" | .lst _ _ => "list" | .scr _ => "list"
theorem kit_tab : ∀ t : Ty, kitB "NoneType" (tyN t) = some (isTy .non t) ∧ kitB "bool" (tyN t) = some (isTy (.bl true) t) ∧ kitB "int" (tyN t) = some (isTy (.int 0) t) ∧
    kitB "str" (tyN t) = some (isTy (.str Str.empty) t) ∧ kitB "tuple" (tyN t) = some (isTy (.tup []) t) ∧ kitB "list" (tyN t) = some (isTy (.lst true []) t)
  | .bool => by decide +kernel
  | .int => by decide +kernel
  | .str => by decide +kernel
  | .list => by decide +kernel
  | .tuple => by decide +kernel
  | .dict => by decide +kernel
theorem kit_one (K : PySem.W.Frag) (d : D) (t : Ty) : PySem.W.kitOne K (.type (kindN d)) (.type (tyN t)) = some (isTy d t) := by
  obtain ⟨h1, h2, h3, h4, h5, h6⟩ := kit_tab t
  cases d with
  | non => exact kit_ty h1
  | bl b => exact (kit_ty h2).trans (by cases t <;> rfl)
  | int b => exact (kit_ty h3).trans (by cases t <;> rfl)
  | str b => exact (kit_ty h4).trans (by cases t <;> rfl)
  | tup b => exact (kit_ty h5).trans (by cases t <;> rfl)
  | lst o b => exact (kit_ty h6).trans (by cases t <;> rfl)
  | scr b => exact (kit_ty h6).trans (by cases t <;> rfl)
theorem kit_any (K : PySem.W.Frag) (d : D) : ∀ ts : List Ty, PySem.W.kitAny K (.type (kindN d)) (ts.map fun t => Value.type (tyN t)) = some (ts.any (isTy d))
  | [] => rfl
  | t :: ts => by
    rw [List.map_cons, List.any_cons]
    unfold PySem.W.kitAny
    rw [kit_one K d t]
    cases isTy d t with
    | true => rfl
    | false => exact kit_any K d ts
theorem tyx_of {K : PySem.W.Frag} {x : V} {d : D} (s : Same F H) (h : Vw K F H x d) (f : ∀ ds, d = .tup ds → ∃ a vs, x = .ref a ∧ (H a = some (.tup vs) ∨ (∃ o, H a = some (.frz o (.tup vs))) ∨ ∃ o, K.lookup a = some o ∧ o.cls = .type "tuple")) : TyX K H x (.type (kindN d)) := by
  cases d with
  | non => cases h.non; exact .base .non
  | bl b => cases h.bl; exact .base (.bl b)
  | int b => cases h.int; exact .base (.int b)
  | str b => cases h.str; exact .base (.str b)
  | lst o ds =>
    obtain ⟨a, vs, rfl, h1, _⟩ := h.lst s
    exact .base (.lst h1)
  | tup ds =>
    obtain ⟨a, vs, rfl, q⟩ := f ds rfl
    rcases q with q | ⟨o, q⟩ | ⟨o, q1, q2⟩
    · exact .base (.tup q)
    · exact .fTuple q
    · exact .kTuple q1 q2
  | scr ns =>
    obtain ⟨a, rfl, h1⟩ := h.scr
    rcases h1 with (h1 | ⟨o, h1⟩) | ⟨o, its, n, h1, h2, _⟩
    · exact .base (.lst (s _ _ h1))
    · exact .base (.frz (s _ _ h1))
    · exact .kList h1 h2
theorem ty_of {K : PySem.W.Frag} {x : V} {d : D} (s : Same F H) (h : Vw K F H x d) : TyX K H x (.type (kindN d)) := by
  refine tyx_of s h fun ds e => ?_
  subst e
  obtain ⟨a, vs, rfl, h1, _⟩ := h.tup
  rcases h1 with (h1 | ⟨o, h1⟩) | ⟨o, its, n, h1, h2, _⟩
  · exact ⟨a, vs, rfl, .inl (s _ _ h1)⟩
  · exact ⟨a, vs, rfl, .inr (.inl ⟨o, s _ _ h1⟩)⟩
  · exact ⟨a, vs, rfl, .inr (.inr ⟨o, h1, h2⟩)⟩
theorem paired_ty : ∀ ts : List Ty, Paired ClsV (ts.map fun t => V.ty (tyN t)) (ts.map fun t => Value.type (tyN t))
  | [] => .nil
  | t :: ts => .cons (.ty _) (paired_ty ts)
theorem isi_one {x : V} {d : D} {t : Ty} {Q : VK} (s : Same F H) (h : Vw X.K F H x d) (q : Q (.bl (isTy d t)) H) : cW X (.builtin "isinstance") [x, .ty (tyN t)] H Q :=
  cW_of call_isi ⟨x, .ty (tyN t), _, _, _, rfl, .ty _, ty_of s h, kit_one X.K d t, q⟩
theorem isi_many {x : V} {d : D} {ts : List Ty} {p : Addr} {Q : VK} (s : Same F H) (h : Vw X.K F H x d) (hp : H p = some (.tup (ts.map fun t => V.ty (tyN t)))) (q : Q (.bl (ts.any (isTy d))) H) : cW X (.builtin "isinstance") [x, .ref p] H Q :=
  cW_of call_isiT ⟨x, p, _, _, _, _, rfl, hp, paired_ty ts, ty_of s h, kit_any X.K d ts, q⟩

/-! ### truth -/
theorem tru_of {K : PySem.W.Frag} {x : V} {d : D} {b : Bool} (s : Same F H) (h : Vw K F H x d) (e : truD d = some b) : TruV K x H b := by
  cases d with
  | non => cases h.non; cases e; exact rfl
  | bl i => cases h.bl; cases e; exact rfl
  | int i => cases h.int; cases e; exact rfl
  | str i =>
    cases h.str
    simp only [truD] at e
    split at e
    · rename_i c
      cases e
      simp only [decide_eq_true_eq] at c
      exact ⟨Nat.le_trans c cap_line, rfl⟩
    · cases e
  | lst o ds =>
    obtain ⟨a, vs, rfl, h1, l, _⟩ := h.lst s
    cases e
    refine .inl ⟨vs, SqL.of h1, ?_⟩
    cases vs <;> cases ds <;> simp at l ⊢
  | tup ds =>
    obtain ⟨a, vs, rfl, h1, r⟩ := h.tup
    cases e
    refine .inr (.inl ⟨vs, sqt_mono s h1, ?_⟩)
    cases r <;> rfl
  | scr ns => simp [truD] at e

/-! ### methods that change a list -/
def meN : Me → String
  | .append => "list.append" | .pop => "list.pop" | .popAt => "list.pop" | .extend => "list.extend" | .remove => "list.remove" | .index => "list.index"
def mW (X : Cx) (id : String) : V → List V → Hp → VK → Prop := fun x xs H Q => ∀ pins s σ v us, Inv X pins σ H s → RelV x v → Vals xs us → wpAny (model X.prog X.w) X.A (call (.builtin id) (v :: us)) (EP X pins σ Q) X.xe s
theorem mt_mW {id : String} : MtR X id (mW X id) := fun pins s σ H x xs v us Q I rx rs q => q pins s σ v us I rx rs
theorem mW_of {id : String} {r : V → List V → Hp → VK → Prop} {x : V} {xs : List V} {Q : VK} (h : MtM X id r) (q : r x xs H Q) : mW X id x xs H Q := fun pins s σ v us I rx rs => h pins s σ H x xs v us Q I rx rs q
theorem eraseIdx_map {α β : Type} (f : α → β) : ∀ (l : List α) (k : Nat), (l.map f).eraseIdx k = (l.eraseIdx k).map f
  | [], _ => by simp
  | _ :: _, 0 => by simp
  | _ :: l, k + 1 => by simp [eraseIdx_map f l k]
theorem OwL.append {K : PySem.W.Frag} : ∀ {vs ws : List V} {ds es : List D} {W U Z : Fp}, OwL K F H vs ds W → OwL K F H ws es U → Dj W U → (∀ b, W b → Z b) → (∀ b, U b → Z b) → OwL K F H (vs ++ ws) (ds ++ es) Z
  | _, _, _, _, _, _, _, .nil, q, _, _, s => q.weak s
  | _, _, _, _, W, U, Z, .cons (W1 := W1) (W2 := W2) h1 h2 h3 h4 h5, q, dj, s1, s2 => by
    refine .cons (W1 := W1) (W2 := Un2 W2 U) h1 (OwL.append h2 q (fun b z => dj b (h5 b z)) (fun b z => .inl z) fun b z => .inr z) (fun b z t => ?_) (fun b z => s1 b (h4 b z)) fun b z => ?_
    · rcases t with t | t
      · exact h3 b z t
      · exact dj b (h4 b z) t
    · rcases z with z | z
      · exact s1 b (h5 b z)
      · exact s2 b z
theorem OwL.erase {K : PySem.W.Frag} : ∀ {vs : List V} {ds : List D} {W : Fp} (k : Nat), OwL K F H vs ds W → OwL K F H (vs.eraseIdx k) (ds.eraseIdx k) W
  | _, _, _, _, .nil => by simpa using OwL.nil
  | _, _, _, 0, .cons h1 h2 h3 h4 h5 => by simpa using h2.weak h5
  | _, _, _, k + 1, .cons h1 h2 h3 h4 h5 => by simpa using OwL.cons h1 (OwL.erase k h2) h3 h4 h5
theorem dropLast_erase {α : Type} : ∀ l : List α, l.dropLast = l.eraseIdx (l.length - 1)
  | [] => rfl
  | [x] => rfl
  | x :: y :: l => by
    have := dropLast_erase (y :: l)
    simp only [List.dropLast_cons₂, List.length_cons] at this ⊢
    rw [this]
    rfl
theorem small62_of {i : Int} (h : small62 i = true) : -(2 ^ 62) ≤ i ∧ i < 2 ^ 62 := by
  rw [small62_eq] at h
  simp only [Bool.and_eq_true, decide_eq_true_eq] at h
  omega
theorem ixN_lt {n : Nat} {i : Int} {k : Nat} (h : Ev.ixN n i = some k) : seqIndex? i n = some k ∧ k < n := by
  have := ixN_seq (show L2.ixN n i = some k from h)
  exact ⟨this.1, this.2.1⟩
theorem ixOf_spec (i : Int) : ∀ {ns : List Int} {j : Nat}, ixOf i ns = some j → ns[j]? = some i ∧ ∀ m : Nat, m < j → ns[m]? ≠ some i
  | [], j, e => by simp [ixOf] at e
  | x :: xs, j, e => by
    unfold ixOf at e
    split at e
    · rename_i c
      cases e
      exact ⟨by simp [c], fun m h => absurd h (Nat.not_lt_zero m)⟩
    · rename_i c
      split at e
      · rename_i k ek
        cases e
        obtain ⟨h1, h2⟩ := ixOf_spec i ek
        refine ⟨by simpa using h1, fun m h => ?_⟩
        cases m with
        | zero => simpa using c
        | succ m => simpa using h2 m (by omega)
      · cases e
/-- a method changes the list at a: the list behind it, and what is handed back -/
theorem meth_ok {m : Me} {xs ds : List D} {r d' : D} {a : Addr} {vs ws : List V} {U Wt : Fp} {Q : VK} (s : Same F H) (e : methD m (.lst true xs) ds = some (r, d')) (ha : H a = some (.lst vs)) (o : OwL X.K F H vs xs U) (t : OwL X.K F H ws ds Wt) (dj : Dj U Wt)
    (g : ∀ vr vs' ds', d' = .lst true ds' → Rp X.K F vr r → OwL X.K F H vs' ds' (Un2 U Wt) → Q vr (upd H a (.lst vs'))) : mW X (meN m) (.ref a) ws H Q := by
  have hl := o.length
  unfold methD at e
  split at e
  · rename_i xs0 d0 h0
    split at e
    · rename_i c
      cases e
      cases h0
      simp only [decide_eq_true_eq] at c
      cases t with
      | cons t1 t2 t3 t4 t5 =>
        cases t2
        have := cap_line
        refine mW_of mt_append ⟨a, vs, _, rfl, rfl, ha, by omega, g .non _ _ rfl .non (o.append (.cons t1 .nil t3 t4 t5) dj (fun b z => .inl z) fun b z => .inr z)⟩
    · cases e
  · rename_i xs0 h0
    split at e
    · rename_i y r' er
      split at e
      · rename_i c
        cases e
        cases h0
        cases t
        have ex : xs = r'.reverse ++ [r] := by
          have := congrArg List.reverse er
          simpa using this
        have hy : xs[xs.length - 1]? = some r := by rw [ex]; simp
        obtain ⟨v, U1, g1, o1, _⟩ := o.get hy
        have hd : r'.reverse = xs.eraseIdx (xs.length - 1) := by rw [← dropLast_erase, ex, List.dropLast_concat]
        refine mW_of mt_pop ⟨a, vs, v, rfl, rfl, ha, by rw [hl]; exact g1, ?_⟩
        rw [dropLast_erase]
        refine g v _ _ rfl (o1.fz c) ?_
        rw [hd, hl]
        exact (o.erase _).weak fun b z => .inl z
      · cases e
    · cases e
  · rename_i xs0 i h0
    split at e
    · rename_i c
      split at e
      · rename_i k ek
        split at e
        · rename_i y ey
          split at e
          · rename_i cy
            cases e
            cases h0
            obtain ⟨v, U1, g1, o1, _⟩ := o.get ey
            cases t with
            | cons t1 t2 t3 t4 t5 =>
              cases t2
              have := (Vw.int ⟨_, t1⟩)
              subst this
              obtain ⟨b1, b2⟩ := small62_of c
              refine mW_of mt_popAt ⟨a, vs, i, k, v, rfl, rfl, ha, by omega, by omega, by rw [hl]; exact (ixN_lt ek).1, g1, g v _ _ rfl (o1.fz cy) ((o.erase k).weak fun b z => .inl z)⟩
          · cases e
        · cases e
      · cases e
    · cases e
  · rename_i xs0 o2 ys h0
    split at e
    · rename_i c
      cases e
      cases h0
      simp only [Bool.and_eq_true, decide_eq_true_eq] at c
      cases t with
      | cons t1 t2 t3 t4 t5 =>
        cases t2
        obtain ⟨b, zs, rfl, hb, lz, rz⟩ := Vw.lst s ⟨_, t1⟩
        have := cap_line
        refine mW_of mt_extend ⟨a, b, vs, zs, rfl, rfl, ha, hb, by omega, g .non _ _ rfl .non (o.append (.of (W := No) (rz c.1)) (fun _ _ q => q.elim) (fun b z => .inl z) fun b z => z.elim)⟩
    · cases e
  · rename_i xs0 i h0
    split at e
    · rename_i ns en
      split at e
      · rename_i j ej
        cases e
        cases h0
        obtain ⟨rfl, ed⟩ := (o.fz (intsOf_fz en)).ints en
        cases t with
        | cons t1 t2 t3 t4 t5 =>
          cases t2
          have := (Vw.int ⟨_, t1⟩)
          subst this
          obtain ⟨q1, q2⟩ := ixOf_spec i ej
          exact mW_of mt_remove ⟨a, ns, i, j, rfl, rfl, ha, q1, q2, g .non _ _ rfl .non (.of (ints_rp _))⟩
      · cases e
    · cases e
  · cases e
end
end Ev

set_option linter.all false
set_option maxRecDepth 100000
set_option maxHeartbeats 4000000
/-! EvTE: enumerate over a tuple -/
namespace EvTE
open PySem PySem.Spec PyProof.Rows L2
open Sem (wp)
open AutoSeq1 (wpAny_loadPart')
theorem meets_tup (tt : Addr) (ys : Array Value) (ob : Obj) :
    Meets (Builtin.«enumerate.__new__» ⟨[.type "enumerate", .ref tt], []⟩) (fun _ R s => s.heap.IsTuple tt ys ∧
      R (.ok (.ret (.ref (s.heap.push { cls := .type "tuple_iterator", data := .fields #[.ref tt, .int 0 0] }).objs.size)))
        { s with heap := (s.heap.push { cls := .type "tuple_iterator", data := .fields #[.ref tt, .int 0 0] }).push { cls := .type "enumerate", data := .fields #[.none, .bool false, .ref s.heap.objs.size, rawInt 0, .none, .none] } }) :=
  .of_wp fun prog w A R st h => by
    obtain ⟨hh, gg, dd, tok, os⟩ := st
    obtain ⟨hT, h⟩ := h
    have sube := sub_enumerate
    have hT' : Heap.IsTuple (Shared.heap ⟨hh, gg, dd, tok, os⟩) tt ys := hT
    obtain ⟨o, ho, _⟩ := id hT
    wp_walk using wpAny_loadPart' ho
    refine wpAny_stack_any fun k => wpAny_pure ?_
    split
    · rename_i c _ _ _ _ _
      cases (c == Value.type "enumerate")
      · wp_walk using wpAny_loadPart' ho, wpAny_pyIter_tuple hT'
        exact ⟨_, rfl, h⟩
      · wp_walk using wpAny_loadPart' ho, wpAny_pyIter_tuple hT'
        exact ⟨_, rfl, h⟩
    · wp_walk using wpAny_loadPart' ho, wpAny_pyIter_tuple hT'
      exact ⟨_, rfl, h⟩
section
variable {prog : Program} {w : World} {A : Around} {E : Value → Shared → Prop} {s : Shared}
theorem call_enum_tup {tt : Addr} {ys : Array Value} {Q : Value → Shared → Prop} (hT : s.heap.IsTuple tt ys)
    (h : ∀ h', IsEnum h' (s.heap.objs.size + 1) s.heap.objs.size 0 .none → h'.IsTupleIter s.heap.objs.size tt 0 → (∀ b o, s.heap.get? b = some o → h'.get? b = some o) → Q (.ref (s.heap.objs.size + 1)) { s with heap := h' }) :
    wpAny (model prog w) A (call (.type "enumerate") [.ref tt]) Q E s := by
  obtain ⟨ob, hob, _⟩ := id hT
  refine callType_new F.called_enumerate (by decide) (F.typeCall_enumerate_1 _) (F.newCall_enumerate_1 _) (fun obj => F.args_object_init_2 obj _) F.entry_enumerate_new (meets_tup tt ys ob) ⟨hT, ?_⟩
  have sz1 : (s.heap.push { cls := .type "tuple_iterator", data := .fields #[.ref tt, .int 0 0] }).objs.size = s.heap.objs.size + 1 := Heap.size_push ..
  show _ ∧ _
  rw [sz1]
  have top : IsEnum ((s.heap.push { cls := .type "tuple_iterator", data := .fields #[.ref tt, .int 0 0] }).push { cls := .type "enumerate", data := .fields #[.none, .bool false, .ref s.heap.objs.size, rawInt 0, .none, .none] }) (s.heap.objs.size + 1) s.heap.objs.size 0 .none := by
    have q := Heap.get?_push_size (s.heap.push { cls := .type "tuple_iterator", data := .fields #[.ref tt, .int 0 0] }) (o := { cls := .type "enumerate", data := .fields #[.none, .bool false, .ref s.heap.objs.size, rawInt 0, .none, .none] }) rfl
    rw [sz1] at q
    exact q
  exact ⟨⟨_, top, rfl⟩, h _ top ⟨_, Heap.get?_push_of_some _ (Heap.get?_push_size _ rfl), rfl, rfl⟩ fun b o z => Heap.get?_push_of_some _ (Heap.get?_push_of_some _ z)⟩
end
theorem enum_end_tup {prog : Program} {w : World} {A : Around} {E : Value → Shared → Prop} {s : Shared} {e it tt : Addr} {i : Nat} {ys : Array Value} {old : Value} {Q : Option Value → Shared → Prop} (hd : A.handled = none)
    (en : IsEnum s.heap e it i old) (ti : s.heap.IsTupleIter it tt i) (hT : s.heap.IsTuple tt ys) (hx : ys[i]? = none) (hQ : ∀ h', Heap.ExtBut it s.heap h' → Q none { s with heap := h' }) : wpAny (model prog w) A (pyNext (.ref e)) Q E s := by
  have ty : s.TypeIs (.ref e) "enumerate" := ⟨_, en, rfl⟩
  unfold pyNext
  refine wpAny_bind (wpAny_attempt (wpAny_callSpecial?_slot (name := Str.ofString "__next__") ty F.slot_enumerate_next (wpAny_call_entry F.slot_enumerate_next ty F.entry_enumerate_next ?_ (F.args_enumerate_next_1 _))))
  show wpAny _ _ (field (.ref e) 2 >>= _) _ _ _
  refine wpAny_bind (wpAny_field en rfl (x := .ref it) rfl ?_)
  refine wpAny_bind (wpAny_nextOf_tuple_end (by exact hd) ti hT hx fun h' x ext ex => ?_)
  obtain ⟨ob, hob, hcl⟩ := ex
  exact wpAny_bind (wpAny_isInstance (T := "StopIteration") (b := true) ⟨ob, hob, hcl⟩ isSubtype_stop (wpAny_pure (hQ _ ext)))
def IteT (K : PySem.W.Frag) (a : Addr) : It :=
  ⟨fun i H => ∃ (ws : List V) (y : V), SqT K H a ws ∧ ws[i]? = some y, fun i H v H' => ∃ T y, v = .ref T ∧ H T = none ∧ H' = upd H T (.tup [.int (i : Nat), y]) ∧ ∀ ws, SqT K H a ws → ws[i]? = some y, fun i H => ∃ ws : List V, SqT K H a ws ∧ ws.length ≤ i⟩
theorem turn_enumT {P : Program} {w : World} {K : PySem.W.Frag} {elts : List Expr} {kk : Nat} {tpos : Pos} (a e it : Addr) :
    Turn P w K (.Tuple elts kk tpos) (IteT K a) [e, it] e (fun i h => (∃ old, IsEnum h e it ((i : Nat) : Int) old) ∧ h.IsTupleIter it a i ∧ e ≠ it) where
  mem := by simp
  obj := fun i h st b hb => by
    obtain ⟨⟨old, en⟩, ⟨o, ho, hc, hd⟩, _⟩ := st
    have : b = e ∨ b = it := by simpa using hb
    rcases this with z | z
    · subst z; exact ⟨_, en, fun v q => nomatch q⟩
    · subst z; exact ⟨o, ho, fun v q => by rw [hd] at q; cases q⟩
  keep := fun i h h' st k => let ⟨⟨old, en⟩, ti, ne⟩ := st; ⟨⟨old, k e (by simp) _ en⟩, ti.at fun o q => k it (by simp) o q, ne⟩
  item := by
    intro X hP hw hK hc i pins s σ H E I hf st hg
    subst hP hw hK
    obtain ⟨⟨old, en⟩, ti, ne⟩ := st
    obtain ⟨ws, y, hq, hy⟩ := hg
    obtain ⟨its, rv, p, hz⟩ := I.tuple hq
    obtain ⟨u, hu, ru⟩ := rv.get hy
    have lt_e : e < s.heap.objs.size := Heap.lt_size en
    have lt_i : it < s.heap.objs.size := by
      obtain ⟨_, q, _⟩ := ti
      exact Heap.lt_size q
    have hTup : s.heap.IsTuple a its.toArray := p
    have ai : a ≠ it := by
      rintro rfl
      obtain ⟨o1, e1, c1, d1⟩ := ti
      obtain ⟨o2, e2, q2⟩ := hTup
      rw [e1] at e2
      cases e2
      obtain ⟨_, n2, d2⟩ := q2
      rw [d1] at d2
      cases d2
    have ae : e ≠ a := by
      rintro rfl
      obtain ⟨o2, e2, q2⟩ := hTup
      have en' : s.heap.get? e = some _ := en
      rw [en'] at e2
      cases e2
      obtain ⟨_, n2, d2⟩ := q2
      cases d2
    have hlt : i < its.toArray.size := by
      have := (List.getElem?_eq_some_iff.mp hu).1
      simpa using this
    refine wpAny_pyNext_enum_itemC (Draws.tuple (A := X.A.in1) (by exact I.ok.hd hc) it a ai its.toArray) en ⟨ti, hTup⟩ hlt ne (by simp [ne, ae]) fun x h' tk hx ho hst hT hsz hk => ?_
    obtain ⟨ti', _⟩ := hst
    have hx' : x = u := by
      rw [show its.toArray[i]? = some u by simpa using hu] at hx
      exact (Option.some.inj hx).symm
    subst hx'
    refine ⟨_, rfl, wpAny_letOwnedTupleGo_enum (s := { s with heap := h', toks := tk + 1 }) ho fun h'' en' sb => ?_⟩
    have hT2 : h''.get? s.heap.objs.size = some { cls := .type "tuple", data := .seq #[.int i tk, x] } := (sb.2 _ (Nat.ne_of_gt lt_e)).trans hT
    have new : ObjOk X.prog X.w (upd H s.heap.objs.size (.tup [.int (i : Nat), y])) h'' s.heap.objs.size (.tup [.int (i : Nat), y]) :=
      ⟨by show 2 ≤ sizeLine; decide, [.int i tk, x], .cons ⟨_, rfl⟩ (.cons ru .nil), ⟨_, hT2, rfl, _, rfl⟩⟩
    have I1 : Inv X pins σ (upd H s.heap.objs.size (.tup [.int (i : Nat), y])) { s with heap := h'', toks := tk + 1 } :=
      I.turnedNew (ch := [e, it]) (fun b ob hb q => (sb.2 b (fun z => hb (by simp [z]))).trans (hk b ob (fun z => hb (by simp [z])) (fun z => hb (by simp [z])) q)) hf (Nat.le_refl _) new
    refine ⟨.ref s.heap.objs.size, _, I1, rfl, ⟨_, y, rfl, I.hok.fresh (Nat.le_refl _), rfl, fun zs hz => by rw [I.tuple_inj hz hq]; exact hy⟩, ⟨⟨x, ?_⟩, ti'.at fun o q => (sb.2 it (Ne.symm ne)).trans q, ne⟩, fun b hb => ?_⟩
    · rw [show ((i + 1 : Nat) : Int) = (i : Int) + 1 by omega]
      exact en'
    · have lt_b : b < s.heap.objs.size := by
        have : b = e ∨ b = it := by simpa using hb
        rcases this with z | z
        · rw [z]; exact lt_e
        · rw [z]; exact lt_i
      rw [upd_ne (Nat.ne_of_lt lt_b)]
      exact (hf b hb).1
  done := by
    intro X hP hw hK hc i pins s σ H E I hf st hg
    subst hP hw hK
    obtain ⟨⟨old, en⟩, ti, ne⟩ := st
    obtain ⟨ws, hq, hx⟩ := hg
    obtain ⟨its, rv, p, hz⟩ := I.tuple hq
    obtain ⟨f0, f1, f2, f3, f4, f5⟩ := hf it (by simp)
    have hl := rv.length
    have hTup : s.heap.IsTuple a its.toArray := p
    exact enum_end_tup (I.ok.hd hc) en ti hTup (by simp; omega) fun h' eb => ⟨rfl, I.turned (t' := s.toks) (fun b o hb q => eb b o hb q) f0 f1 f3 f4 f5⟩
  self := fun A i s Q E st h => let ⟨⟨_, en⟩, _⟩ := st; wpAny_pyIter_enum en h
def iEnumA (K : PySem.W.Frag) (ta : TA) : TI := fun σ H R => ta σ H fun vs H1 => ∃ a, vs = [.ref a] ∧ ((∃ xs, SqL K H1 a xs ∧ R (Ite K a) H1) ∨ ∃ xs, SqT K H1 a xs ∧ R (IteT K a) H1)
theorem pi_enumA {X : Cx} {e : Expr} {ta : TA} {p pos tpos : Pos} {elts : List Expr} {kk : Nat} (hg : Gl X "enumerate") (hm : X.mg "enumerate" = none) (ha : PA X [e] ta) (hs : starEach [e] X.env = [(false, eval e X.env)] := by rfl) :
    PI X (.Tuple elts kk tpos) (.Call (.Name "enumerate" p) [e] [] pos) (iEnumA X.K ta) := by
  refine ⟨fun pins s σ H R I h => ?_⟩
  refine Call_ (ld_blt I hg hm boot_enumerate (PyProof.Rows.callWith_type1 (thn (ha.run pos pins s σ H _ I h) fun us s1 ⟨vs, H1, I1, rv1, q1⟩ => ?_) hs rfl))
  obtain ⟨a, ev, q1⟩ := q1
  subst ev
  cases rv1 with
  | cons rv0 rest =>
    cases rest
    cases rv0
    have new2 : ∀ b ∈ [s1.heap.objs.size + 1, s1.heap.objs.size], FpOk X pins H1 b := fun b hb => by
      have hle : s1.heap.objs.size ≤ b := by
        rcases (show b = s1.heap.objs.size + 1 ∨ b = s1.heap.objs.size by simpa using hb) with z | z
        · rw [z]; exact Nat.le_add_right _ _
        · rw [z]; exact Nat.le_refl _
      exact I1.fpOk hle (I1.hok.fresh hle)
    rcases q1 with ⟨xs, hq, q⟩ | ⟨xs, hq, q⟩
    · obtain ⟨its, rv, pl, hz⟩ := I1.list hq
      refine call_enumerate_list pl.isList fun h' en ti hsz hk => wpAny_pyIter_enum en ?_
      have I2 : Inv X pins σ H1 { s1 with heap := h' } := I1.kept (t' := s1.toks) hk
      exact ⟨s1.heap.objs.size + 1, [s1.heap.objs.size + 1, s1.heap.objs.size], _, _, H1, rfl, I2, turn_enum a (s1.heap.objs.size + 1) s1.heap.objs.size, ⟨⟨.none, en⟩, ti, Nat.succ_ne_self _⟩, new2, q⟩
    · obtain ⟨its, rv, pl, hz⟩ := I1.tuple hq
      refine call_enum_tup (show s1.heap.IsTuple a its.toArray from pl) fun h' en ti hk => wpAny_pyIter_enum en ?_
      have I2 : Inv X pins σ H1 { s1 with heap := h' } := I1.kept (t' := s1.toks) hk
      exact ⟨s1.heap.objs.size + 1, [s1.heap.objs.size + 1, s1.heap.objs.size], _, _, H1, rfl, I2, turn_enumT a (s1.heap.objs.size + 1) s1.heap.objs.size, ⟨⟨.none, en⟩, ti, Nat.succ_ne_self _⟩, new2, q⟩
end EvTE

set_option linter.all false
set_option maxRecDepth 100000
set_option maxHeartbeats 2000000
/-! Ev: what is walked -/
namespace Ev
open PySem PySem.Spec PyProof.Rows L2
section
variable {K : PySem.W.Frag}
/-- a walk gives the data ds, whatever is shared beyond F0 -/
structure WkD (K : PySem.W.Frag) (F0 : Hp) (J : It) (ds : List D) : Prop where
  goes : ∀ i F H, Same F0 F → Same F H → i < ds.length → J.go i H
  stops : ∀ F H, Same F0 F → Same F H → J.stop ds.length H
  yields : ∀ i F H x H' d, Same F0 F → Same F H → ds[i]? = some d → J.yld i H x H' → ∃ F', Rp K F' x d ∧ New F H F' H' No
theorem wk_list {F0 : Hp} {a : Addr} {vs : List V} {ds : List D} (h : F0 a = some (.lst vs)) (r : RpL K F0 vs ds) : WkD K F0 (Itl K a) ds := by
  have w := walk_list (K := K) (a := a) (xs := vs)
  have l := r.length
  refine ⟨fun i F H s t hi => w.goes i H (by omega) (SqL.of (t _ _ (s _ _ h))), fun F H s t => l ▸ w.stops H (SqL.of (t _ _ (s _ _ h))), fun i F H x H' d s t hd y => ?_⟩
  obtain ⟨hi, _⟩ := List.getElem?_eq_some_iff.mp hd
  obtain ⟨e, hx⟩ := w.yields i H x H' (by omega) (SqL.of (t _ _ (s _ _ h))) y
  subst e
  obtain ⟨v, g, q⟩ := r.get hd
  rw [hx] at g
  cases g
  exact ⟨F, q.mono s, New.refl t⟩
theorem wk_tup {F0 : Hp} {a : Addr} {vs : List V} {ds : List D} (h : SqT K F0 a vs) (r : RpL K F0 vs ds) : WkD K F0 (Itt K a) ds := by
  have w := walk_tup (K := K) (a := a) (xs := vs)
  have l := r.length
  have m : ∀ {F H : Hp}, Same F0 F → Same F H → SqT K H a vs := fun s t => sqt_mono t (sqt_mono s h)
  refine ⟨fun i F H s t hi => w.goes i H (by omega) (m s t), fun F H s t => l ▸ w.stops H (m s t), fun i F H x H' d s t hd y => ?_⟩
  obtain ⟨hi, _⟩ := List.getElem?_eq_some_iff.mp hd
  obtain ⟨e, hx⟩ := w.yields i H x H' (by omega) (m s t) y
  subst e
  obtain ⟨v, g, q⟩ := r.get hd
  rw [hx] at g
  cases g
  exact ⟨F, q.mono s, New.refl t⟩
theorem rangeD_length (lo st : Int) : ∀ n, (rangeD lo st n).length = n := by
  intro n
  induction n generalizing lo with
  | zero => rfl
  | succ n ih => simp only [rangeD, List.length_cons, ih]
theorem rangeD_get : ∀ (n : Nat) (lo st : Int) (i : Nat) (d : D), (rangeD lo st n)[i]? = some d → d = .int (lo + (i : Nat) * st)
  | 0, lo, st, i, d, e => by simp [rangeD] at e
  | n + 1, lo, st, 0, d, e => by simp [rangeD] at e; simp [← e]
  | n + 1, lo, st, i + 1, d, e => by
    have := rangeD_get n (lo + st) st i d (by simpa [rangeD] using e)
    rw [this]
    congr 1
    rw [Int.natCast_succ, Int.add_mul]
    omega
theorem wk_range {F0 : Hp} {lo : Int} {n : Nat} : WkD K F0 (Itr lo n) (rangeD lo 1 n) := by
  refine ⟨fun i F H s t hi => by rw [rangeD_length] at hi; exact hi, fun F H s t => by rw [rangeD_length]; exact Nat.le_refl _, fun i F H x H' d s t hd y => ?_⟩
  obtain ⟨e, hx⟩ := y
  have := rangeD_get _ _ _ _ _ hd
  subst e hx this
  exact ⟨F, by rw [Int.mul_one]; exact .int _, New.refl t⟩
theorem wk_rangeC {F0 : Hp} {lo c : Int} {n : Nat} : WkD K F0 (Itc lo c n) (rangeD lo c n) := by
  refine ⟨fun i F H s t hi => by rw [rangeD_length] at hi; exact hi, fun F H s t => by rw [rangeD_length]; exact Nat.le_refl _, fun i F H x H' d s t hd y => ?_⟩
  obtain ⟨e, hx⟩ := y
  have := rangeD_get _ _ _ _ _ hd
  subst e hx this
  exact ⟨F, .int _, New.refl t⟩
theorem pair_new {F H H' : Hp} {v x y : V} {T : Addr} {d e : D} (t : Same F H) (h : H T = none) (ev : v = .ref T) (eH : H' = upd H T (.tup [x, y])) (rx : Rp K F x d) (ry : Rp K F y e) : ∃ F', Rp K F' v (.tup [d, e]) ∧ New F H F' H' No := by
  subst ev eH
  exact ⟨_, (Ow.tuple (H' := H) t h (.cons rx (.cons ry .nil))).fz (by simp only [D.fz, fzs, rx.fz, ry.fz]; rfl), New.tuple t h⟩
theorem enumD_length : ∀ (ds : List D) (k : Nat), (enumD k ds).length = ds.length
  | [], _ => rfl
  | d :: ds, k => by simp only [enumD, List.length_cons, enumD_length ds]
theorem enumD_get : ∀ (ds : List D) (k i : Nat) (d : D), (enumD k ds)[i]? = some d → ∃ e, ds[i]? = some e ∧ d = .tup [.int ((k + i : Nat) : Int), e]
  | [], k, i, d, h => by simp [enumD] at h
  | x :: ds, k, 0, d, h => by simp [enumD] at h; exact ⟨x, rfl, by simp [← h]⟩
  | x :: ds, k, i + 1, d, h => by
    obtain ⟨e, h1, h2⟩ := enumD_get ds (k + 1) i d (by simpa [enumD] using h)
    exact ⟨e, by simpa using h1, by rw [h2]; congr 4; omega⟩
theorem wk_enum {F0 : Hp} {a : Addr} {vs : List V} {ds : List D} (h : F0 a = some (.lst vs)) (r : RpL K F0 vs ds) : WkD K F0 (Ite K a) (enumD 0 ds) := by
  have w := walk_enum (K := K) (a := a) (xs := vs)
  have l := r.length
  have l2 := enumD_length ds 0
  have m : ∀ {F H : Hp}, Same F0 F → Same F H → SqL K H a vs := fun s t => SqL.of (t _ _ (s _ _ h))
  refine ⟨fun i F H s t hi => w.goes i H (by omega) (m s t), fun F H s t => by rw [l2, ← l]; exact w.stops H (m s t), fun i F H x H' d s t hd y => ?_⟩
  obtain ⟨hi, _⟩ := List.getElem?_eq_some_iff.mp hd
  obtain ⟨T, p, q, e1, e2, e3, e4, e5⟩ := w.yields i H x H' (by omega) (m s t) y
  obtain ⟨e, he, ed⟩ := enumD_get _ _ _ _ hd
  obtain ⟨v, g, rv⟩ := r.get he
  have e5' : vs[i]? = some q := e5
  rw [e5'] at g
  cases g
  cases e4
  subst ed
  rw [Nat.zero_add]
  exact pair_new t e2 e1 e3 (.int _) (rv.mono s)
theorem wk_enumT {F0 : Hp} {a : Addr} {vs : List V} {ds : List D} (h : SqT K F0 a vs) (r : RpL K F0 vs ds) : WkD K F0 (EvTE.IteT K a) (enumD 0 ds) := by
  have l := r.length
  have l2 := enumD_length ds 0
  have m : ∀ {F H : Hp}, Same F0 F → Same F H → SqT K H a vs := fun s t => sqt_mono t (sqt_mono s h)
  refine ⟨fun i F H s t hi => ⟨vs, vs[i]'(by omega), m s t, by simp [show i < vs.length by omega]⟩, fun F H s t => ⟨vs, m s t, by omega⟩, fun i F H x H' d s t hd y => ?_⟩
  obtain ⟨hi, _⟩ := List.getElem?_eq_some_iff.mp hd
  obtain ⟨T, q, e1, e2, e3, e4⟩ := y
  obtain ⟨e, he, ed⟩ := enumD_get _ _ _ _ hd
  obtain ⟨v, g, rv⟩ := r.get he
  rw [e4 vs (m s t)] at g
  cases g
  subst ed
  rw [Nat.zero_add]
  exact pair_new t e2 e1 e3 (.int _) (rv.mono s)
theorem zipD_length : ∀ (xs ys : List D), (zipD xs ys).length = min xs.length ys.length
  | [], ys => by simp [zipD]
  | x :: xs, [] => by simp [zipD]
  | x :: xs, y :: ys => by simp only [zipD, List.length_cons, zipD_length xs ys]; omega
theorem zipD_get : ∀ (xs ys : List D) (i : Nat) (d : D), (zipD xs ys)[i]? = some d → ∃ e f, xs[i]? = some e ∧ ys[i]? = some f ∧ d = .tup [e, f]
  | [], ys, i, d, h => by simp [zipD] at h
  | x :: xs, [], i, d, h => by simp [zipD] at h
  | x :: xs, y :: ys, 0, d, h => by simp [zipD] at h; exact ⟨x, y, rfl, rfl, h.symm⟩
  | x :: xs, y :: ys, i + 1, d, h => by
    obtain ⟨e, f, h1, h2, h3⟩ := zipD_get xs ys i d (by simpa [zipD] using h)
    exact ⟨e, f, by simpa using h1, by simpa using h2, h3⟩
theorem wk_zip {F0 : Hp} {a b : Addr} {vs ws : List V} {ds es : List D} (h : F0 a = some (.lst vs)) (h' : F0 b = some (.lst ws)) (r : RpL K F0 vs ds) (r' : RpL K F0 ws es) : WkD K F0 (Itz K a b) (zipD ds es) := by
  have l := r.length
  have l' := r'.length
  have l2 := zipD_length ds es
  have w := walk_zip (K := K) (a := a) (b := b) (xs := vs) (ys := ws) (n := (zipD ds es).length) (by rw [l2, l, l'])
  have m : ∀ {F H : Hp}, Same F0 F → Same F H → SqL K H a vs ∧ SqL K H b ws := fun s t => ⟨SqL.of (t _ _ (s _ _ h)), SqL.of (t _ _ (s _ _ h'))⟩
  refine ⟨fun i F H s t hi => w.goes i H hi (m s t), fun F H s t => w.stops H (m s t), fun i F H x H' d s t hd y => ?_⟩
  obtain ⟨hi, _⟩ := List.getElem?_eq_some_iff.mp hd
  obtain ⟨T, p, q, e1, e2, e3, e4, e5⟩ := w.yields i H x H' hi (m s t) y
  obtain ⟨e, f, he, hf, ed⟩ := zipD_get _ _ _ _ hd
  obtain ⟨v, g, rv⟩ := r.get he
  obtain ⟨v', g', rv'⟩ := r'.get hf
  have e4' : vs[i]? = some p := e4
  have e5' : ws[i]? = some q := e5
  rw [e4'] at g
  rw [e5'] at g'
  cases g
  cases g'
  subst ed
  exact pair_new t e2 e1 e3 (rv.mono s) (rv'.mono s)
theorem wk_zipT {F0 : Hp} {a b : Addr} {vs ws : List V} {ds es : List D} (h : SqT K F0 a vs) (h' : SqT K F0 b ws) (r : RpL K F0 vs ds) (r' : RpL K F0 ws es) : WkD K F0 (RZ.ItzT K a b) (zipD ds es) := by
  have l := r.length
  have l' := r'.length
  have l2 := zipD_length ds es
  have m : ∀ {F H : Hp}, Same F0 F → Same F H → SqT K H a vs ∧ SqT K H b ws := fun s t => ⟨sqt_mono t (sqt_mono s h), sqt_mono t (sqt_mono s h')⟩
  refine ⟨fun i F H s t hi => ?_, fun F H s t => ⟨vs, ws, (m s t).1, (m s t).2, by omega⟩, fun i F H x H' d s t hd y => ?_⟩
  · have h1 : i < vs.length := by omega
    have h2 : i < ws.length := by omega
    exact ⟨vs, ws, vs[i], ws[i], (m s t).1, (m s t).2, by simp [h1], by simp [h2]⟩
  · obtain ⟨T, p, q, e1, e2, e3, e4, e5⟩ := y
    obtain ⟨e, f, he, hf, ed⟩ := zipD_get _ _ _ _ hd
    obtain ⟨v, g, rv⟩ := r.get he
    obtain ⟨v', g', rv'⟩ := r'.get hf
    rw [e4 vs (m s t).1] at g
    rw [e5 ws (m s t).2] at g'
    cases g
    cases g'
    subst ed
    exact pair_new t e2 e1 e3 (rv.mono s) (rv'.mono s)
end

section
variable {X : Cx} {tg iter : Expr}
def tWI (X : Cx) (tg iter : Expr) : TI := fun σ H R => ∀ pins s, Inv X pins σ H s →
  wpAny (model X.prog X.w) X.A (eval iter X.env) (fun v s1 => wpAny (model X.prog X.w) X.A (pyIter v) (PIE X pins σ tg R) X.xe s1) X.xe s
theorem pi_tW : PI X tg iter (tWI X tg iter) := ⟨fun pins s σ H R I h => h pins s I⟩
theorem tWI_of {wi : TI} {σ : L2.St} {H : Hp} {R : It → Hp → Prop} (h : PI X tg iter wi) (q : wi σ H R) : tWI X tg iter σ H R := fun pins s I => h.run pins s σ H R I q
theorem tW_mono {e : Expr} {σ : L2.St} {H : Hp} {Q Q' : VK} (h : tW X e σ H Q) (k : ∀ v H', Q v H' → Q' v H') : tW X e σ H Q' := fun pins s I => thn (h pins s I) fun u s1 ⟨v, H', I', r, q⟩ => ⟨v, H', I', r, k v H' q⟩
theorem nestA_mono : ∀ {es : List Expr} {σ : L2.St} {H : Hp} {Q Q' : List V → Hp → Prop}, nestA X es σ H Q → (∀ v H', Q v H' → Q' v H') → nestA X es σ H Q'
  | [], _, _, _, _, h, k => k _ _ h
  | _ :: es, _, _, _, _, h, k => tW_mono h fun v H' q => nestA_mono q fun vs H'' z => k _ _ z
def isTup : Expr → Bool
  | .Tuple _ _ _ => true
  | _ => false
def isSetE : Expr → Bool
  | .Set _ _ _ => true
  | _ => false
/-- how a walk is written -/
inductive MI (X : Cx) : Expr → ItK → List Expr → Expr → Prop
  | val {tg e : Expr} : isSetE e = false → MI X tg .val [e] e
  | range {tg : Expr} {es : List Expr} {p pos : Pos} : Gl X "range" → X.mg "range" = none → noStar es = true → MI X tg .range es (.Call (.Name "range" p) es [] pos)
  | enum {tg e : Expr} {p pos : Pos} : isTup tg = true → Gl X "enumerate" → X.mg "enumerate" = none → noStar [e] = true → MI X tg .enum [e] (.Call (.Name "enumerate" p) [e] [] pos)
  | zip {tg e f : Expr} {p pos : Pos} : isTup tg = true → Gl X "zip" → X.mg "zip" = none → noStar [e, f] = true → MI X tg .zip [e, f] (.Call (.Name "zip" p) [e, f] [] pos)
theorem set_free {k : ItK} {es : List Expr} (m : MI X tg k es iter) (env : Env) : ∀ x, foldedSetIterable iter env x = pure x := by
  intro x
  cases m with
  | val h => cases iter <;> first | rfl | simp [isSetE] at h
  | _ => rfl
/-- what is behind the evaluation of what a walk is made of -/
def ItPost (X : Cx) (items ds : List D) (R : It → Hp → Prop) : List V → Hp → Prop := fun vs H1 => ∃ F1, Same F1 H1 ∧ RpL X.K F1 vs ds ∧ ∀ J, WkD X.K F1 J items → R J H1
theorem it_ok {k : ItK} {es : List Expr} {σ : L2.St} {H : Hp} {R : It → Hp → Prop} {ds items : List D} (m : MI X tg k es iter) (e : itD k ds = some items) (hl : ds.length = es.length) (q : nestA X es σ H (ItPost X items ds R)) : tWI X tg iter σ H R := by
  cases m with
  | val h =>
    replace e : itVal ds = some items := e
    unfold itVal at e
    split at e
    · cases e
      refine tWI_of (pi_tup pe_tW) (tW_mono q fun v H1 z => ?_)
      obtain ⟨F1, s, r, g⟩ := z
      cases r with
      | cons r t =>
        cases r with
        | tup h l => exact ⟨_, rfl, ⟨_, sqt_mono s h⟩, g _ (wk_tup h l)⟩
    · cases e
      refine tWI_of (pi_list pe_tW) (tW_mono q fun v H1 z => ?_)
      obtain ⟨F1, s, r, g⟩ := z
      cases r with
      | cons r t =>
        cases r with
        | lst h l => exact ⟨_, rfl, ⟨_, SqL.of (s _ _ h)⟩, g _ (wk_list h l)⟩
    · cases e
  | range g0 m0 ns =>
    replace e : rangeOf ds = some items := e
    unfold rangeOf at e
    split at e
    · split at e
      · rename_i j c
        cases e
        obtain ⟨b1, b2⟩ := small62_of c
        match es, ns, q, hl with
        | [a], ns, q, _ =>
          refine tWI_of (pi_range1 g0 m0 (pa_nest ns) (by rw [star_cons _ ns]; rfl)) (nestA_mono q fun vs H1 z => ?_)
          obtain ⟨F1, s, r, g⟩ := z
          cases r with
          | cons r t => cases r; cases t; exact ⟨_, rfl, by omega, by omega, g _ wk_range⟩
      · cases e
    · split at e
      · rename_i i j c
        cases e
        simp only [Bool.and_eq_true] at c
        obtain ⟨b1, b2⟩ := small62_of c.1
        obtain ⟨b3, b4⟩ := small62_of c.2
        match es, ns, q, hl with
        | [a, b], ns, q, _ =>
          have n2 := noStar_tail ns
          refine tWI_of (pi_range2 g0 m0 (pa_nest ns) (by rw [star_cons _ ns, star_cons _ n2]; rfl) (by rw [star_cons _ n2]; rfl)) (nestA_mono q fun vs H1 z => ?_)
          obtain ⟨F1, s, r, g⟩ := z
          cases r with
          | cons r t =>
            cases r
            cases t with
            | cons r t => cases r; cases t; exact ⟨_, _, rfl, ⟨by omega, by omega, by omega, by omega⟩, g _ wk_range⟩
      · cases e
    · split at e
      · rename_i i j c h
        cases e
        simp only [Bool.and_eq_true, decide_eq_true_eq] at h
        have rg : RgC i j c (rangeN i j c) := by
          refine ⟨h.1.2, by omega, rsmall_ok (by simp only [Bool.and_eq_true]; exact h.1.1) h.1.2, ?_⟩
          have nn : 0 ≤ Builtin.Range.rangeSize i j c := by
            unfold Builtin.Range.rangeSize
            split
            · split
              · have : 0 ≤ (j - i - 1) / c := Int.ediv_nonneg (by omega) (by omega)
                omega
              · exact Int.le_refl 0
            · split
              · have : 0 ≤ (i - j - 1) / (-c) := Int.ediv_nonneg (by omega) (by omega)
                omega
              · exact Int.le_refl 0
          unfold rangeN
          omega
        match es, ns, q, hl with
        | [a, b, d], ns, q, _ =>
          have n2 := noStar_tail ns
          refine tWI_of (pi_range3 g0 m0 (pa_nest ns) (star_cons _ ns) (star_plain _ _ n2)) (nestA_mono q fun vs H1 z => ?_)
          obtain ⟨F1, s, r, g⟩ := z
          cases r with
          | cons r t =>
            cases r
            cases t with
            | cons r t =>
              cases r
              cases t with
              | cons r t => cases r; cases t; exact ⟨_, _, _, _, rfl, rg, g _ wk_rangeC⟩
      · cases e
    · cases e
  | enum ht g0 m0 ns =>
    replace e : itEnum ds = some items := e
    unfold itEnum at e
    split at e
    · cases e
      cases tg with
      | Tuple elts kk tpos =>
        refine tWI_of (EvTE.pi_enumA g0 m0 (pa_nest ns) (by rw [star_cons _ ns]; rfl)) (nestA_mono q fun vs H1 z => ?_)
        obtain ⟨F1, s, r, g⟩ := z
        cases r with
        | cons r t =>
          cases t
          cases r with
          | lst h l => exact ⟨_, rfl, .inl ⟨_, SqL.of (s _ _ h), g _ (wk_enum h l)⟩⟩
      | _ => simp [isTup] at ht
    · cases e
      cases tg with
      | Tuple elts kk tpos =>
        refine tWI_of (EvTE.pi_enumA g0 m0 (pa_nest ns) (by rw [star_cons _ ns]; rfl)) (nestA_mono q fun vs H1 z => ?_)
        obtain ⟨F1, s, r, g⟩ := z
        cases r with
        | cons r t =>
          cases t
          cases r with
          | tup h l => exact ⟨_, rfl, .inr ⟨_, sqt_mono s h, g _ (wk_enumT h l)⟩⟩
      | _ => simp [isTup] at ht
    · cases e
  | zip ht g0 m0 ns =>
    replace e : itZip ds = some items := e
    cases tg with
    | Tuple elts kk tpos =>
      have nt := noStar_tail ns
      unfold itZip at e
      split at e
      · cases e
        refine tWI_of (RZ.pi_zipA g0 m0 (pa_nest ns) (star_cons _ ns) (star_plain _ _ nt)) (nestA_mono q fun vs H1 z => ?_)
        obtain ⟨F1, s, r, g⟩ := z
        cases r with
        | cons r t =>
          cases t with
          | cons r2 t =>
            cases t
            cases r with
            | tup h l =>
              cases r2 with
              | tup h' l' => exact ⟨_, _, _, _, rfl, .inr ⟨sqt_mono s h, sqt_mono s h', g _ (wk_zipT h h' l l')⟩⟩
      · cases e
        refine tWI_of (RZ.pi_zipA g0 m0 (pa_nest ns) (star_cons _ ns) (star_plain _ _ nt)) (nestA_mono q fun vs H1 z => ?_)
        obtain ⟨F1, s, r, g⟩ := z
        cases r with
        | cons r t =>
          cases t with
          | cons r2 t =>
            cases t
            cases r with
            | lst h l =>
              cases r2 with
              | lst h' l' => exact ⟨_, _, _, _, rfl, .inl ⟨SqL.of (s _ _ h), SqL.of (s _ _ h'), g _ (wk_zip h h' l l')⟩⟩
      · cases e
    | _ => simp [isTup] at ht
end
end Ev

set_option linter.all false
set_option maxRecDepth 100000
set_option maxHeartbeats 1000000
/-! Ev: which text a core program stands for -/
namespace Ev
open PySem PySem.Spec PyProof.Rows L2

/-- how a def may be called with keywords: positional ones, names, which argument goes where -/
structure KwP where
  n : Nat
  ks : List Str
  perm : List Nat
  deriving DecidableEq
structure Cxt where
  N : List Str
  sc : Scope
  fn : Str → Bool
  tab : List Str
  kt : Nat → List KwP
  gc : List (Str × Kc) := []
  /-- the place and the class of list(C.made(..)) -/
  vm : Option (Nat × Str) := none
abbrev Cxt.blk (c : Cxt) (scope : Scope) : Cxt := { c with sc := relS scope c.sc, fn := fun x => scope.names.lookup x == some .cell }
def same (x y : Str) : Bool := decide (x = y)
def nmB (c : Cxt) (i : Nat) (x : Str) : Bool := decide (c.N[i]? = some x)
def visB (c : Cxt) (x : Str) : Bool := match c.sc.names.lookup x with
  | some .local => true
  | some .cell => true
  | some .free => true
  | _ => false
def stB (c : Cxt) (x : Str) : Bool := match c.sc.names.lookup x with
  | some .local => true
  | some .cell => c.fn x
  | _ => false
def loB (c : Cxt) (x : Str) : Bool := match c.sc.names.lookup x with
  | some .local => true
  | _ => false
def glB (c : Cxt) (x : Str) : Bool := match c.sc.names.lookup x with
  | some .globalImplicit => true
  | _ => false
def notDbg (x : Str) : Bool := !(x == ("__debug__" : Str)) && !(x == ("__classdict__" : Str))
def opB (op : Op) (o : Operator) : Bool := decide (opO op = o)
def copB (op : Cop) (o : CmpOp) : Bool := decide (copO op = o)
/-- the name of a built-in -/
def biS : Bi → Str
  | .len => "len" | .abs => "abs" | .min2 => "min" | .max2 => "max" | .min1 => "min" | .max1 => "max"
  | .sum1 => "sum" | .int1 => "int" | .list1 => "list" | .tuple1 => "tuple" | .sorted1 => "sorted" | .all1 => "all" | .any1 => "any"
  | .divmod => "divmod" | .lrange => "list" | .trange => "tuple" | .maxd => "max" | .sset => "sorted" | .step => "sorted" | .lenr => "len"
def tyS : Ty → Str
  | .bool => "bool" | .int => "int" | .str => "str" | .list => "list" | .tuple => "tuple" | .dict => "dict"
def meS : Me → Str
  | .append => "append" | .pop => "pop" | .popAt => "pop" | .extend => "extend" | .remove => "remove" | .index => "index"
def isComp : Expr → Bool
  | .ListComp _ _ _ _ => true
  | .SetComp _ _ _ _ => true
  | .DictComp _ _ _ _ _ => true
  | _ => false
/-- tests that are a value's truth -/
def plainT : Expr → Bool
  | .UnaryOp .Not _ _ => false
  | .BoolOp _ _ _ => false
  | .IfExp _ _ _ _ => false
  | .Compare _ _ _ _ => false
  | _ => true
def noBase : Expr → Bool
  | .Call (.Name _ _) [] [] _ => false
  | _ => true
def mTy (c : Cxt) (t : Ty) (x : Expr) : Bool := match x with
  | .Name n _ => same n (tyS t) && glB c n
  | _ => false
def mTys (c : Cxt) : List Ty → List Expr → Bool
  | [], [] => true
  | t :: ts, x :: xs => mTy c t x && mTys c ts xs
  | _, _ => false
def mNm (c : Cxt) (i : Nat) (x : Expr) : Bool := match x with
  | .Name n _ => nmB c i n && stB c n
  | _ => false
def mNms (c : Cxt) : List Nat → List Expr → Bool
  | [], [] => true
  | i :: is, x :: xs => mNm c i x && mNms c is xs
  | _, _ => false
def mTg (c : Cxt) (t : Tg) (x : Expr) : Bool := match t with
  | .nm i => mNm c i x
  | .tp is => match x with
    | .Tuple xs _ _ => mNms c is xs
    | _ => false
def tgIs : Tg → List Nat
  | .nm i => [i]
  | .tp is => is
def tgIn (own : List Nat) (t : Tg) : Bool := (tgIs t).all fun i => own.contains i
def ownP (c : Cxt) (own : List Nat) : List (Str × Nat) := own.map fun i => (c.N.getD i "", i)
def kwNames : List Keyword → Option (List Str)
  | [] => some []
  | ⟨some x, _, _⟩ :: kws => (kwNames kws).map (x :: ·)
  | _ => none
def kwVals (kws : List Keyword) : List Expr := kws.map (·.value)
def kwIn (c : Cxt) (f n : Nat) (kws : List Keyword) (perm : List Nat) : Bool := match kwNames kws with
  | some ks => decide (⟨n, ks, perm⟩ ∈ c.kt f)
  | none => false
mutual
def mE : Nat → Cxt → E → Expr → Bool
  | 0, _, _, _ => false
  | n + 1, c, e, x => match e with
    | .non => match x with
      | .Constant .none _ _ => true
      | _ => false
    | .bl b => match x with
      | .Constant (.bool b') _ _ => b == b'
      | _ => false
    | .int i => match x with
      | .Constant (.int j) _ _ => decide (i = j)
      | _ => false
    | .str s => match x with
      | .Constant (.str s') _ _ => same s s'
      | _ => false
    | .con k => match x with
      | .Name y _ => glB c y && notDbg y && decide (c.gc.lookup y = some k)
      | _ => false
    | .var i => match x with
      | .Name y _ => nmB c i y && visB c y && notDbg y
      | _ => false
    | .bin op a b => match x with
      | .BinOp l o r _ => opB op o && mEs n c [a, b] [l, r]
      | _ => false
    | .neg a => match x with
      | .UnaryOp .USub y _ => mE n c a y
      | _ => false
    | .cmp op a b => match x with
      | .Compare l [o] [r] _ => copB op o && mEs n c [a, b] [l, r] && !isSetE r
      | _ => false
    | .chain o1 o2 a b d => match x with
      | .Compare l [p1, p2] [m, r] _ => copB o1 p1 && copB o2 p2 && mEs n c [a, b] [l, m] && mE n c d r && !isSetE r
      | _ => false
    | .band es => match x with
      | .BoolOp .And xs _ => mEs n c es xs
      | _ => false
    | .bor es => match x with
      | .BoolOp .Or xs _ => mEs n c es xs
      | _ => false
    | .bnot a => match x with
      | .UnaryOp .Not y _ => mE n c a y
      | _ => false
    | .ite d a b => match x with
      | .IfExp t l r _ => mT n c d t && mE n c a l && mE n c b r
      | _ => false
    | .tup es => match x with
      | .Tuple xs _ _ => mEs n c es xs && noStar xs
      | _ => false
    | .lst es => match x with
      | .List xs _ => mEs n c es xs && noStar xs
      | _ => false
    | .disS l pre st post => match l with
      | true => match x with
        | .List xs _ => mDis n c pre st post xs
        | _ => false
      | false => match x with
        | .Tuple xs _ _ => mDis n c pre st post xs
        | _ => false
    | .pur e => match x with
      | .Call f xs ks p => mE n c e (.Call f xs ks p)
      | _ => false
    | .sub a i => match x with
      | .Subscript l r _ => mEs n c [a, i] [l, r] && !isSlice r
      | _ => false
    | .slice a lo hi => match x with
      | .Subscript l (.Slice u v none _) _ => mEs n c (a :: (lo.toList ++ hi.toList)) (l :: (u.toList ++ v.toList)) && (lo.isSome == u.isSome) && (hi.isSome == v.isSome)
      | _ => false
    | .rev a => match x with
      | .Subscript l (.Slice none none (some (.UnaryOp .USub (.Constant (.int 1) _ _) _)) _) _ => mE n c a l
      | _ => false
    | .call f es => match x with
      | .Call (.Name g _) xs [] _ => (decide (c.tab[f]? = some g) && glB c g && notDbg g && mEs n c es xs && noStar xs) || (same g "list" && glB c g && (match xs with
        | [.Call (.Attribute (.Name o _) m ap) (y :: ys) [] cp] => decide (c.vm = some (f, o)) && glB c o && notDbg o && same m "made" && (ap.endLine == cp.line) && mEs n c es (y :: ys) && noStar (y :: ys) && decide ((y :: ys).length < 20)
        | _ => false))
      | _ => false
    | .callK f es perm => match x with
      | .Call (.Name g _) xs (k :: kws) _ => decide (c.tab[f]? = some g) && glB c g && notDbg g && mEs n c es (xs ++ kwVals (k :: kws)) && noStar xs && kwIn c f xs.length (k :: kws) perm
      | _ => false
    | .bi b es => match b with
      | .lrange => match x with
        | .Call (.Name g _) [.Call (.Name r _) (y :: xs) [] _] [] _ => same g "list" && glB c g && same r "range" && glB c r && mEs n c es (y :: xs) && noStar (y :: xs)
        | _ => false
      | .trange => match x with
        | .Call (.Name g _) [.Call (.Name r _) (y :: xs) [] _] [] _ => same g "tuple" && glB c g && same r "range" && glB c r && mEs n c es (y :: xs) && noStar (y :: xs)
        | _ => false
      | .maxd => match x with
        | .Call (.Name g _) [y] [⟨some k, d, _⟩] _ => same g "max" && glB c g && same k "default" && mEs n c es [y, d] && noStar [y]
        | _ => false
      | .sset => match x with
        | .Call (.Name g _) [.Call (.Name r _) [y] [] _] [] _ => same g "sorted" && glB c g && same r "set" && glB c r && mEs n c es [y] && noStar [y]
        | _ => false
      | .lenr => match x with
        | .Call (.Name g _) [.Call (.Name r _) (y :: xs) [] _] [] _ => same g "len" && glB c g && same r "range" && glB c r && mEs n c es (y :: xs) && noStar (y :: xs)
        | _ => false
      | .step => match x with
        | .Subscript l (.Slice (some u) none (some v) _) _ => mEs n c es [l, u, v]
        | _ => false
      | b => match x with
        | .Call (.Name g _) (y :: xs) [] _ => same g (biS b) && glB c g && mEs n c es (y :: xs) && noStar (y :: xs)
        | _ => false
    | .isi a ts => match x with
      | .Call (.Name g _) [y, t] [] _ => same g "isinstance" && glB c g && mE n c a y && noStar [y, t] && decide (ts.length ≤ 10) && (match t with
        | .Tuple xs _ _ => mTys c ts xs && noStar xs
        | t => mTys c ts [t])
      | _ => false
    | .meth m o es => match x with
      | .Call (.Attribute y nm apos) xs [] cpos => same nm (meS m) && mE n c o y && mEs n c es xs && noStar xs && noBase y && (apos.endLine == cpos.line) && decide (xs.length < 20)
      | _ => false
    | .lc elt tg k its ifs own => match x with
      | .ListComp y [⟨t, it, fs, 0⟩] scope _ => blkC c.N c.sc scope (ownP c own) && mTg (c.blk scope) tg t && mI n c t k its it && mTs n (c.blk scope) ifs fs && mE n (c.blk scope) elt y && tgIn own tg
      | _ => false
    | .lc2 elt tg k its tg2 k2 its2 own own2 => match x with
      | .ListComp y [⟨t, it, [], 0⟩, ⟨t2, it2, [], 0⟩] scope _ => blkC c.N c.sc scope (ownP c own) && mTg (c.blk scope) tg t && mI n c t k its it && mTg (c.blk scope) tg2 t2 && mI n (c.blk scope) t2 k2 its2 it2
          && mE n (c.blk scope) elt y && own2.all (fun i => own.contains i) && tgIn own tg && tgIn own2 tg2
      | _ => false
def mDis : Nat → Cxt → List E → E → List E → List Expr → Bool
  | 0, _, _, _, _, _ => false
  | n + 1, c, pre, st, post, xs => match xs.drop pre.length with
    | .Starred y _ :: qs => mEs n c pre (xs.take pre.length) && noStar (xs.take pre.length) && mE n c st y && mEs n c post qs && noStar qs
    | _ => false
def mEs : Nat → Cxt → List E → List Expr → Bool
  | 0, _, _, _ => false
  | n + 1, c, es, xs => match es with
    | [] => match xs with
      | [] => true
      | _ => false
    | e :: es => match xs with
      | x :: xs => mE n c e x && mEs n c es xs
      | [] => false
def mT : Nat → Cxt → E → Expr → Bool
  | 0, _, _, _ => false
  | n + 1, c, e, x => match e with
    | .band es => match x with
      | .BoolOp .And xs _ => mTs n c es xs
      | _ => false
    | .bor es => match x with
      | .BoolOp .Or xs _ => mTs n c es xs
      | _ => false
    | .bnot a => match x with
      | .UnaryOp .Not y _ => mT n c a y
      | _ => false
    | .ite _ _ _ => false
    | e => mE n c e x
def mTs : Nat → Cxt → List E → List Expr → Bool
  | 0, _, _, _ => false
  | n + 1, c, es, xs => match es with
    | [] => match xs with
      | [] => true
      | _ => false
    | e :: es => match xs with
      | x :: xs => mT n c e x && mTs n c es xs
      | [] => false
def mI : Nat → Cxt → Expr → ItK → List E → Expr → Bool
  | 0, _, _, _, _, _ => false
  | n + 1, c, t, k, es, x => match k with
    | .val => mEs n c es [x] && !isSetE x
    | .range => match x with
      | .Call (.Name g _) xs [] _ => same g "range" && glB c g && mEs n c es xs && noStar xs
      | _ => false
    | .enum => match x with
      | .Call (.Name g _) [y] [] _ => same g "enumerate" && glB c g && mEs n c es [y] && noStar [y] && isTup t
      | _ => false
    | .zip => match x with
      | .Call (.Name g _) [y, z] [] _ => same g "zip" && glB c g && mEs n c es [y, z] && noStar [y, z] && isTup t
      | _ => false
end
/-- stores from the right: the names -/
def lineOf : List Expr → Nat
  | x :: _ => x.pos.line
  | [] => 0
def swNm (c : Cxt) (l : Nat) (x : Expr) : Bool := match x with
  | .Name n p => loB c n && (p.line == l)
  | _ => false
def swOk (ys : List Expr) : Bool := !(ys.all (foldedForSure 8)) && !(ys.all (constantsAlone 8))
def dist : List Nat → Bool
  | [] => true
  | i :: is => !is.contains i && dist is
/-- an assignment of a comprehension to a name on its line -/
def swB (c : Cxt) (t : Str) (l : Nat) (x : Expr) : Bool := match x with
  | .ListComp _ _ s p => loB c t && (l == p.line) && !(s.names.any fun (n, k) => n == t && (k == .local || k == .cell))
  | _ => false
/-- a name that is kept in a cell -/
def ceB (c : Cxt) (t : Str) : Bool := match c.sc.names.lookup t with
  | some .cell => true
  | _ => false
mutual
def mS : Nat → Cxt → S → Stmt → Bool
  | 0, _, _, _ => false
  | n + 1, c, s, x => match s with
    | .expr e => match x with
      | .Expr y _ => mE n c e y && !isComp y
      | _ => false
    | .ret e => match x with
      | .Return (some y) _ => mE n c e y
      | _ => false
    | .retN => match x with
      | .Return none _ => true
      | _ => false
    | .asg t e => match x with
      | .Assign [tx] y _ => mE n c e y && mTg c t tx && (match t with
        | .nm _ => match tx with
          | .Name m p => !isComp y || swB c m p.line y || ceB c m
          | _ => false
        | .tp _ => !isTup y)
      | _ => false
    | .par is es => match x with
      | .Assign [.Tuple ts _ _] (.Tuple ys _ _) _ => mEs n c es ys && noStar ys && mNms c is ts && (ts.length == ys.length) && decide (is.length ≤ 10) && (
          (ts.all (swNm c (lineOf ts)) && swOk ys && dist is && (decide (is.length = 2) || decide (is.length = 3))) ||
          decide (3 < is.length) || (ys.all (foldedForSure 8)) || !(ts.all (swNm c (lineOf ts))))
      | _ => false
    | .setIx o i e => match x with
      | .Assign [.Subscript l r _] y _ => mEs n c [e, o, i] [y, l, r] && !isSlice r
      | _ => false
    | .swapIx o1 i1 o2 i2 e => match x with
      | .Assign [.Tuple [.Subscript l1 r1 _, .Subscript l2 r2 _] _ _] y _ => mE n c e y && mEs n c [o1, i1] [l1, r1] && mEs n c [o2, i2] [l2, r2] && !isSlice r1 && !isSlice r2
      | _ => false
    | .aug i op e => match x with
      | .AugAssign (.Name m _) o y _ => nmB c i m && stB c m && opB op o && mE n c e y
      | _ => false
    | .ifs d a b => match x with
      | .If t l r _ => mT n c d t && mSs n c a l && mSs n c b r
      | _ => false
    | .for_ tg k its body => match x with
      | .For t it l [] _ => mTg c tg t && mI n c t k its it && mSs n c body l
      | _ => false
    | .while_ d body => match x with
      | .While t l [] _ => mT n c d t && mSs n c body l
      | _ => false
    | .pass => match x with
      | .Pass _ => true
      | _ => false
    | .brk => match x with
      | .Break _ => true
      | _ => false
    | .cont => match x with
      | .Continue _ => true
      | _ => false
    | .bad => true
def mSs : Nat → Cxt → List S → List Stmt → Bool
  | 0, _, _, _ => false
  | n + 1, c, ss, xs => match ss with
    | [] => match xs with
      | [] => true
      | _ => false
    | s :: ss => match xs with
      | x :: xs => mS n c s x && mSs n c ss xs
      | [] => false
end
end Ev

set_option Elab.async false
set_option linter.all false
set_option maxRecDepth 100000
set_option maxHeartbeats 2000000
/-! OI: list(o), o an instance whose __iter__ is iter(self.f) of a tuple, with __len__ -/
namespace Ob
open PySem PySem.Spec PyProof.Rows L2
def tiObj (t : Addr) : Obj := { cls := .type "tuple_iterator", data := .fields #[.ref t, .int 0 0] }
def TiO (t it : Addr) : HO := .ext fun h => h.get? it = some (tiObj t)
def JkO (it : Addr) : HO := .ext fun h => ∃ o, h.get? it = some o
theorem tiO_ok {P : Program} {w : World} {H : Hp} {h : Heap} {t it : Addr} (e : h.get? it = some (tiObj t)) : ObjOk P w H h it (TiO t it) := ⟨e, ⟨_, e⟩, fun h1 h2 q k => k _ q⟩
theorem jkO_ok {P : Program} {w : World} {H : Hp} {h : Heap} {it : Addr} {o : Obj} (e : h.get? it = some o) : ObjOk P w H h it (JkO it) := ⟨⟨o, e⟩, ⟨_, e⟩, fun h1 h2 ⟨o, q⟩ k => ⟨o, k _ q⟩⟩
section
variable {X : Cx} {pins : List (Addr × Obj)} {σ : L2.St} {H : Hp} {s : Shared}
theorem call_iterT : CallR X (.builtin "iter") (fun xs H Q => ∃ (t : Addr) (vs : List V), xs = [.ref t] ∧ SqT X.K H t vs ∧ ∀ it, H it = none → Q (.ref it) (upd H it (TiO t it))) := by
  intro pins s σ H xs us Q I r h
  obtain ⟨t, vs, rfl, hq, q⟩ := h
  obtain rfl := Vals.ref1 r
  obtain ⟨its, rv, pl, hz⟩ := I.tuple hq
  refine Calls.call_function_entry (by decide +kernel) (by decide +kernel) PySem.W.kdk_entry_iter (PySem.W.kdk_args_iter _) ?_
  unfold Builtin.«iter»
  refine wpAny_bind (m := someArgs "iter" 1 2 _) (wpAny_of_eq (a := [Value.ref t]) (by first | rfl | kernel_rfl!) ?_)
  show wpAny _ _ (pyIter (.ref t) >>= _) _ _ _
  refine wpAny_bind (iter_tuple pl ?_)
  refine wpAny_pure ⟨_, rfl, ?_⟩
  exact ⟨.ref s.heap.objs.size, _, I.laid (t' := s.toks) (fun b u e => Heap.get?_push_of_some _ e) (Nat.le_refl _) (tiO_ok (Heap.get?_push_size _ rfl)), rfl, q _ (I.hok.fresh (Nat.le_refl _))⟩
/-- what a class like this has -/
structure ItS (K : PySem.W.Frag) (C fi fl : Addr) : Prop where
  it : PySem.W.findIn K (.ref C) "__iter__" = some (some (.ref fi))
  itF : PySem.W.isFn K (.ref fi) = true
  ln : PySem.W.findIn K (.ref C) "__len__" = some (some (.ref fl))
  lnF : PySem.W.isFn K (.ref fl) = true
def spIt (K : PySem.W.Frag) (C : Addr) : Sp := fun vs H Q _ => ∃ (a dx t : Addr) (ws : List V), vs = [.ref a] ∧ SlX.Slt H a C dx [some (.ref t)] ∧ SqT K H t ws ∧ ∀ it, H it = none → Q (.ref it) (upd H it (TiO t it))
def spLn (K : PySem.W.Frag) (C : Addr) : Sp := fun vs H Q _ => ∃ (a dx t : Addr) (ws : List V), vs = [.ref a] ∧ SlX.Slt H a C dx [some (.ref t)] ∧ SqT K H t ws ∧ Q (.int (ws.length : Nat)) H
theorem slt_upd {H : Hp} {a C dx q : Addr} {x : Option V} {vs : List (Option V)} {o : HO} (h : SlX.Slt H a C dx (x :: vs)) (hq : H q = none) : SlX.Slt (upd H q o) a C dx (x :: vs) := by
  rcases h with ⟨h1, h2⟩ | ⟨h1, h2⟩
  · cases h2
  · exact .inr ⟨by rw [upd_ne (ne_of_none h1 hq)]; exact h1, by rw [upd_ne (ne_of_none h2 hq)]; exact h2⟩
theorem sqt_upd {K : PySem.W.Frag} {H : Hp} {t q : Addr} {ws : List V} {o : HO} (h : SqT K H t ws) (hq : H q = none) : SqT K (upd H q o) t ws := by
  rcases h with (h | ⟨o', h⟩) | h
  · exact .inl (.inl (by rw [upd_ne (ne_of_none h hq)]; exact h))
  · exact .inl (.inr ⟨o', by rw [upd_ne (ne_of_none h hq)]; exact h⟩)
  · exact .inr h
variable {C fi fl : Addr} {k : Nat}
theorem own_call {g : Addr} {A1 : Around} {sp : Sp} {us : List Value} {vs : List V} {Q : VK} {P : Value → Shared → Prop} {E : Value → Shared → Prop} {s1 : Shared} {H1 : Hp} (F : FnR X.prog X.w X.K X.mg X.base CX0 k g sp) (hr : Room k A1) (hfr : A1.frames = X.A.frames) (I : Inv X pins σ H1 s1) (r : Vals vs us) (h : sp vs H1 Q (fun _ _ _ => False))
    (q : ∀ u s', EP X pins σ Q u s' → P u s') : wpAny (model X.prog X.w) A1 (call (.ref g) us) P E s1 := by
  have e0 : Env0 X.prog X.w X.K X.mg X.base A1 X.stack s1 H1 := by
    have e := I.env0
    exact ⟨by rw [hfr]; exact e.frames, e.mod, e.bs, e.bsz, e.funs, e.frf, e.hok, e.bare⟩
  refine wpAny_call (codeAny_mono (F A1 X.stack s1 H1 us vs Q _ hr e0 r h) fun r s' hq' => ?_)
  cases r with
  | error e => exact False.elim hq'
  | ok fl =>
    cases fl with
    | next => exact False.elim hq'
    | brk => exact False.elim hq'
    | cont => exact False.elim hq'
    | ret u => exact q u s' (I.after hq')
theorem len_ob {A1 : Around} {a dx t : Addr} {ws : List V} {P : Value → Shared → Prop} {E : Value → Shared → Prop} {s1 : Shared} {H1 : Hp} (hc : ItS X.K C fi fl) (FL : FnR X.prog X.w X.K X.mg X.base CX0 k fl (spLn X.K C)) (hr : Room k A1.in1) (hfr : A1.in1.frames = X.A.frames)
    (I : Inv X pins σ H1 s1) (hs : SlX.Slt H1 a C dx [some (.ref t)]) (ht : SqT X.K H1 t ws) (hz : ws.length ≤ sizeLine)
    (q : ∀ tk s', Inv X pins σ H1 s' → P (.int (ws.length : Nat) tk) s') : wpAny (model X.prog X.w) A1 (call (.builtin "len") [.ref a]) P E s1 := by
  obtain ⟨sl, od, _, J, _⟩ := SlX.slt_inst I hs
  refine Calls.call_function_entry kind_len plain_len entry_len (args_len1 _) ?_
  unfold Builtin.«len»
  refine wpAny_bind (m := oneArg "len" _) (wpAny_pure ?_)
  refine wpAny_bind (PySem.W.special_fn (name := "__len__") (args := []) I.kIn J hc.ln (beq_iff_eq.mp hc.lnF) ?_)
  refine own_call (Q := fun v H2 => v = .int (ws.length : Nat) ∧ H2 = H1) FL hr hfr I (.cons (show RelV (V.ref a) (Value.ref a) from rfl) .nil) ⟨a, dx, t, ws, rfl, hs, ht, rfl, rfl⟩ fun u s' h => ?_
  obtain ⟨v, H2, I2, rv, rfl, rfl⟩ := h
  obtain ⟨tk, rfl⟩ := rv
  refine wpAny_bind (wpAny_holding (wpAny_pure ?_))
  refine wpAny_bind (wpAny_letGo ?_)
  have sz : sizeLine = 16777216 := sizeLine_eq
  show wpAny _ _ (if ((ws.length : Nat) : Int) < 0 then _ else _) _ _ _
  rw [if_neg (by omega)]
  show wpAny _ _ (if ((ws.length : Nat) : Int) ≥ 2 ^ 63 then _ else _) _ _ _
  rw [if_neg (by omega)]
  exact wpAny_bind (wpAny_mkInt (wpAny_pure ⟨_, rfl, q _ _ (I2.tok _)⟩))
theorem hint_ob {A1 : Around} {a dx t : Addr} {ws : List V} {Q : Bool → Shared → Prop} {E : Value → Shared → Prop} {s1 : Shared} {H1 : Hp} (hc : ItS X.K C fi fl) (FL : FnR X.prog X.w X.K X.mg X.base CX0 k fl (spLn X.K C)) (hr : Room k A1.in1) (hfr : A1.in1.frames = X.A.frames)
    (I : Inv X pins σ H1 s1) (hs : SlX.Slt H1 a C dx [some (.ref t)]) (ht : SqT X.K H1 t ws) (hz : ws.length ≤ sizeLine)
    (q : ∀ b s', Inv X pins σ H1 s' → Q b s') : wpAny (model X.prog X.w) A1 (Builtin.List.listLengthHint (.ref a)) Q E s1 := by
  obtain ⟨sl, od, _, J, _⟩ := SlX.slt_inst I hs
  unfold Builtin.List.listLengthHint
  refine wpAny_bind (wpAny_bind (J.type.here ((PySem.W.looks_findIn I.kIn hc.ln).here ?_)))
  refine PySem.W.KFB.if_not rfl ?_
  refine wpAny_bind (wpAny_rule ?_)
  refine wpAny_bind (wpAny_attempt (len_ob hc FL hr hfr I hs ht hz fun tk s' I' => ?_))
  show wpAny _ _ (asInt? (Value.int (ws.length : Nat) tk) >>= _) _ _ _
  refine wpAny_bind (wpAny_of_eq (a := some ((ws.length : Nat) : Int)) rfl ?_)
  show wpAny _ _ (if Builtin.List.listTooLong (((ws.length : Nat) : Int).toNat) = true then _ else _) _ _ _
  rw [Int.toNat_natCast, notLongL hz, if_neg Bool.false_ne_true]
  exact wpAny_pure (q _ _ I')
def TaO (t it : Addr) (i : Nat) : HO := .ext fun h => IsTupIter h it t i
theorem taO_ok {P : Program} {w : World} {H : Hp} {h : Heap} {t it : Addr} {i : Nat} (e : IsTupIter h it t i) : ObjOk P w H h it (TaO t it i) := ⟨e, let ⟨o, ho, _⟩ := e; ⟨o, ho⟩, fun h1 h2 ⟨o, ho, r⟩ k => ⟨o, k _ ho, r⟩⟩
/-- a tuple's walk has ended: its iterator is still there -/
theorem end_there {prog : Program} {w : World} {A : Around} {E : Value → Shared → Prop} {s : Shared} {it t : Addr} {i : Nat} {items : Array Value} {Q : Option Value → Shared → Prop} (hh : A.handled = none)
    (hit : IsTupIter s.heap it t i) (ht : IsTup s.heap t items) (hx : items[i]? = none)
    (hQ : ∀ h', Heap.ExtBut it s.heap h' → (∃ o, h'.get? it = some o) → Q none { s with heap := h' }) : wpAny (model prog w) A (pyNext (.ref it)) Q E s := by
  obtain ⟨o, ho, hc, hd⟩ := id hit
  obtain ⟨ot, hot, _, nt, hdt⟩ := ht
  unfold pyNext
  refine wpAny_bind (wpAny_attempt (wpAny_callSpecial?_slot (name := Str.ofString "__next__") hit.typeIs slot_tupleiter_next
    (wpAny_call_entry slot_tupleiter_next hit.typeIs entry_tupleiter_next ?_ (args_tupleiter_next _))))
  show wpAny _ _ (field (.ref it) 0 >>= _) _ _ s
  refine wpAny_bind (wpAny_field ho hd (x := .ref t) rfl ?_)
  show wpAny _ _ (if (Value.ref t == Value.none) = true then _ else _) _ _ s
  rw [if_neg (show ¬ ((Value.ref t == Value.none) = true) from Bool.false_ne_true)]
  show wpAny _ _ (field (.ref it) 1 >>= _) _ _ s
  refine wpAny_bind (wpAny_field ho hd (x := .int i 0) rfl ?_)
  show wpAny _ _ (seqItems? (.ref t) >>= _) _ _ s
  refine wpAny_bind (wpAny_seqItems hot hdt ?_)
  simp only [Int.toNat_natCast, hx]
  refine wpAny_bind (wpAny_rule (wpAny_bind (wpAny_setField ho hd (by simp) ?_)))
  show wpAny _ _ (newExc (.type "StopIteration") [] >>= _) _ _ _
  refine wpAny_bind ?_
  simp only [newExc, newTuple]
  refine wpAny_bind (wpAny_newObj_type ?_ (by size_fits))
  refine wpAny_bind (m := firstArgMember _ _) (wpAny_of_eq (a := Value.none) (by first | rfl | (simp only [firstArgMember]; rfl)) ?_)
  refine wpAny_newObj_type ?_ (by size_fits)
  simp only [raiseNew]
  refine wpAny_bind (wpAny_handled ?_)
  first | rw [show A.in1.handled = none from hh] | rw [hh]
  refine wpAny_bind (wpAny_pure (wpAny_throw ?_))
  refine wpAny_bind (wpAny_isInstance (T := "StopIteration") (b := true) ⟨_, Heap.get?_push_size _ rfl, rfl⟩ isSubtype_stop ?_)
  refine wpAny_pure (hQ _ (((Heap.SameBut.update ..).extBut.push _).push _) ⟨_, Heap.get?_push_of_some _ (Heap.get?_push_of_some _ (Heap.get?_update_self _ ho (Obj.isFreed_of_fields (Obj.data_mapFields hd _))))⟩)
theorem loop_ob {A1 : Around} {t it q : Addr} {ws : List V} {Rs : Result → Shared → Prop} {H0 : Hp} (hh : A1.in1.handled = none) (hz : ws.length ≤ sizeLine) (hit : H0 it = none) (hq : H0 q = none) (hne : it ≠ q) (ht : SqT X.K H0 t ws)
    (hdone : ∀ s', Inv X pins σ (upd (upd H0 q (.lst ws)) it (JkO it)) s' → Rs (.ok (.ret .none)) s') :
    ∀ (m i : Nat) (s : Shared), ws.length - i = m → i ≤ ws.length → Inv X pins σ (upd (upd H0 q (.lst (ws.take i))) it (TaO t it i)) s → codeAny (model X.prog X.w) A1 (.builtin "list.extend.loop" ⟨[.ref q, .ref it, .none], []⟩) Rs s := by
  intro m
  induction m with
  | zero =>
    intro i s hm hi I
    have ei : i = ws.length := by omega
    subst ei
    refine codeAny_builtin PySem.F.entry_extend_loop ?_
    rw [Around.under_plainId PySem.F.plain_extend_loop _]
    show wpAny _ A1.in1 (pyNext (.ref it) >>= _) _ _ s
    have e1 : IsTupIter s.heap it t ws.length := (I.hok it _ upd_same).1
    obtain ⟨its, rv, pl, _⟩ := I.tuple (sqt_upd (sqt_upd ht hq) (by rw [upd_ne hne]; exact hit))
    refine wpAny_bind (end_there hh e1 pl (by rw [List.getElem?_toArray]; exact rv.none_of (List.getElem?_eq_none_iff.mpr (Nat.le_refl _))) fun h' sb ⟨o, ho⟩ => ?_)
    refine wpAny_pure (hdone _ ?_)
    have mu : Mut ((upd (upd H0 q (.lst (ws.take ws.length))) it (TaO t it ws.length)) it) := by rw [upd_same]; exact True.intro
    have I2 := I.write (x := it) (e := it) (o := JkO it) (h' := h') (t' := s.toks) mu (.inl rfl) (fun b u nb z => sb b u nb z) ⟨o, ho⟩ (jkO_ok ho)
    rw [upd_upd, List.take_length] at I2
    exact I2
  | succ m ih =>
    intro i s hm hi I
    refine codeAny_builtin PySem.F.entry_extend_loop ?_
    rw [Around.under_plainId PySem.F.plain_extend_loop _]
    show wpAny _ A1.in1 (pyNext (.ref it) >>= _) _ _ s
    have e1 : IsTupIter s.heap it t i := (I.hok it _ upd_same).1
    obtain ⟨its, rv, pl, _⟩ := I.tuple (sqt_upd (sqt_upd ht hq) (by rw [upd_ne hne]; exact hit))
    have hx : ws[i]? = some (ws[i]'(by omega)) := List.getElem?_eq_getElem (by omega)
    obtain ⟨u, hu, ru⟩ := rv.get hx
    refine wpAny_bind (next_tuple_item e1 pl (by rw [List.getElem?_toArray]; exact hu) fun h' e2 sb => ?_)
    have mu : Mut ((upd (upd H0 q (.lst (ws.take i))) it (TaO t it i)) it) := by rw [upd_same]; exact True.intro
    have I2 := I.write (x := it) (e := it) (o := TaO t it (i + 1)) (h' := h') (t' := s.toks) mu (.inl rfl) (fun b o nb z => (sb.2 b nb).trans z) (let ⟨o, ho, _⟩ := e2; ⟨o, ho⟩) (taO_ok e2)
    rw [upd_upd] at I2
    show wpAny _ A1.in1 (updateSeq q (·.push u) >>= _) _ _ _
    have hq2 : upd (upd H0 q (.lst (ws.take i))) it (TaO t it (i + 1)) q = some (.lst (ws.take i)) := by rw [upd_ne (fun z => hne z.symm), upd_same]
    obtain ⟨z, its2, k2, r2, hl, e⟩ := I2.lstM hq2
    have hz2 : its2.length ≤ i := by rw [← hl, List.length_take]; omega
    refine wpAny_bind (wpAny_updateSeq e rfl (wpAny_pure ⟨plainId_quiet PySem.F.plain_extend_loop _, ?_⟩) (by rw [List.size_toArray]; omega) (by show (its2.toArray.push u).size ≤ sizeLine + 1; rw [Array.size_push, List.size_toArray]; omega))
    have I3 := I2.lset (f := (·.push u)) (its' := its2 ++ [u]) (ys := ws.take i ++ [ws[i]'(by omega)]) (t' := s.toks) hq2 e (by simp) (r2.append (.cons ru .nil)) (by rw [List.length_append, List.length_singleton, List.length_take]; omega)
    have e3 : ws.take i ++ [ws[i]'(by omega)] = ws.take (i + 1) := by rw [List.take_add_one, hx]; rfl
    rw [e3] at I3
    have e4 : upd (upd (upd H0 q (.lst (ws.take i))) it (TaO t it (i + 1))) q (.lst (ws.take (i + 1))) = upd (upd H0 q (.lst (ws.take (i + 1)))) it (TaO t it (i + 1)) := by
      funext b
      by_cases h1 : b = q
      · subst h1
        rw [upd_same, upd_ne (fun z => hne z.symm), upd_same]
      · by_cases h2 : b = it
        · subst h2
          rw [upd_ne h1, upd_same, upd_same]
        · rw [upd_ne h1, upd_ne h2, upd_ne h1, upd_ne h2, upd_ne h1]
    rw [e4] at I3
    exact ih (i + 1) _ (by omega) (by omega) I3
theorem call_listOb (hcalm : X.calm = true) (hc : ItS X.K C fi fl) (FI : FnR X.prog X.w X.K X.mg X.base CX0 k fi (spIt X.K C)) (FL : FnR X.prog X.w X.K X.mg X.base CX0 k fl (spLn X.K C)) (hr : Room (k + 4) X.A) :
    CallR X (.type "list") (fun xs H Q => ∃ (a dx t : Addr) (ws : List V), xs = [.ref a] ∧ SlX.Slt H a C dx [some (.ref t)] ∧ SqT X.K H t ws ∧ ∀ q, H q = none → Q (.ref q) (upd H q (.lst ws))) := by
  intro pins s σ H xs us Q I rv h
  obtain ⟨a, dx, t, ws, rfl, hs, ht, hq⟩ := h
  obtain ⟨u, rfl, ru⟩ := rv.one
  cases ru
  have sb4 : Sub X (k + 4) X.A := ⟨hr, rfl⟩
  have sb2 : Sub X (k + 2) X.A.in1.in1 := Sub.in1 (Sub.in1 sb4)
  have sb3 : Sub X (k + 1) X.A.in1.in1.in1 := Sub.in1 sb2
  refine callType_codes (Q₁ := fun obj s₁ => obj = .ref s.heap.objs.size ∧ s₁ = { s with heap := s.heap.push { cls := .type "list", data := .seq #[] } }) PySem.F.called_list (PySem.F.typeCall_list_1 _) PySem.F.entry_list_init
    (code_list_new _ ⟨rfl, rfl⟩) fun obj s₁ h₁ => ?_
  obtain ⟨rfl, rfl⟩ := h₁
  have hS : (s.heap.push { cls := .type "list", data := .seq #[] }).get? s.heap.objs.size = some { cls := .type "list", data := .seq #[] } := Heap.get?_push_size _ rfl
  refine ⟨⟨_, hS, rfl⟩, PySem.F.args_list_init_2 _ _, ?_⟩
  have fr : H s.heap.objs.size = none := I.hok.fresh (Nat.le_refl _)
  have I1 : Inv X pins σ (upd H s.heap.objs.size (.lst [])) { s with heap := s.heap.push { cls := .type "list", data := .seq #[] } } := I.lnew (its := []) (t' := s.toks) .nil (Nat.zero_le _)
  show wpAny _ _ (do let old ← Builtin.List.listItems (.ref s.heap.objs.size); Builtin.List.listUpdate (.ref s.heap.objs.size) (fun _ => #[]); letGo old.toList.reverse; Builtin.List.listExtendWith (.ref s.heap.objs.size) (.ref a) .none) _ _ _
  refine wpAny_bind ?_
  unfold Builtin.List.listItems
  refine wpAny_bind (wpAny_seqItems hS rfl (wpAny_pure ?_))
  show wpAny _ _ (updateSeq s.heap.objs.size (fun _ => #[]) >>= fun _ => letGo (#[] : Array Value).toList.reverse >>= fun _ => Builtin.List.listExtendWith (.ref s.heap.objs.size) (.ref a) .none) _ _ _
  refine wpAny_bind (wpAny_updateSeq hS rfl ?_)
  have I2 := I1.lset (f := fun _ => #[]) (its := []) (its' := []) (ys := []) (t' := s.toks) upd_same hS rfl .nil (Nat.zero_le _)
  rw [upd_upd] at I2
  refine wpAny_bind (wpAny_letGo ?_)
  have hs2 : SlX.Slt (upd H s.heap.objs.size (.lst [])) a C dx [some (.ref t)] := slt_upd hs fr
  have ht2 : SqT X.K (upd H s.heap.objs.size (.lst [])) t ws := sqt_upd ht fr
  have hqa : upd H s.heap.objs.size (.lst []) s.heap.objs.size = some (.lst []) := upd_same
  generalize hgen : upd H s.heap.objs.size (.lst []) = H1 at *
  obtain ⟨sl, od, _, J, _⟩ := SlX.slt_inst I2 hs2
  obtain ⟨its, rt, pt, hz⟩ := I2.tuple ht2
  obtain ⟨m0, hF⟩ := I2.fr
  have hne : s.heap.objs.size ≠ a := fun z => by
    rcases hs with ⟨h1, _⟩ | ⟨h1, _⟩
    · rw [← z, fr] at h1; cases h1
    · rw [← z, fr] at h1; cases h1
  unfold Builtin.List.listExtendWith
  refine wpAny_bind (J.type.here ?_)
  have h1 : Builtin.List.listSameRef (.ref s.heap.objs.size) (.ref a) = false := by simp [Builtin.List.listSameRef, hne]
  have h2 : (Value.ref C == Value.type "list") = false := rfl
  have h3 : (Value.ref C == Value.type "tuple") = false := rfl
  simp only [h1, h2, h3, Bool.or_false, Bool.false_eq_true, if_false]
  refine wpAny_bind (PySem.W.owit_iter hF I2.ok.mod.kin J hc.it hc.itF ?_)
  refine own_call (k := k) (Q := fun v H2 => ∃ it, v = .ref it ∧ H1 it = none ∧ H2 = upd H1 it (TiO t it)) FI (sb2.room.mono (by omega)) ?_ I2 (.cons (show RelV (V.ref a) (Value.ref a) from rfl) .nil) ⟨a, dx, t, ws, rfl, hs2, ht2, fun it hit => ⟨it, rfl, hit, rfl⟩⟩ fun u s' h => ?_
  · exact sb2.fr
  obtain ⟨v, H2, I3, rv, it, rfl, hit, rfl⟩ := h
  cases rv
  have hqn : it ≠ s.heap.objs.size := fun z => by rw [z, hqa] at hit; cases hit
  have g1 : s'.heap.get? it = some (tiObj t) := (I3.hok it _ upd_same).1
  have hT : s'.TypeIs (.ref it) "tuple_iterator" := ⟨_, g1, rfl⟩
  unfold PySem.W.OwitIt
  refine wpAny_specialOf hT slot_tupleiter_next.lookup ?_
  have hs3 := slt_upd (o := TiO t it) hs2 hit
  have ht3 := sqt_upd (o := TiO t it) ht2 hit
  have hzw : ws.length ≤ sizeLine := hz
  refine wpAny_bind (wpAny_holding (hint_ob (k := k) hc FL (sb3.room.mono (by omega)) sb3.fr I3 hs3 ht3 hzw fun b s4 I4 => ?_))
  have fin : ∀ s5 : Shared, Inv X pins σ (upd H1 it (TiO t it)) s5 → codeAny (model X.prog X.w) X.A.in1 (.builtin "list.extend.loop" ⟨[.ref s.heap.objs.size, .ref it, .none], []⟩) (wants (fun r s₂ => r = .none ∧ EP X pins σ Q (.ref s.heap.objs.size) s₂) X.xe) s5 := by
    intro s5 I5
    have hit0 : H it = none := by
      have := hit
      rw [← hgen, upd_ne hqn] at this
      exact this
    have g5 : s5.heap.get? it = some (tiObj t) := (I5.hok it _ upd_same).1
    have mu : Mut ((upd H1 it (TiO t it)) it) := by rw [upd_same]; exact True.intro
    have e5 : IsTupIter s5.heap it t 0 := ⟨_, g5, rfl, rfl⟩
    have I8 := I5.write (x := it) (e := it) (o := TaO t it 0) (h' := s5.heap) (t' := s5.toks) mu (.inl rfl) (fun b o nb z => z) ⟨_, g5⟩ (taO_ok e5)
    rw [upd_upd, ← hgen] at I8
    refine loop_ob (A1 := X.A.in1) (H0 := H) (I.ok.hd hcalm) hzw hit0 fr hqn ht (fun s6 I9 => ?_) ws.length 0 s5 (by omega) (by omega) (by rw [List.take_zero]; exact I8)
    refine ⟨rfl, .ref s.heap.objs.size, upd H s.heap.objs.size (.lst ws), ?_, rfl, hq _ fr⟩
    have I10 := ItX.inv_drop I9 (a := it) upd_same
    rw [ItX.dropH_upd (by rw [upd_ne hqn]; exact hit0)] at I10
    exact I10
  obtain ⟨z, its4, k4, r4, hl4, e4⟩ := I4.lstM (l := s.heap.objs.size) (xs := []) (by rw [upd_ne (fun z => hqn z.symm)]; exact hqa)
  cases r4
  refine wpAny_ite_split (fun _ => ?_) (fun _ => wpAny_pure ⟨plainId_quiet PySem.F.plain_extend_loop _, fin s4 I4⟩)
  refine wpAny_bind (wpAny_rule ?_)
  refine wpAny_bind ?_
  show wpAny _ _ (updateSeq s.heap.objs.size (·.push .none) >>= fun _ => updateSeq s.heap.objs.size (·.pop)) _ _ _
  refine wpAny_bind (wpAny_updateSeq e4 rfl ?_)
  have hq4 : upd H1 it (TiO t it) s.heap.objs.size = some (.lst []) := by rw [upd_ne (fun z => hqn z.symm)]; exact hqa
  have I6 := I4.lset (f := (·.push Value.none)) (its' := [Value.none]) (ys := [.non]) (t' := s4.toks) hq4 e4 (by simp) (.cons rfl .nil) (by rw [List.length_singleton, sizeLine_eq]; decide)
  obtain ⟨z6, its6, k6, r6, hl6, e6⟩ := I6.lstM upd_same
  obtain ⟨u6, rfl, ru6⟩ := r6.one
  refine wpAny_updateSeq e6 rfl ?_ (by show 1 ≤ sizeLine; rw [sizeLine_eq]; decide) (by show 0 ≤ sizeLine + 1; exact Nat.zero_le _)
  refine wpAny_pure ⟨plainId_quiet PySem.F.plain_extend_loop _, fin _ ?_⟩
  have I7 := I6.lset (f := (·.pop)) (its := [u6]) (its' := []) (ys := []) (t' := s4.toks) upd_same e6 (by rfl) .nil (Nat.zero_le _)
  rw [upd_upd] at I7
  have hH : upd (upd H1 it (TiO t it)) s.heap.objs.size (.lst []) = upd H1 it (TiO t it) := by
    funext b
    by_cases hb : b = s.heap.objs.size
    · rw [hb, upd_same, hq4]
    · rw [upd_ne hb]
  rw [hH] at I7
  exact I7
end
end Ob

set_option linter.all false
set_option maxRecDepth 100000
set_option maxHeartbeats 1000000
/-! Ev: contexts; targets; lists being built; ranges as lists -/
namespace Ev
open PySem PySem.Spec PyProof.Rows L2
section
variable {K : PySem.W.Frag} {F F' H H' F0 H0 F1 H1 : Hp} {W W' W0 W1 : Fp} {σ : L2.St} {δ δ' : Dl}
/-- a value goes elsewhere -/
theorem Post.toV {Wt : Fp} (p : Post K F0 H0 W0 F H σ δ W Wt) {a : A} {v : V} {d : D} (h : AOk K F H σ v a Wt) (e : toV δ a = some (d, δ')) : ∃ F', Post K F0 H0 W0 F' H σ δ' W Wt ∧ Ow K F' H v d Wt := by
  obtain ⟨F', q, o⟩ := h.toV p.ok p.dj p.lt e
  exact ⟨F', ⟨q.ok, q.dj, q.lt, p.ext.trans q.ext⟩, o⟩
theorem Post.toVs {Wt : Fp} (p : Post K F0 H0 W0 F H σ δ W Wt) {as : List A} {vs : List V} {ds : List D} (h : AsOk K F H σ vs as Wt) (e : toVs δ as = some (ds, δ')) : ∃ F', Post K F0 H0 W0 F' H σ δ' W Wt ∧ OwL K F' H vs ds Wt := by
  obtain ⟨F', q, o⟩ := h.toVs p.ok p.dj p.lt e
  exact ⟨F', ⟨q.ok, q.dj, q.lt, p.ext.trans q.ext⟩, o⟩
/-- what is handed on is shared from now on -/
theorem Post.share {Wt : Fp} (p : Post K F0 H0 W0 F H σ δ W Wt) : Post K F0 H0 W0 (fzH F H Wt) H σ δ W No := by
  have s := p.ok.sub
  refine ⟨⟨fzH_le s, p.ok.st.keep (fzH_sub s) fun b q o a f => ⟨a, by rw [fzH_out fun z => p.dj b z q]; exact f⟩, p.ok.lv⟩, fun _ q => q.elim, fun _ q => q.elim, ?_⟩
  refine ⟨p.ext.fsub.trans (fzH_sub s), fun b o e => ?_, p.ext.keep, p.ext.live, fun b q => p.ext.wnew b (.inr (q.elim False.elim id))⟩
  rcases fzH_new e with z | z
  · exact p.ext.fnew b o z
  · exact .inr (p.ext.wnew b (.inl z))
theorem Post.shareV {Wt : Fp} (p : Post K F0 H0 W0 F H σ δ W Wt) {v : V} {d : D} (o : Ow K F H v d Wt) : ∃ F', Post K F0 H0 W0 F' H σ δ W No ∧ Rp K F' v d.frz := ⟨_, p.share, o.share p.ok.sub fun _ q => q⟩
theorem Post.shareL {Wt : Fp} (p : Post K F0 H0 W0 F H σ δ W Wt) {vs : List V} {ds : List D} (o : OwL K F H vs ds Wt) : ∃ F', Post K F0 H0 W0 F' H σ δ W No ∧ RpL K F' vs (frzs ds) := ⟨_, p.share, o.share p.ok.sub fun _ q => q⟩
/-- what is handed on is dropped -/
theorem Post.drop {Wt : Fp} (p : Post K F0 H0 W0 F H σ δ W Wt) : Post K F0 H0 W0 F H σ δ W No := p.weakT fun _ q => q.elim
theorem Post.newW {Wt : Fp} (p : Post K F0 H0 W0 F H σ δ W Wt) {Wn : Fp} (n : New F H F' H' Wn) : Post K F0 H0 W0 F' H' σ δ W Wn := p.trans0 (.new p.ok n)
/-- .., and what was handed on before is kept -/
theorem Post.newT {Wt : Fp} (p : Post K F0 H0 W0 F H σ δ W Wt) {Wn : Fp} (n : New F H F' H' Wn) : Dj Wt (Un2 Wn W) ∧ Post K F0 H0 W0 F' H' σ δ W (Un2 Wt Wn) := p.keepT (.new p.ok n)

/-! ### places of the state -/
def LockEq (lock : List Nat) (σ σ' : L2.St) : Prop := ∀ i, lock.contains i = true → σ'[i]? = σ[i]?
theorem LockEq.refl {lock : List Nat} {σ : L2.St} : LockEq lock σ σ := fun _ _ => rfl
theorem LockEq.trans {lock : List Nat} {σ σ1 σ2 : L2.St} (a : LockEq lock σ σ1) (b : LockEq lock σ1 σ2) : LockEq lock σ σ2 := fun i h => (b i h).trans (a i h)
/-- off these places -/
def OffEq (is : List Nat) (σ σ' : L2.St) : Prop := σ'.length = σ.length ∧ ∀ i, i ∉ is → σ'[i]? = σ[i]?
theorem OffEq.refl {is : List Nat} {σ : L2.St} : OffEq is σ σ := ⟨rfl, fun _ _ => rfl⟩
theorem setN_some {lock : List Nat} {i : Nat} {d : D} (e : setN lock i d δ = some δ') : i < δ.length ∧ lock.contains i = false ∧ δ' = δ.set i (some d) := by
  unfold setN at e
  split at e
  · rename_i c
    cases e
    simp only [Bool.and_eq_true, decide_eq_true_eq, Bool.not_eq_true'] at c
    exact ⟨c.1, c.2, rfl⟩
  · cases e
/-- a slot is stored -/
theorem Post.put {Wt : Fp} (p : Post K F0 H0 W0 F H σ δ W Wt) {lock : List Nat} {i : Nat} {v : V} {d : D} {U : Fp} (o : Ow K F H v d U) (s : ∀ b, U b → Wt b) (e : setN lock i d δ = some δ') :
    Post K F0 H0 W0 F H (σ.set i (some v)) δ' (Un2 U W) No ∧ LockEq lock σ (σ.set i (some v)) ∧ OffEq [i] σ (σ.set i (some v)) := by
  obtain ⟨h1, h2, rfl⟩ := setN_some e
  refine ⟨⟨⟨p.ok.sub, p.ok.st.put h1 o (fun b q => p.dj b (s b q)) (fun b q => .inr q) fun b q => .inl q, fun b q => ?_⟩, fun _ q => q.elim, fun _ q => q.elim, p.ext.mono (fun _ q => q) fun b q => .inl ?_⟩, fun j hj => ?_, ?_, fun j hj => ?_⟩
  · rcases q with q | q
    · exact p.lt b (s b q)
    · exact p.ok.lv b q
  · rcases q with q | q | q
    · exact q.elim
    · exact .inl (s b q)
    · exact .inr q
  · rw [List.getElem?_set_ne]
    rintro rfl
    rw [h2] at hj
    cases hj
  · simp
  · rw [List.getElem?_set_ne]
    rintro rfl
    simp at hj
theorem OffEq.set {is : List Nat} {σ σ' : L2.St} {i : Nat} {x : Option V} (h : OffEq is (σ.set i x) σ') : OffEq (i :: is) σ σ' :=
  ⟨by rw [h.1, List.length_set], fun j hj => by
    simp only [List.mem_cons, not_or] at hj
    rw [h.2 j hj.2, List.getElem?_set_ne (fun e => hj.1 e.symm)]⟩
end

/-! ### contexts -/
def blts : List Str := ["len", "abs", "min", "max", "sum", "int", "list", "tuple", "sorted", "all", "any", "divmod", "range", "enumerate", "zip", "isinstance", "bool", "str", "dict", "set"]
/-- what is behind a call, of the places that were lent -/
inductive OutL (K : PySem.W.Frag) (F H : Hp) (io : List Nat) : Nat → List V → List D → Fp → Prop
  | nil {j : Nat} {W : Fp} : OutL K F H io j [] [] W
  | skip {j : Nat} {v : V} {vs : List V} {ds : List D} {W : Fp} : io.contains j = false → OutL K F H io (j + 1) vs ds W → OutL K F H io j (v :: vs) ds W
  | one {j : Nat} {v : V} {vs : List V} {d : D} {ds : List D} {W W1 W2 : Fp} : io.contains j = true → flatOwn d = true → Ow K F H v d W1 → OutL K F H io (j + 1) vs ds W2 → Dj W1 W2 → (∀ b, W1 b → W b) → (∀ b, W2 b → W b) → OutL K F H io j (v :: vs) (d :: ds) W
/-- the promise of a def -/
def spEv (K : PySem.W.Frag) (call : List D → Option (D × List D)) (io : List Nat) : List V → Hp → VK → Prop := fun vs H Q => ∃ (F : Hp) (W : Fp) (ds : List D) (r : D) (outs : List D), Same F H ∧ OwL K F H vs ds W ∧ (∀ b, W b → H b ≠ none) ∧ call ds = some (r, outs) ∧
  ∀ v F' H' Wr Wo, Ow K F' H' v r Wr → OutL K F' H' io 0 vs outs Wo → Dj Wr Wo → Same F' H' → (∀ b, Un2 Wr Wo b → H' b ≠ none) → Ext F H W F' H' (Un2 Wr Wo) → Q v H'
end Ev
namespace Ob
open PySem PySem.Spec PyProof.Rows L2 Ev
/-- such rows are taken -/
def InitOk (d : D) (rs : List D) : Prop := ∃ δ1 δ2, evS CI 99 initA [none, some d, none, none, none] = some (.nx δ1) ∧ evS CI 98 initB δ1 = some (.nx δ2) ∧ slot δ2 2 = some (.tup rs) ∧ fzs rs = true
def spInit (K : PySem.W.Frag) (C : Addr) : Sp := fun vs H Q _ => ∃ (F : Hp) (W : Fp) (x dx : Addr) (v : V) (d : D) (rs : List D), vs = [.ref x, v] ∧ Same F H ∧ Ow K F H v d W ∧ (∀ b, W b → H b ≠ none) ∧ InitOk d rs ∧ SlX.Slt H x C dx [] ∧ ¬ W x ∧ ¬ W dx ∧
  ∀ (F' H' : Hp) (W' : Fp) (t : Addr) (ws : List V), Ext F H W F' H' W' → Same F' H' → SqT K F' t ws → RpL K F' ws rs → Q .non (SlX.slH H' x C dx [some (.ref t)])
structure MadeOk (C0 : Ev.Ctx) (it : Nat) (ways : List (Str × Nat)) (rule items lap : D) (rs : List D) : Prop where
  ex : ∃ (w : Str) (f : Nat) (d : D) (δ1 δ2 δ3 : Dl), evS C0 99 (.asg (.nm 4) (.call it [.var 1])) [none, some rule, some items, some lap, none, none] = some (.nx δ1) ∧
    evE C0 97 (.sub (.var 4) (.int 0)) δ1 = some (.tmp (.str w), δ2) ∧ ways.lookup w = some f ∧ δ2[5]? = some none ∧
    evE C0 96 (.call f [(.bi .tuple1 [.var 2]), .var 3, .var 4]) δ2 = some (.tmp d, δ3) ∧ InitOk d rs
def spMade (K : PySem.W.Frag) (C : Addr) (C0 : Ev.Ctx) (it : Nat) (ways : List (Str × Nat)) : Sp := fun vs H Q _ => ∃ (F : Hp) (W : Fp) (v1 v2 v3 : V) (rule items lap : D) (rs : List D), vs = [.ref C, v1, v2, v3] ∧ Same F H ∧ OwL K F H [v1, v2, v3] [rule, items, lap] W ∧ (∀ b, W b → H b ≠ none) ∧ MadeOk C0 it ways rule items lap rs ∧
  ∀ (F' H' : Hp) (W' : Fp) (x dx t : Addr) (ws : List V), Ext F H W F' H' W' → Same F' H' → SqT K F' t ws → RpL K F' ws rs → fzs rs = true → SlX.Slt H' x C dx [some (.ref t)] → Q (.ref x) H'
/-- what a class of rows is in a program -/
structure ClsOk (P : Program) (w : World) (K : PySem.W.Frag) (mg : Str → Option Value) (base : Heap) (cn : Str) (C : Addr) (k : Nat) (C0 : Ev.Ctx) (it : Nat) (ways : List (Str × Nat)) : Prop where
  mgC : mg cn = some (.ref C)
  ex : ∃ (mc : Value) (pr g fi fl : Addr) (fd fdi fdl : FuncData), ClX.CRead K C mc ∧ ClX.CMet K C mc "made" pr g ∧ ItS K C fi fl ∧ FnOk P w K mg base CX0 k g fd ["cls", "rule", "items", "lap"] (spMade K C C0 it ways) ∧ Binds K fd ["cls", "rule", "items", "lap"] [] ∧
    FnOk P w K mg base CX0 k fi fdi ["self"] (spIt K C) ∧ Binds K fdi ["self"] [] ∧ FnOk P w K mg base CX0 k fl fdl ["self"] (spLn K C) ∧ Binds K fdl ["self"] []
end Ob
namespace Ev
open PySem PySem.Spec PyProof.Rows L2
abbrev permL {α : Type} (perm : List Nat) (d : α) (l : List α) : List α := perm.map fun i => l.getD i d
/-- such a call binds -/
def KwOk (K : PySem.W.Frag) (fd : FuncData) (ps : List Str) (p : KwP) : Prop := (∀ (s : Shared) (us ws : List Value), us.length = p.n → ws.length = p.ks.length → BindsTo s fd ⟨us, p.ks.zip ws⟩ (ps.zip (permL p.perm .none (us ++ ws)))) ∧ p.perm.Nodup ∧ ∀ i ∈ p.perm, i < p.n + p.ks.length
structure CallOk (X : Cx) (C : Ctx) (tab : List Str) (kt : Nat → List KwP) : Prop where
  fn : ∀ f g, tab[f]? = some g → notDbg g = true → ∀ ds r outs, C.call f ds = some (r, outs) → ∃ (a : Addr) (fd : FuncData) (ps : List Str) (sp : Sp) (k : Nat), X.mg g = some (.ref a) ∧ PySem.W.keepIn X.K (.ref a) = true ∧ Room k X.A ∧ FnOk X.prog X.w X.K X.mg X.base CX0 k a fd ps sp ∧ Binds X.K fd ps [] ∧ (∀ p ∈ kt f, KwOk X.K fd ps p) ∧
    ∀ vs H Q E, spEv X.K (C.call f) (C.io f) vs H Q → sp vs H Q E
/-- a constant of the module -/
def ConAt (K : PySem.W.Frag) (mg : Str → Option Value) (y : Str) (k : Kc) : Prop := ∃ u v, mg y = some u ∧ RelV v u ∧ ∀ F : Hp, Rp K F v k.toD
structure XOk (C : Ctx) (X : Cx) (c : Cxt) : Prop where
  hN : X.N = c.N
  nd : X.N.Nodup
  sc : X.env.scope = c.sc
  fn : X.fn = c.fn
  calm : X.calm = true
  kind : c.sc.kind = .function
  never : X.xe = fun _ _ => False
  units : X.A.units + 65 < cLine
  blt : ∀ b ∈ blts, X.mg b = none
  call : CallOk X C c.tab c.kt
  con : ∀ y k, c.gc.lookup y = some k → ConAt X.K X.mg y k
  vm : ∀ f cn, c.vm = some (f, cn) → (∀ ds, C.call f ds = none) ∨ ∃ (Ca : Addr) (kc it : Nat) (C0 : Ctx) (ways : List (Str × Nat)), Ob.ClsOk X.prog X.w X.K X.mg X.base cn Ca kc C0 it ways ∧ Room (kc + 4) X.A ∧ C.io f = [] ∧
    ∀ ds r outs, C.call f ds = some (r, outs) → ∃ rule items lap rs, ds = [rule, items, lap] ∧ r = .lst true rs ∧ outs = [] ∧ Ob.MadeOk C0 it ways rule items lap rs
theorem XOk.blk {C : Ctx} {X : Cx} {c : Cxt} (h : XOk C X c) {own : List (Str × Nat)} {scope : Scope} (b : blkC c.N c.sc scope own = true) (s : Shared) (H : Hp) (C' : Addr) (cl : List (Str × Addr)) (fp : List Addr) : XOk C (X.blk s H scope (compEnvC scope cl C' X.env) fp) (c.blk scope) where
  hN := h.hN
  nd := h.nd
  sc := by show relS scope X.env.scope = relS scope c.sc; rw [h.sc]
  fn := rfl
  calm := h.calm
  kind := (blkOk_by b).kind
  never := rfl
  units := h.units
  blt := h.blt
  call := ⟨h.call.fn⟩
  con := h.con
  vm := h.vm
section
variable {C : Ctx} {X : Cx} {c : Cxt}
theorem XOk.vis (h : XOk C X c) {x : Str} (e : visB c x = true) : Vis X.env.scope x := by
  unfold visB at e
  rw [h.sc]
  unfold Vis
  split at e
  · rename_i q; exact .inl q
  · rename_i q; exact .inr (.inl q)
  · rename_i q; exact .inr (.inr q)
  · cases e
theorem XOk.st (h : XOk C X c) {x : Str} (e : stB c x = true) : Loc X.env.scope x ∧ (X.fn x = true ∨ X.env.scope.names.lookup x = some .local) := by
  unfold stB at e
  unfold L2.Loc
  rw [h.sc]
  split at e
  · rename_i q; exact ⟨.inl q, .inr q⟩
  · rename_i q; exact ⟨.inr q, .inl (by rw [h.fn]; exact e)⟩
  · cases e
theorem XOk.lo (h : XOk C X c) {x : Str} (e : loB c x = true) : X.env.scope.names.lookup x = some .local := by
  unfold loB at e
  rw [h.sc]
  split at e
  · assumption
  · cases e
theorem XOk.gl (h : XOk C X c) {x : Str} (e : glB c x = true) : Gl X x := by
  unfold glB at e
  show X.env.scope.names.lookup x = some .globalImplicit
  rw [h.sc]
  split at e
  · assumption
  · cases e
theorem XOk.nm (h : XOk C X c) {i : Nat} {x : Str} (e : nmB c i x = true) : X.N[i]? = some x := by
  rw [h.hN]
  exact of_decide_eq_true e
theorem same_eq {x y : Str} (e : same x y = true) : x = y := of_decide_eq_true e
theorem notDbg_of {x : Str} (e : notDbg x = true) : (x == ("__debug__" : Str)) = false ∧ (x == ("__classdict__" : Str)) = false := by
  unfold notDbg at e
  simpa using e

/-! ### targets -/
def tWG (X : Cx) (tg : Expr) : TG := fun v σ H Q => ∀ pins s u, Inv X pins σ H s → RelV v u → wpAny (model X.prog X.w) X.A (assign tg X.env u) (fun _ s' => ∃ σ' H', Inv X pins σ' H' s' ∧ Q σ' H') X.xe s
theorem pg_tWG {tg : Expr} : PG X tg (tWG X tg) := ⟨fun pins s σ H v u Q I r h => h pins s u I r⟩
theorem tWG_of {tg : Expr} {g : TG} {v : V} {σ : L2.St} {H : Hp} {Q : L2.St → Hp → Prop} (h : PG X tg g) (q : g v σ H Q) : tWG X tg v σ H Q := fun pins s u I r => h.run pins s σ H v u Q I r q
def gNms : List Nat → TGs
  | [] => gNil
  | i :: is => gCons (gName i) (gNms is)
theorem nms_plain (env : Env) : ∀ {is : List Nat} {xs : List Expr}, mNms c is xs = true → (assignEach xs env).length = is.length ∧ (assignEach xs env).findIdx? (·.1) = none
  | [], [], _ => ⟨rfl, rfl⟩
  | [], _ :: _, e => by simp [mNms] at e
  | _ :: _, [], e => by simp [mNms] at e
  | i :: is, x :: xs, e => by
    simp only [mNms, Bool.and_eq_true] at e
    obtain ⟨h1, h2⟩ := nms_plain env e.2
    unfold mNm at e
    split at e
    · have q : ∀ n p, assignEach (.Name n p :: xs) env = (false, assign (.Name n p) env) :: assignEach xs env := fun n p => rfl
      rw [q]
      exact ⟨by rw [List.length_cons, h1]; rfl, by rw [List.findIdx?_cons]; simp [h2]⟩
    · simp at e
theorem pgs_nms (h : XOk C X c) : ∀ {is : List Nat} {xs : List Expr}, mNms c is xs = true → PGs X xs (gNms is)
  | [], [], _ => pgs_nil
  | [], _ :: _, e => by simp [mNms] at e
  | _ :: _, [], e => by simp [mNms] at e
  | i :: is, x :: xs, e => by
    simp only [mNms, Bool.and_eq_true] at e
    have t := pgs_nms h e.2
    have e1 := e.1
    unfold mNm at e1
    split at e1
    · rw [Bool.and_eq_true] at e1
      obtain ⟨l, f⟩ := h.st e1.2
      exact pgs_cons (pg_name h.nd (h.nm e1.1) l f) t rfl
    · cases e1
theorem nms_run {K : PySem.W.Frag} {F0 H0 F H : Hp} {W0 : Fp} {lock : List Nat} : ∀ {is : List Nat} {ds : List D} {vs : List V} {σ : L2.St} {δ δ' : Dl} {W Wt : Fp} {Q : L2.St → Hp → Prop}, Post K F0 H0 W0 F H σ δ W Wt → OwL K F H vs ds Wt → setNs lock is ds δ = some δ' →
    (∀ σ' W', Post K F0 H0 W0 F H σ' δ' W' No → LockEq lock σ σ' → OffEq is σ σ' → Q σ' H) → gNms is vs σ H Q
  | [], ds, vs, σ, δ, δ', W, Wt, Q, p, o, e, k => by
    cases ds with
    | nil =>
      cases o
      simp only [setNs, Option.some.injEq] at e
      subst e
      exact ⟨rfl, k _ _ p.drop .refl .refl⟩
    | cons d ds => simp [setNs] at e
  | i :: is, ds, vs, σ, δ, δ', W, Wt, Q, p, o, e, k => by
    cases ds with
    | nil => simp [setNs] at e
    | cons d ds =>
      unfold setNs at e
      split at e
      · rename_i δ1 e1
        cases o with
        | @cons v vs _ _ _ W1 W2 o1 o2 dj s1 s2 =>
          obtain ⟨q, lk, of⟩ := p.put o1 s1 e1
          refine ⟨v, vs, rfl, ?_⟩
          have p2 : Post K F0 H0 W0 F H (σ.set i (some v)) δ1 (Un2 W1 W) W2 := by
            refine ⟨q.ok, fun b z z2 => ?_, fun b z => p.lt b (s2 b z), p.ext.mono (fun _ q => q) fun b z => .inl ?_⟩
            · rcases z2 with z2 | z2
              · exact dj b z2 z
              · exact p.dj b (s2 b z) z2
            · rcases z with z | z | z
              · exact .inl (s2 b z)
              · exact .inl (s1 b z)
              · exact .inr z
          exact nms_run p2 o2 e fun σ' W' p' lk' of' => k σ' W' p' (lk.trans lk') of'.set
      · cases e
/-- a target is set -/
theorem tg_ok (h : XOk C X c) {t : Tg} {tx : Expr} {d : D} {v : V} {σ : L2.St} {F0 H0 F H : Hp} {δ δ' : Dl} {W0 W Wt : Fp} {lock : List Nat} {Q : L2.St → Hp → Prop} (m : mTg c t tx = true) (p : Post X.K F0 H0 W0 F H σ δ W Wt) (o : Ow X.K F H v d Wt) (e : setT lock t d δ = some δ')
    (k : ∀ σ' W', Post X.K F0 H0 W0 F H σ' δ' W' No → LockEq lock σ σ' → OffEq (tgIs t) σ σ' → Q σ' H) : tWG X tx v σ H Q := by
  cases t with
  | nm i =>
    simp only [mTg] at m
    unfold mNm at m
    split at m
    · rw [Bool.and_eq_true] at m
      obtain ⟨l, f⟩ := h.st m.2
      obtain ⟨q, lk, of⟩ := p.put o (fun _ q => q) (show setN lock i d δ = some δ' from e)
      exact tWG_of (pg_name h.nd (h.nm m.1) l f) (k _ _ q lk of)
    · cases m
  | tp is =>
    simp only [mTg] at m
    split at m
    · cases d with
      | tup ds =>
        simp only [setT] at e
        split at e
        · rename_i fz
          obtain ⟨a, xs, rfl, sq, r⟩ := Vw.tup ⟨_, o⟩
          obtain ⟨n1, n2⟩ := nms_plain X.env m
          have hl : xs.length = is.length := by
            have l1 := r.length
            have : ∀ {is : List Nat} {ds : List D} {δ δ' : Dl}, setNs lock is ds δ = some δ' → ds.length = is.length := by
              intro is
              induction is with
              | nil => intro ds δ δ' e; cases ds <;> simp_all [setNs]
              | cons i is ih =>
                intro ds δ δ' e
                cases ds with
                | nil => simp [setNs] at e
                | cons d ds =>
                  unfold setNs at e
                  split at e
                  · rw [List.length_cons, List.length_cons, ih e]
                  · cases e
            rw [l1, this e]
          refine tWG_of (pg_tup h.calm (pgs_nms h m) n1 n2) ⟨a, xs, rfl, sqt_mono p.ok.sub sq, hl, ?_⟩
          exact nms_run p.drop (.of r) e k
        · cases e
      | lst ol ds =>
        simp only [setT] at e
        split at e
        · rename_i fz
          obtain ⟨a, xs, rfl, h1, l1, r⟩ := Vw.lst p.ok.sub ⟨_, o⟩
          obtain ⟨n1, n2⟩ := nms_plain X.env m
          have hl : xs.length = is.length := by
            have : ∀ {is : List Nat} {ds : List D} {δ δ' : Dl}, setNs lock is ds δ = some δ' → ds.length = is.length := by
              intro is
              induction is with
              | nil => intro ds δ δ' e; cases ds <;> simp_all [setNs]
              | cons i is ih =>
                intro ds δ δ' e
                cases ds with
                | nil => simp [setNs] at e
                | cons d ds =>
                  unfold setNs at e
                  split at e
                  · rw [List.length_cons, List.length_cons, ih e]
                  · cases e
            rw [l1, this e]
          refine tWG_of (pg_lst h.calm (pgs_nms h m) n1 n2) ⟨a, xs, rfl, SqL.of h1, hl, ?_⟩
          exact nms_run p.drop (.of (r fz)) e k
        · cases e
      | _ => simp [setT] at e
    · cases m
end
end Ev

set_option linter.all false
set_option maxRecDepth 100000
set_option maxHeartbeats 1000000
/-! Ev: calls -/
namespace Ev
open PySem PySem.Spec PyProof.Rows L2
section
variable {K : PySem.W.Frag} {F F' H H' F0 H0 : Hp} {σ : L2.St}
inductive OwO (K : PySem.W.Frag) (F H : Hp) : List V → List (Option D) → Fp → Prop
  | nil {W : Fp} : OwO K F H [] [] W
  | skip {v : V} {vs : List V} {os : List (Option D)} {W : Fp} : OwO K F H vs os W → OwO K F H (v :: vs) (none :: os) W
  | one {v : V} {vs : List V} {d : D} {os : List (Option D)} {W W1 W2 : Fp} : Ow K F H v d W1 → OwO K F H vs os W2 → Dj W1 W2 → (∀ b, W1 b → W b) → (∀ b, W2 b → W b) → OwO K F H (v :: vs) (some d :: os) W
theorem OwO.weak {vs : List V} {os : List (Option D)} {W W' : Fp} (h : OwO K F H vs os W) (s : ∀ b, W b → W' b) : OwO K F H vs os W' := by
  induction h generalizing W' with
  | nil => exact .nil
  | skip _ ih => exact .skip (ih s)
  | one h1 h2 h3 h4 h5 _ => exact .one h1 h2 h3 (fun b q => s b (h4 b q)) fun b q => s b (h5 b q)
theorem OwO.grow (s : Same F F') : ∀ {vs : List V} {os : List (Option D)} {W : Fp}, OwO K F H vs os W → (∀ b, W b → F b = none → F' b = none) → OwO K F' H vs os W
  | _, _, _, .nil, _ => .nil
  | _, _, _, .skip h, k => .skip (OwO.grow s h k)
  | _, _, _, .one h1 h2 h3 h4 h5, k => .one (h1.keep s fun b q o a f => ⟨a, k b (h4 b q) f⟩) (OwO.grow s h2 fun b q => k b (h5 b q)) h3 h4 h5
theorem io_ok {io : List Nat} : ∀ {vs : List V} {as : List A} {j : Nat} {δ δm : Dl} {W Wt : Fp} {os : List (Option D)}, AsOk K F H σ vs as Wt → StL K F H σ δ W → ioOf io j as δ = some (os, δm) →
    ∃ U R, OwO K F H vs os U ∧ StL K F H σ δm R ∧ Dj U R ∧ (∀ b, U b → W b) ∧ (∀ b, R b → W b)
  | _, _, j, δ, δm, W, Wt, os, .nil, s, e => by
    simp only [ioOf, Option.some.injEq, Prod.mk.injEq] at e
    obtain ⟨rfl, rfl⟩ := e
    exact ⟨No, W, .nil, s, fun _ q => q.elim, fun _ q => q.elim, fun _ q => q⟩
  | _, _, j, δ, δm, W, Wt, os, .cons (v := v) (a := a) (as := as) h1 h2 h3 h4 h5, s, e => by
    unfold ioOf at e
    split at e
    · split at e
      · split at e
        · rename_i os' δ' e1
          cases e
          obtain ⟨U, R, o, t, dj, u, r⟩ := io_ok h2 s e1
          exact ⟨U, R, .skip o, t, dj, u, r⟩
        · cases e
      · rename_i i
        split at e
        · rename_i d e0
          split at e
          · rename_i os' δ' e1
            cases e
            obtain ⟨v', U1, R1, g, o1, s1, s2, dj1, t1, _⟩ := s.zip (slot_some e0)
            obtain ⟨U, R, o, t, dj, u, r⟩ := io_ok h2 t1 e1
            cases h1 with
            | @bor v0 _ _ _ _ g0 q =>
              rw [g] at g0
              cases g0
              cases q
              refine ⟨Un2 U1 U, R, .one o1 o (fun b z y => dj1 b z (u b y)) (fun b z => .inl z) (fun b z => .inr z), t, fun b z y => ?_, fun b z => ?_, fun b z => s2 b (r b z)⟩
              · rcases z with z | z
                · exact dj1 b z (r b y)
                · exact dj b z y
              · rcases z with z | z
                · exact s1 b z
                · exact s2 b (u b z)
          · cases e
        · cases e
      · cases e
    · split at e
      · rename_i os' δ' e1
        cases e
        obtain ⟨U, R, o, t, dj, u, r⟩ := io_ok h2 s e1
        exact ⟨U, R, .skip o, t, dj, u, r⟩
      · cases e
/-- only what the state owns is shared -/
theorem AOk.toV' {δ δ' : Dl} {W Wt : Fp} {v : V} {a : A} {d : D} (h : AOk K F H σ v a Wt) (s : SOk K F H σ δ W) (e : Ev.toV δ a = some (d, δ')) :
    ∃ F', SOk K F' H σ δ' W ∧ Ow K F' H v d Wt ∧ Same F F' ∧ ∀ b o, F' b = some o → F b = some o ∨ W b := by
  cases h with
  | tmp o =>
    simp only [Ev.toV, Option.some.injEq, Prod.mk.injEq] at e
    obtain ⟨rfl, rfl⟩ := e
    exact ⟨F, s, o, fun _ _ q => q, fun _ _ q => .inl q⟩
  | @bor v0 _ i p _ g q =>
    unfold Ev.toV at e
    simp only at e
    split at e
    · rename_i d1 δ1 e1 e2
      cases e
      unfold Ev.look at e1
      simp only at e1
      split at e1
      · rename_i d0 e0
        unfold upSlot at e2
        rw [e0] at e2
        simp only at e2
        split at e2
        · rename_i d0' e3
          cases e2
          obtain ⟨v0', U, R, g', o, s1, s2, du, sr, z⟩ := s.st.zip (slot_some e0)
          rw [g] at g'
          cases g'
          obtain ⟨F', v', q', f1, f2, f3, r, o'⟩ := o.shareAt s.sub e1 e3
          rw [q.uniq q']
          refine ⟨F', ⟨f2, ?_, s.lv⟩, .frz r, f1, fun b o e => (f3 b o e).imp id (s1 b)⟩
          refine z (U' := U) f1 o' (fun b w n o a f => ⟨a, ?_⟩) (fun b q => .inl q) (fun _ q => q) s1
          cases e : F' b with
          | none => rfl
          | some u =>
            rcases f3 b u e with t | t
            · rw [f] at t; cases t
            · exact absurd t n
        · cases e2
      · cases e1
    · cases e
theorem val_ok : ∀ {os : List (Option D)} {vs : List V} {as : List A} {F : Hp} {δ δ2 : Dl} {U Wt R : Fp} {ds : List D}, OwO K F H vs os U → AsOk K F H σ vs as Wt → SOk K F H σ δ R → Dj U R → Dj Wt R → Dj U Wt → (∀ b, Wt b → H b ≠ none) → valOf os as δ = some (ds, δ2) →
    ∃ F2, SOk K F2 H σ δ2 R ∧ OwL K F2 H vs ds (Un2 U Wt) ∧ Same F F2 ∧ ∀ b o, F2 b = some o → F b = some o ∨ R b
  | [], vs, as, F, δ, δ2, U, Wt, R, ds, ho, ha, s, d1, d2, d3, lt, e => by
    cases ho
    cases ha
    simp only [valOf, Option.some.injEq, Prod.mk.injEq] at e
    obtain ⟨rfl, rfl⟩ := e
    exact ⟨F, s, .nil, fun _ _ q => q, fun b o q => .inl q⟩
  | some d :: os, vs, as, F, δ, δ2, U, Wt, R, ds, ho, ha, s, d1, d2, d3, lt, e => by
    cases ho with
    | @one v vs _ _ _ W1 W2 o1 o2 dj s1 s2 =>
      cases ha with
      | @cons _ _ a as _ V1 V2 a1 a2 a3 a4 a5 =>
        unfold valOf at e
        split at e
        · rename_i ds' δ' e1
          cases e
          obtain ⟨F2, t, o, sm, nw⟩ := val_ok o2 a2 s (fun b q => d1 b (s2 b q)) (fun b q => d2 b (a5 b q)) (fun b q y => d3 b (s2 b q) (a5 b y)) (fun b q => lt b (a5 b q)) e1
          refine ⟨F2, t, .cons (W1 := W1) (o1.keep sm fun b q x y f => ⟨y, ?_⟩) o (fun b q y => ?_) (fun b q => .inl (s1 b q)) (fun b q => q.imp (s2 b) (a5 b)), sm, nw⟩
          · cases e2 : F2 b with
            | none => rfl
            | some u =>
              rcases nw b u e2 with z | z
              · rw [f] at z; cases z
              · exact absurd z (d1 b (s1 b q))
          · rcases y with y | y
            · exact dj b q y
            · exact d3 b (s1 b q) (a5 b y)
        · cases e
  | none :: os, vs, as, F, δ, δ2, U, Wt, R, ds, ho, ha, s, d1, d2, d3, lt, e => by
    cases ho with
    | @skip v vs _ _ o2 =>
      cases ha with
      | @cons _ _ a as _ V1 V2 a1 a2 a3 a4 a5 =>
        unfold valOf at e
        split at e
        · rename_i d δ1 e0
          split at e
          · rename_i ds' δ' e1
            cases e
            obtain ⟨F1, t1, ov, sm1, nw1⟩ := a1.toV' s e0
            have stay : ∀ b, ¬ R b → F b = none → F1 b = none := fun b n1 f => by
              cases e2 : F1 b with
              | none => rfl
              | some u =>
                rcases nw1 b u e2 with z | z
                · rw [f] at z; cases z
                · exact absurd z n1
            obtain ⟨F2, t, o, sm, nw⟩ := val_ok (o2.grow sm1 fun b q => stay b (d1 b q)) (a2.grow sm1 fun b q => stay b (d2 b (a5 b q))) t1 d1 (fun b q => d2 b (a5 b q)) (fun b q y => d3 b q (a5 b y)) (fun b q => lt b (a5 b q)) e1
            refine ⟨F2, t, .cons (W1 := V1) (ov.keep sm fun b q x y f => ⟨y, ?_⟩) o (fun b q y => ?_) (fun b q => .inr (a4 b q)) (fun b q => q.imp id (a5 b)), sm1.trans sm, fun b u q => ?_⟩
            · cases e2 : F2 b with
              | none => rfl
              | some u =>
                rcases nw b u e2 with z | z
                · rw [f] at z; cases z
                · exact absurd z (d2 b (a4 b q))
            · rcases y with y | y
              · exact d3 b y (a4 b q)
              · exact a3 b q y
            · rcases nw b u q with z | z
              · exact nw1 b u z
              · exact .inr z
          · cases e
        · cases e
theorem atom_rp {v : V} {d : D} {W : Fp} (h : Ow K F H v d W) (e : isAtom d = true) : Rp K F' v d := by
  cases h with
  | frz r =>
    cases r with
    | non => exact .non
    | bl b => exact .bl b
    | int i => exact .int i
    | str x => exact .str x
    | _ => simp [isAtom] at e
  | own _ _ _ _ _ _ => simp [isAtom] at e
theorem flat_own {v : V} {d : D} {W : Fp} (h : Ow K F' H v d W) (e : flatOwn d = true) (s : Same F F') : Ow K F H v d W := by
  have none' : ∀ b, F' b = none → F b = none := fun b q => by
    cases e : F b with
    | none => rfl
    | some u => rw [s b u e] at q; cases q
  cases h with
  | frz r => cases r <;> simp [flatOwn] at e
  | @own a vs ds _ U h1 h2 h3 h4 h5 h6 =>
    simp only [flatOwn] at e
    refine .own (U := No) h1 (none' _ h2) h3 ?_ (fun q => q) fun _ q => q.elim
    have : ∀ {vs : List V} {ds : List D} {U : Fp}, OwL K F' H vs ds U → flats ds = true → RpL K F vs ds := by
      intro vs ds U o
      induction ds generalizing vs U with
      | nil => intro _; cases o; exact .nil
      | cons d ds ih =>
        intro e
        cases o with
        | cons o1 o2 _ _ _ =>
          simp only [flats, Bool.and_eq_true] at e
          exact .cons (atom_rp o1 (by cases d <;> simp [D.flat] at e <;> rfl)) (ih o2 e.2)
    exact .of (this h4 e)
/-- what was lent comes back -/
theorem back_ok {Fe : Hp} (sf : Same Fe F) {io : List Nat} : ∀ {vs : List V} {as : List A} {j : Nat} {outs : List D} {δ : Dl} {W Wo : Fp} {F1 H1 : Hp} {Wt : Fp}, AsOk K F1 H1 σ vs as Wt → OutL K F H io j vs outs Wo → StL K Fe H σ δ W → Dj Wo W → (∃ δ0 r, ioOf io j as δ0 = some r) →
    StL K Fe H σ (backOf io j as outs δ) (Un2 Wo W)
  | _, _, j, outs, δ, W, Wo, F1, H1, Wt, .nil, o, s, dj, _ => by
    unfold backOf
    exact s.weak fun b q => .inr q
  | _, _, j, outs, δ, W, Wo, F1, H1, Wt, .cons (v := v) (a := a) (as := as) h1 h2 h3 h4 h5, o, s, dj, hp => by
    obtain ⟨δ0, r, hp⟩ := hp
    unfold backOf
    unfold ioOf at hp
    cases o with
    | skip hj o' =>
      rw [hj] at hp ⊢
      simp only at hp ⊢
      split at hp
      · rename_i os δ' e
        exact back_ok sf h2 o' s dj ⟨_, _, e⟩
      · cases hp
    | @one _ _ _ d ds _ W1 W2 hj fo ov o' dw s1 s2 =>
      rw [hj] at hp ⊢
      simp only at hp ⊢
      cases h1 with
      | tmp _ =>
        simp only at hp ⊢
        split at hp
        · rename_i os δ' e
          exact (back_ok sf h2 o' s (fun b q => dj b (s2 b q)) ⟨_, _, e⟩).weak fun b q => q.imp (s2 b) id
        · cases hp
      | @bor v0 _ i p _ g q =>
        cases p with
        | nil =>
          cases q
          simp only at hp ⊢
          split at hp
          · split at hp
            · rename_i os δ' e
              have t := s.back g (flat_own ov fo sf) (fun b z => dj b (s1 b z)) (W' := Un2 W1 W) (fun b z => .inr z) fun b z => .inl z
              refine (back_ok sf h2 o' t (fun b z y => ?_) ⟨_, _, e⟩).weak fun b z => ?_
              · rcases y with y | y
                · exact dw b y z
                · exact dj b (s2 b z) y
              · rcases z with z | z | z
                · exact .inl (s2 b z)
                · exact .inl (s1 b z)
                · exact .inr z
            · cases hp
          · cases hp
        | cons k p => simp at hp
theorem Same.none' (s : Same F F') {b : Addr} (q : F' b = none) : F b = none := by
  cases e : F b with
  | none => rfl
  | some u => rw [s b u e] at q; cases q
/-- a call -/
theorem call_ok {C : Ctx} {f : Nat} {vs : List V} {as : List A} {δ δ' : Dl} {W0 W Wt : Fp} {a : A} {Q : VK} (p : Post K F0 H0 W0 F H σ δ W Wt) (ha : AsOk K F H σ vs as Wt) (e : callD C f as δ = some (a, δ'))
    (k : ∀ v F' H' W' Wt', Post K F0 H0 W0 F' H' σ δ' W' Wt' → AOk K F' H' σ v a Wt' → Q v H') : (∃ ds r outs, C.call f ds = some (r, outs)) ∧ spEv K (C.call f) (C.io f) vs H Q := by
  unfold callD at e
  split at e
  · rename_i os δm e1
    split at e
    · rename_i ds δ2 e2
      split at e
      · rename_i r outs e3
        cases e
        obtain ⟨U, R, o, t, dj, u, rr⟩ := io_ok ha p.ok.st e1
        obtain ⟨F2, s2, ol, sm, nw⟩ := val_ok o ha ⟨p.ok.sub, t, fun b q => p.ok.lv b (rr b q)⟩ dj (fun b q y => p.dj b q (rr b y)) (fun b q y => p.dj b y (u b q)) p.lt e2
        refine ⟨⟨_, _, _, e3⟩, F2, Un2 U Wt, ds, r, outs, s2.sub, ol, fun b q => ?_, e3, fun v F' H' Wr Wo ov oo dw sb lv ext => ?_⟩
        · rcases q with q | q
          · exact p.ok.lv b (u b q)
          · exact p.lt b q
        have dR : Dj R (Un2 U Wt) := fun b q y => by
          rcases y with y | y
          · exact dj b y q
          · exact p.dj b y (rr b q)
        have dRo : Dj R (Un2 Wr Wo) := ext.dj dR fun b q => p.ok.lv b (rr b q)
        have live : ∀ b, H' b = none → H b = none := ext.live
        have inW : ∀ b, Un2 U Wt b → Un2 Wt W b := fun b q => q.elim (fun q => .inr (u b q)) .inl
        have nR : ∀ b, R b → H' b ≠ none := fun b q z => p.ok.lv b (rr b q) (live b z)
        by_cases hr : isAtom r = true
        · rw [if_pos hr] at k
          have sFF : Same F F' := sm.trans ext.fsub
          have st0 : StL K F H' σ δm R := t.keep (fun _ _ q => q) fun b q o a f => by
            refine ⟨?_, f⟩
            cases e : F2 b with
            | some z =>
              have h1 := s2.sub b z e
              rw [a] at h1
              cases h1
              exact sb _ _ (ext.fsub _ _ e)
            | none => exact ext.keep b o a (dR b q)
          have st1 := back_ok sFF ha oo st0 (fun b q y => dRo b y (.inr q)) ⟨_, _, e1⟩
          refine k v F H' (Un2 Wo R) No ⟨⟨sFF.trans sb, st1, fun b q => ?_⟩, fun _ q => q.elim, fun _ q => q.elim, ?_⟩ (.tmp (.frz (atom_rp ov hr)))
          · rcases q with q | q
            · exact lv b (.inr q)
            · exact nR b q
          · refine p.ext.trans ⟨fun _ _ q => q, fun b o q => .inl q, fun b o q n => ext.keep b o q fun z => n (inW b z), live, fun b q => ?_⟩
            rcases q with q | q | q
            · exact q.elim
            · exact (ext.wnew b (.inr q)).imp (inW b) id
            · exact .inl (.inr (rr b q))
        · rw [if_neg hr] at k
          have st0 : StL K F' H' σ δ2 R := s2.st.keep ext.fsub (ext.apart dR)
          have st1 := back_ok (fun _ _ q => q) ha oo st0 (fun b q y => dRo b y (.inr q)) ⟨_, _, e1⟩
          refine k v F' H' (Un2 Wo R) Wr ⟨⟨sb, st1, fun b q => ?_⟩, fun b q y => ?_, fun b q => lv b (.inl q), ?_⟩ (.tmp ov)
          · rcases q with q | q
            · exact lv b (.inr q)
            · exact nR b q
          · rcases y with y | y
            · exact dw b q y
            · exact dRo b y (.inl q)
          · refine p.ext.trans ⟨sm.trans ext.fsub, fun b o q => ?_, fun b o q n => ext.keep b o q fun z => n (inW b z), live, fun b q => ?_⟩
            · rcases ext.fnew b o q with z | z | z
              · exact (nw b o z).imp id fun y => .inl (.inr (rr b y))
              · exact .inr (.inl (inW b z))
              · exact .inr (.inr z)
            · rcases q with q | q | q
              · exact (ext.wnew b (.inl q)).imp (inW b) id
              · exact (ext.wnew b (.inr q)).imp (inW b) id
              · exact .inl (.inr (rr b q))
      · cases e
    · cases e
  · cases e
end
end Ev

set_option Elab.async false
set_option linter.all false
set_option maxRecDepth 100000
set_option maxHeartbeats 4000000
/-! OD: list(C.made(rule, items, lap)) -/
namespace Ob
open PySem PySem.Spec PyProof.Rows L2 Ev
theorem few_ok {xs : List Expr} (env : Env) (pos : Pos) (h : noStar xs = true) (l : xs.length < 20) : ((backTo pos (starEach xs env)).all (fun x => !x.1) && (backToKw pos (keywordEach [] env)).all (fun x => x.1.isSome)
      && decide (xs.length + ([] : List Keyword).length + (if ([] : List Keyword).isEmpty then 0 else 1) < 30)) = true := by
  have h1 : (backTo pos (starEach xs env)).all (fun x => !x.1) = true := by
    have := star_plain env pos h
    rw [List.any_eq_false] at this
    rw [List.all_eq_true]
    intro y hy
    have := this y hy
    simpa using this
  rw [h1]
  have h2 : (backToKw pos (keywordEach [] env)).all (fun x => x.1.isSome) = true := rfl
  rw [h2]
  simp
  omega
section
variable {X : Cx} {C : Addr} {σ : L2.St} {H : Hp} {Q : VK}
/-- a def's name as a value -/
theorem pe_def {g : Addr} {x : Str} {p : Pos} (hg : Gl X x) (hm : X.mg x = some (.ref g)) (hd : (x == ("__debug__" : Str)) = false := by decide) : PE X (.Name x p) (fun _ H Q => Q (.ref g) H) :=
  ⟨fun pins s σ H Q I h => ld_glob I hg hm ⟨.ref g, H, I, rfl, h⟩ hd⟩
theorem cm_eq {o : Str} {m : Str} {q1 q2 q3 : Pos} {xs : List Expr} {env : Env} (hn : (q2.endLine == q3.line) = true) (ns : noStar xs = true) (l : xs.length < 20) : eval (.Call (.Attribute (.Name o q1) m q2) xs [] q3) env = (do
      let ov ← eval (.Name o q1) env
      standAt q2.atName
      let (f, first) ← holding [ov] (getMethod ov m (do return (← importBound (.Name o q1) env).getD true))
      callWith q3 f first (backTo q3 (starEach xs env)) (backToKw q3 (keywordEach [] env))) := by
  have hform : methodCallForm (xs.length + ([] : List Keyword).length) (backTo q3 (starEach xs env)) (backToKw q3 (keywordEach [] env)) = true := few_ok env q3 ns l
  rw [arm_eval_Call]
  unfold methodCall calleeOf methodCallPos
  simp only [hform, hn, if_true, Bool.not_true, Bool.or_true]
  rfl
theorem made_list {cn : Str} {k it : Nat} {C0 : Ev.Ctx} {ways : List (Str × Nat)} {y : Expr} {ys : List Expr} {q0 q1 q2 q3 q4 : Pos} {vf : List D → Option (D × List D)} (hv : ∀ ds r outs, vf ds = some (r, outs) → ∃ rule items lap rs, ds = [rule, items, lap] ∧ r = .lst true rs ∧ outs = [] ∧ MadeOk C0 it ways rule items lap rs)
    (O : ClsOk X.prog X.w X.K X.mg X.base cn C k C0 it ways) (hcalm : X.calm = true) (hr : Room (k + 4) X.A) (gl : Gl X "list") (ml : X.mg "list" = none) (gc : Gl X cn) (hd : (cn == ("__debug__" : Str)) = false) (ns : noStar (y :: ys) = true) (ne : (q2.endLine == q3.line) = true)
    (hl20 : (y :: ys).length < 20)
    (go : nestA X (y :: ys) σ H fun vs H1 => spEv X.K vf [] vs H1 Q) : tW X (.Call (.Name "list" q0) [.Call (.Attribute (.Name cn q1) "made" q2) (y :: ys) [] q3] [] q4) σ H Q := by
  obtain ⟨mc, pr, g, fi, fl, fd, fdi, fdl, c1, c2, c3, F1, b1, F2, b2, F3, b3⟩ := O.ex
  have F1r := F1.raw b1 (.nil : Vals [] [])
  have F2r : FnR X.prog X.w X.K X.mg X.base CX0 k fi (spIt X.K C) := by have := F2.raw b2 (.nil : Vals [] []); simpa only [List.append_nil] using this
  have F3r : FnR X.prog X.w X.K X.mg X.base CX0 k fl (spLn X.K C) := by have := F3.raw b3 (.nil : Vals [] []); simpa only [List.append_nil] using this
  refine tW_of (pe_callTy (call_listOb hcalm c3 F2r F3r hr) gl ml (by decide +kernel) (pa_cons (ClX.pe_cmeth (pe_def gc O.mgC hd) c1 c2 F1r (hr.mono (by omega)) pass0 (pa_nest ns) (star_cons _ ns) (star_plain _ _ (noStar_tail ns)) (cm_eq ne ns hl20)) pa_nil) (by decide) (by decide +kernel)) ?_
  refine ⟨rfl, nestA_mono go fun vs H1 h => ?_⟩
  obtain ⟨G, W, ds, r, outs, sb, ow, lv, e, cont⟩ := h
  obtain ⟨rule, items, lap, rs, rfl, rfl, rfl, mok⟩ := hv _ _ _ e
  cases ow with
  | @cons v1 _ _ _ _ _ _ o1 ow1 d1 u1 u1' =>
  cases ow1 with
  | @cons v2 _ _ _ _ _ _ o2 ow2 d2 u2 u2' =>
  cases ow2 with
  | @cons v3 _ _ _ _ _ _ o3 ow3 d3 u3 u3' =>
  cases ow3
  refine ⟨G, W, v1, v2, v3, rule, items, lap, rs, rfl, sb, .cons o1 (.cons o2 (.cons o3 .nil d3 u3 u3') d2 u2 u2') d1 u1 u1', lv, mok, fun F' H' W' x dx t ws ext sub ht hr' fz hs => ⟨x, dx, t, ws, rfl, hs, sqt_mono sub ht, fun q hq => ?_⟩⟩
  have fq : F' q = none := by
    cases e : F' q with
    | none => rfl
    | some o => have := sub _ _ e; rw [hq] at this; cases this
  have sub2 : Same F' (upd H' q (.lst ws)) := fun b o e => by rw [upd_ne (fun z => by rw [z, fq] at e; cases e)]; exact sub _ _ e
  have hq1 := ext.live q hq
  refine cont (.ref q) F' (upd H' q (.lst ws)) (fun b => b = q) No (.own upd_same fq rfl (OwL.of (W := No) hr') (fun z => z.elim) fun _ z => z.elim) (.skip rfl (.skip rfl (.skip rfl .nil))) (fun _ _ z => z.elim) sub2 (fun b z => ?_) ⟨ext.fsub, ext.fnew, fun b o e n => ?_, fun b e => ?_, fun b z => ?_⟩
  · rcases z with z | z
    · rw [z, upd_same]; exact fun h => by cases h
    · exact z.elim
  · rw [upd_ne (fun z => by rw [z, hq1] at e; cases e)]
    exact ext.keep b o e n
  · by_cases hb : b = q
    · rw [hb]; exact hq1
    · rw [upd_ne hb] at e
      exact ext.live b e
  · rcases z with z | z
    · rw [z]; exact .inr hq1
    · exact z.elim
end
end Ob

set_option linter.all false
set_option maxRecDepth 100000
set_option maxHeartbeats 4000000
/-! Ev: expressions are sound -/
namespace Ev
open PySem PySem.Spec PyProof.Rows L2
/-! ### what is to be shown, by fuel -/
abbrev HandsOn (X : Cx) (F H : Hp) (W : Fp) (σ : L2.St) (δ' : Dl) (a : A) (Q : VK) : Prop := ∀ v F' H' W' Wt, Post X.K F H W F' H' σ δ' W' Wt → AOk X.K F' H' σ v a Wt → Q v H'
abbrev HandsAll (X : Cx) (F H : Hp) (W : Fp) (σ : L2.St) (δ' : Dl) (as : List A) (Q : List V → Hp → Prop) : Prop := ∀ vs F' H' W' Wt, Post X.K F H W F' H' σ δ' W' Wt → AsOk X.K F' H' σ vs as Wt → Q vs H'
abbrev HandsD (X : Cx) (F H : Hp) (W : Fp) (σ : L2.St) (δ' : Dl) (d : D) (Q : VK) : Prop := ∀ v F' H' W' Wt, Post X.K F H W F' H' σ δ' W' Wt → Ow X.K F' H' v d Wt → Q v H'
abbrev Tells (X : Cx) (F H : Hp) (W : Fp) (σ : L2.St) (δ' : Dl) (b : Bool) (Q : Bool → Hp → Prop) : Prop := ∀ F' H' W', Post X.K F H W F' H' σ δ' W' No → Q b H'
def SE (C : Ctx) (n : Nat) : Prop := ∀ {X : Cx} {c : Cxt}, XOk C X c → ∀ {m : Nat} {e : E} {x : Expr} {σ : L2.St} {δ : Dl} {F H : Hp} {W : Fp} {a : A} {δ' : Dl} {Q : VK}, mE m c e x = true → SOk X.K F H σ δ W → evE C n e δ = some (a, δ') → HandsOn X F H W σ δ' a Q → tW X x σ H Q
def SV (C : Ctx) (n : Nat) : Prop := ∀ {X : Cx} {c : Cxt}, XOk C X c → ∀ {m : Nat} {e : E} {x : Expr} {σ : L2.St} {δ : Dl} {F H : Hp} {W : Fp} {d : D} {δ' : Dl} {Q : VK}, mE m c e x = true → SOk X.K F H σ δ W → evV C n e δ = some (d, δ') → HandsD X F H W σ δ' d Q → tW X x σ H Q
def SAs (C : Ctx) (n : Nat) : Prop := ∀ {X : Cx} {c : Cxt}, XOk C X c → ∀ {m : Nat} {es : List E} {xs : List Expr} {σ : L2.St} {δ : Dl} {F H : Hp} {W : Fp} {as : List A} {δ' : Dl} {Q : List V → Hp → Prop}, mEs m c es xs = true → SOk X.K F H σ δ W → evAs C n es δ = some (as, δ') → HandsAll X F H W σ δ' as Q → nestA X xs σ H Q
def ST (C : Ctx) (n : Nat) : Prop := ∀ {X : Cx} {c : Cxt}, XOk C X c → ∀ {m : Nat} {e : E} {x : Expr} {σ : L2.St} {δ : Dl} {F H : Hp} {W : Fp} {b : Bool} {δ' : Dl} {Q : Bool → Hp → Prop}, mT m c e x = true → SOk X.K F H σ δ W → evT C n e δ = some (b, δ') → Tells X F H W σ δ' b Q → tWT X x σ H Q
def SAnd (C : Ctx) (n : Nat) : Prop := ∀ {X : Cx} {c : Cxt}, XOk C X c → ∀ {m : Nat} {es : List E} {xs : List Expr} {pos : Pos} {σ : L2.St} {δ : Dl} {F H : Hp} {W : Fp} {a : A} {δ' : Dl} {Q : VK}, mEs m c es xs = true → SOk X.K F H σ δ W → evAnd C n es δ = some (a, δ') → HandsOn X F H W σ δ' a Q → tW X (.BoolOp .And xs pos) σ H Q
def SOr (C : Ctx) (n : Nat) : Prop := ∀ {X : Cx} {c : Cxt}, XOk C X c → ∀ {m : Nat} {es : List E} {xs : List Expr} {pos : Pos} {σ : L2.St} {δ : Dl} {F H : Hp} {W : Fp} {a : A} {δ' : Dl} {Q : VK}, mEs m c es xs = true → SOk X.K F H σ δ W → evOr C n es δ = some (a, δ') → HandsOn X F H W σ δ' a Q → tW X (.BoolOp .Or xs pos) σ H Q
def tWW (X : Cx) (x : Expr) : TT := fun σ H Q => ∀ wh pins s, Inv X pins σ H s → wpAny (model X.prog X.w) X.A (isTrue x X.env wh) (TP X pins σ Q) X.xe s
theorem pw_tWW {X : Cx} {x : Expr} : PW X x (tWW X x) := ⟨fun wh pins s σ H Q I h => h wh pins s I⟩
theorem tWW_of {X : Cx} {x : Expr} {t : TT} {σ : L2.St} {H : Hp} {Q : Bool → Hp → Prop} (h : PW X x t) (q : t σ H Q) : tWW X x σ H Q := fun wh pins s I => h.run wh pins s σ H Q I q
def STAnd (C : Ctx) (n : Nat) : Prop := ∀ {X : Cx} {c : Cxt}, XOk C X c → ∀ {m : Nat} {es : List E} {xs : List Expr} {pos : Pos} {σ : L2.St} {δ : Dl} {F H : Hp} {W : Fp} {b : Bool} {δ' : Dl} {Q : Bool → Hp → Prop}, mTs m c es xs = true → SOk X.K F H σ δ W → evTAnd C n es δ = some (b, δ') → Tells X F H W σ δ' b Q → tWW X (.BoolOp .And xs pos) σ H Q
def STOr (C : Ctx) (n : Nat) : Prop := ∀ {X : Cx} {c : Cxt}, XOk C X c → ∀ {m : Nat} {es : List E} {xs : List Expr} {pos : Pos} {σ : L2.St} {δ : Dl} {F H : Hp} {W : Fp} {b : Bool} {δ' : Dl} {Q : Bool → Hp → Prop}, mTs m c es xs = true → SOk X.K F H σ δ W → evTOr C n es δ = some (b, δ') → Tells X F H W σ δ' b Q → tWW X (.BoolOp .Or xs pos) σ H Q
def SIt (C : Ctx) (n : Nat) : Prop := ∀ {X : Cx} {c : Cxt}, XOk C X c → ∀ {m : Nat} {t : Expr} {k : ItK} {es : List E} {x : Expr} {σ : L2.St} {δ : Dl} {F H : Hp} {W : Fp} {ds : List D} {δ' : Dl} {R : It → Hp → Prop}, mI m c t k es x = true → SOk X.K F H σ δ W → evIt C n k es δ = some (ds, δ') →
  (∀ F' H' W' J, Post X.K F H W F' H' σ δ' W' No → WkD X.K F' J ds → R J H') → tWI X t x σ H R

section
variable {C : Ctx} {X : Cx} {c : Cxt} {n m : Nat} {σ : L2.St} {δ δ' : Dl} {F H : Hp} {W : Fp} {a : A} {Q : VK}
theorem HandsOn.goes {d : D} (k : HandsOn X F H W σ δ' (.tmp d) Q) {F' H' : Hp} {W' Wt : Fp} (p : Post X.K F H W F' H' σ δ' W' Wt) : Goes X F' H' d Q := fun v F2 H2 Wn o nw => k v F2 H2 W' Wn (p.newW nw) (.tmp o)
theorem HandsOn.atom {d : D} (k : HandsOn X F H W σ δ' (.tmp d) Q) {F' H' : Hp} {W' Wt : Fp} (p : Post X.K F H W F' H' σ δ' W' Wt) {v : V} (r : Rp X.K F' v d) : Q v H' := k v F' H' W' No p.drop (.tmp (.frz r))
theorem nest1 {l : Expr} {R : V → Hp → Prop} (h : nestA X [l] σ H fun vs H1 => ∀ x, vs = [x] → R x H1) : tW X l σ H R := tW_mono h fun x H1 q => q x rfl
theorem nest2 {l r : Expr} {R : V → V → Hp → Prop} (h : nestA X [l, r] σ H fun vs H2 => ∀ x y, vs = [x, y] → R x y H2) : tW X l σ H fun x H1 => tW X r σ H1 fun y H2 => R x y H2 := tW_mono h fun x H1 q => tW_mono q fun y H2 z => z x y rfl
theorem nest3 {l r t : Expr} {R : V → V → V → Hp → Prop} (h : nestA X [l, r, t] σ H fun vs H2 => ∀ x y z, vs = [x, y, z] → R x y z H2) : tW X l σ H fun x H1 => tW X r σ H1 fun y H2 => tW X t σ H2 fun z H3 => R x y z H3 := tW_mono h fun x H1 q => tW_mono q fun y H2 q => tW_mono q fun z H3 q => q x y z rfl
theorem opB_eq {op : Op} {o : Operator} (h : opB op o = true) : opO op = o := of_decide_eq_true h
theorem copB_eq {op : Cop} {o : CmpOp} (h : copB op o = true) : copO op = o := of_decide_eq_true h
theorem noSet {o : CmpOp} {r : Expr} (h : isSetE r = false) : behindInMarks o r = false := by
  cases r <;> first | rfl | simp [isSetE] at h

theorem SAs.one (ih : SAs C n) (ok : XOk C X c) {e : E} {x : Expr} {as : List A} {R : V → Hp → Prop} {m : Nat} (hm : mEs m c [e] [x] = true) (s : SOk X.K F H σ δ W) (he : evAs C n [e] δ = some (as, δ'))
    (k : ∀ v F' H' W' Wt, Post X.K F H W F' H' σ δ' W' Wt → AsOk X.K F' H' σ [v] as Wt → R v H') : tW X x σ H R :=
  nest1 (ih ok hm s he fun vs F' H' W' Wt p h => by rintro x rfl; exact k _ _ _ _ _ p h)
theorem SAs.two (ih : SAs C n) (ok : XOk C X c) {e1 e2 : E} {x1 x2 : Expr} {as : List A} {R : V → V → Hp → Prop} {m : Nat} (hm : mEs m c [e1, e2] [x1, x2] = true) (s : SOk X.K F H σ δ W) (he : evAs C n [e1, e2] δ = some (as, δ'))
    (k : ∀ v w F' H' W' Wt, Post X.K F H W F' H' σ δ' W' Wt → AsOk X.K F' H' σ [v, w] as Wt → R v w H') : tW X x1 σ H fun x H1 => tW X x2 σ H1 fun y H2 => R x y H2 :=
  nest2 (ih ok hm s he fun vs F' H' W' Wt p h => by rintro x y rfl; exact k _ _ _ _ _ _ p h)
/-- the cases of one expression -/
theorem e_bin (ih : SAs C n) (ok : XOk C X c) {op : Op} {e1 e2 : E} {x : Expr} (hm : mE (m + 1) c (.bin op e1 e2) x = true) (s : SOk X.K F H σ δ W) (he : evE C (n + 1) (.bin op e1 e2) δ = some (a, δ')) (k : HandsOn X F H W σ δ' a Q) : tW X x σ H Q := by
  unfold mE at hm
  simp only at hm
  split at hm
  · rw [Bool.and_eq_true] at hm
    unfold evE at he
    simp only at he
    split at he
    · rename_i as δ1 e1
      split at he
      · rename_i d0 d1 e2
        split at he
        · rename_i d e3
          cases he
          cases opB_eq hm.1
          refine tW_of (pe_op op_rW pe_tW pe_tW) (SAs.two ih ok hm.2 s e1 fun v w F' H' W' Wt p h => ?_)
          obtain ⟨x, y, ex, hx, hy⟩ := (h.looks p.ok e2).two
          cases ex
          exact bin_ok p.ok.sub e3 hx hy (k.goes p)
        · split at he
          · rename_i d2 d3 δ2 e4
            split at he
            · rename_i d e5
              cases he
              cases opB_eq hm.1
              refine tW_of (pe_op op_rW pe_tW pe_tW) (SAs.two ih ok hm.2 s e1 fun v w F' H' W' Wt p h => ?_)
              obtain ⟨F2, q, o⟩ := p.toVs h e4
              obtain ⟨F3, q3, r⟩ := q.shareL o
              simp only [frzs] at r
              cases r with
              | cons r1 r2 =>
                cases r2 with
                | cons r2 _ => exact bin_ok q3.ok.sub e5 ⟨No, .frz r1⟩ ⟨No, .frz r2⟩ (k.goes q3)
            · cases he
          · cases he
      · cases he
    · cases he
  · cases hm
theorem PathTo.snoc : ∀ {p : List Nat} {v0 v v1 : V} {a : Addr} {vs : List V} {j : Nat}, PathTo H v0 p v → v = .ref a → H a = some (.lst vs) → vs[j]? = some v1 → PathTo H v0 (p ++ [j]) v1
  | [], v0, v, v1, a, vs, j, q, e, h, g => by
    cases q
    exact ⟨a, vs, v1, e, h, g, rfl⟩
  | k :: p, v0, v, v1, a, vs, j, ⟨a', vs', v', e', h', g', q⟩, e, h, g => ⟨a', vs', v', e', h', g', PathTo.snoc q e h g⟩
/-- a list of what was handed on -/
theorem Ow.listO {K : PySem.W.Frag} {p : Addr} {vs : List V} {ds : List D} {U : Fp} (s : Same F H) (h : H p = none) (o : OwL K F H vs ds U) (lt : ∀ b, U b → H b ≠ none) : Ow K F (upd H p (.lst vs)) (.ref p) (.lst true ds) (Un2 U (At p)) := by
  have np : ∀ b, U b → b ≠ p := fun b q e => lt b q (by rw [e]; exact h)
  refine .own (U := U) upd_same ?_ (.inr rfl) (o.keep (fun _ _ q => q) fun b q z a f => ⟨by rw [upd_ne (np b q)]; exact a, f⟩) (fun q => np p q rfl) fun b q => .inl q
  cases e : F p with
  | none => rfl
  | some o => rw [s _ _ e] at h; cases h

theorem e_const (ok : XOk C X c) {e : E} {x : Expr} (hc : e = .non ∨ (∃ b, e = .bl b) ∨ (∃ i, e = .int i) ∨ ∃ t, e = .str t) (hm : mE (m + 1) c e x = true) (s : SOk X.K F H σ δ W) (he : evE C (n + 1) e δ = some (a, δ')) (k : HandsOn X F H W σ δ' a Q) : tW X x σ H Q := by
  unfold mE at hm
  unfold evE at he
  rcases hc with rfl | ⟨b, rfl⟩ | ⟨i, rfl⟩ | ⟨t, rfl⟩
  · simp only at hm he
    split at hm
    · cases he
      exact tW_of pe_non (k.atom (.refl s) .non)
    · cases hm
  · simp only at hm he
    split at hm
    · cases he
      cases (beq_iff_eq.mp hm)
      exact tW_of pe_bl (k.atom (.refl s) (.bl _))
    · cases hm
  · simp only at hm he
    split at hm
    · cases he
      cases (of_decide_eq_true hm)
      exact tW_of pe_int (k.atom (.refl s) (.int _))
    · cases hm
  · simp only at hm he
    split at hm
    · cases he
      cases (same_eq hm)
      exact tW_of pe_str (k.atom (.refl s) (.str _))
    · cases hm
theorem e_con (ok : XOk C X c) {q : Kc} {x : Expr} (hm : mE (m + 1) c (.con q) x = true) (s : SOk X.K F H σ δ W) (he : evE C (n + 1) (.con q) δ = some (a, δ')) (k : HandsOn X F H W σ δ' a Q) : tW X x σ H Q := by
  unfold mE at hm
  unfold evE at he
  simp only at hm he
  split at hm
  · cases he
    simp only [Bool.and_eq_true, decide_eq_true_eq] at hm
    obtain ⟨⟨h1, h2⟩, h3⟩ := hm
    obtain ⟨u, v, mg, rl, rp⟩ := ok.con _ _ h3
    exact tW_of (pe_glob (ok.gl h1) mg rl (notDbg_of h2).1) (k.atom (.refl s) (rp F))
  · cases hm
theorem e_var (ok : XOk C X c) {i : Nat} {x : Expr} (hm : mE (m + 1) c (.var i) x = true) (s : SOk X.K F H σ δ W) (he : evE C (n + 1) (.var i) δ = some (a, δ')) (k : HandsOn X F H W σ δ' a Q) : tW X x σ H Q := by
  unfold mE at hm
  simp only at hm
  split at hm
  · simp only [Bool.and_eq_true] at hm
    obtain ⟨⟨h1, h2⟩, h3⟩ := hm
    obtain ⟨d1, d2⟩ := notDbg_of h3
    unfold evE at he
    simp only at he
    split at he
    · rename_i d e0
      obtain ⟨v, U, R, g, o, _⟩ := s.st.zip (slot_some e0)
      refine tW_of (pe_var (ok.nm h1) (ok.vis h2) d1 d2) ⟨v, g, ?_⟩
      split at he
      · rename_i f
        cases he
        exact k.atom (.refl s) (o.fz f)
      · cases he
        exact k v F H W No (.refl s) (.bor g rfl)
    · cases he
  · cases hm
theorem e_neg (ih : SE C n) (ok : XOk C X c) {e1 : E} {x : Expr} (hm : mE (m + 1) c (.neg e1) x = true) (s : SOk X.K F H σ δ W) (he : evE C (n + 1) (.neg e1) δ = some (a, δ')) (k : HandsOn X F H W σ δ' a Q) : tW X x σ H Q := by
  unfold mE at hm
  simp only at hm
  split at hm
  · unfold evE at he
    simp only at he
    split at he
    · rename_i i δ1 e1
      cases he
      refine tW_of (pe_un un_neg pe_tW) (ih ok hm s e1 fun v F' H' W' Wt p h => ?_)
      cases (h.look p.ok rfl).int
      exact ⟨i, rfl, k.atom p (.int _)⟩
    · cases he
  · cases hm
theorem e_cmp (ih : SAs C n) (ok : XOk C X c) {op : Cop} {e1 e2 : E} {x : Expr} (hm : mE (m + 1) c (.cmp op e1 e2) x = true) (s : SOk X.K F H σ δ W) (he : evE C (n + 1) (.cmp op e1 e2) δ = some (a, δ')) :
    ∃ l r pos t, x = .Compare l [copO op] [r] pos ∧ isSetE r = false ∧ a = .tmp (.bl t) ∧ ∀ {R : V → V → Hp → Prop}, (∀ v w F' H' W', Post X.K F H W F' H' σ δ' W' No → (∀ {Q : VK}, Q (.bl t) H' → rW X (compareOp (copO op)) v w H' Q) → R v w H') → tW X l σ H fun x H1 => tW X r σ H1 fun y H2 => R x y H2 := by
  unfold mE at hm
  simp only at hm
  split at hm
  · simp only [Bool.and_eq_true, Bool.not_eq_true'] at hm
    obtain ⟨⟨h1, h2⟩, h3⟩ := hm
    unfold evE at he
    simp only at he
    split at he
    · rename_i as δ1 e1
      split at he
      · rename_i d0 d1 e2
        split at he
        · rename_i t e3
          cases he
          cases copB_eq h1
          refine ⟨_, _, _, t, rfl, h3, rfl, fun {R} k => SAs.two ih ok h2 s e1 fun v w F' H' W' Wt p h => ?_⟩
          obtain ⟨x, y, ex, hx, hy⟩ := (h.looks p.ok e2).two
          cases ex
          exact k _ _ _ _ _ p.drop fun q => cmp_ok ok.units p.ok.sub e3 hx hy q
        · cases he
      · cases he
    · cases he
  · cases hm
theorem e_cmpE (ih : SAs C n) (ok : XOk C X c) {op : Cop} {e1 e2 : E} {x : Expr} (hm : mE (m + 1) c (.cmp op e1 e2) x = true) (s : SOk X.K F H σ δ W) (he : evE C (n + 1) (.cmp op e1 e2) δ = some (a, δ')) (k : HandsOn X F H W σ δ' a Q) : tW X x σ H Q := by
  obtain ⟨l, r, pos, t, rfl, h3, rfl, go⟩ := e_cmp ih ok hm s he
  exact tW_of (pe_cmpR op_rW pe_tW pe_tW (noSet h3)) (go fun v w F' H' W' p q => q (k.atom p (.bl t)))
theorem e_cmpT (ih : SAs C n) (ok : XOk C X c) {op : Cop} {e1 e2 : E} {x : Expr} {b : Bool} {Q : Bool → Hp → Prop} (hm : mE (m + 1) c (.cmp op e1 e2) x = true) (s : SOk X.K F H σ δ W) (he : evE C (n + 1) (.cmp op e1 e2) δ = some (.tmp (.bl b), δ')) (k : Tells X F H W σ δ' b Q) : tWT X x σ H Q := by
  obtain ⟨l, r, pos, t, rfl, h3, ea, go⟩ := e_cmp ih ok hm s he
  cases ea
  exact tWT_of (pt_cmpR op_rW pe_tW pe_tW (noSet h3)) (go fun v w F' H' W' p q => q ⟨b, rfl, k _ _ _ p⟩)
theorem e_chain (ih : SAs C n) (ihe : SE C n) (ok : XOk C X c) {o1 o2 : Cop} {e1 e2 e3 : E} {x : Expr} (hm : mE (m + 1) c (.chain o1 o2 e1 e2 e3) x = true) (s : SOk X.K F H σ δ W) (he : evE C (n + 1) (.chain o1 o2 e1 e2 e3) δ = some (a, δ')) :
    ∃ l y r pos t, x = .Compare l [copO o1, copO o2] [y, r] pos ∧ isSetE r = false ∧ a = .tmp (.bl t) ∧ ∀ {Q : VK}, (∀ F' H' W', Post X.K F H W F' H' σ δ' W' No → Q (.bl t) H') → tChain (rW X (compareOp (copO o1))) (rW X (compareOp (copO o2))) (tW X l) (tW X y) (tW X r) σ H Q := by
  unfold mE at hm
  simp only at hm
  split at hm
  · simp only [Bool.and_eq_true, Bool.not_eq_true'] at hm
    obtain ⟨⟨⟨⟨h1, h2⟩, h3⟩, h4⟩, h5⟩ := hm
    unfold evE at he
    simp only at he
    cases copB_eq h1
    cases copB_eq h2
    split at he
    · rename_i d0 d1 δ1 e1
      split at he
      · rename_i e2
        cases he
        refine ⟨_, _, _, _, false, rfl, h5, rfl, fun {Q} k => SAs.two ih ok h3 s e1 fun v w F' H' W' Wt p h => ?_⟩
        obtain ⟨x, y, ex, hx, hy⟩ := (h.looks p.ok rfl).two
        cases ex
        exact cmp_ok ok.units p.ok.sub e2 hx hy ⟨false, rfl, by rw [if_neg Bool.false_ne_true]; exact k _ _ _ p.drop⟩
      · rename_i e2
        split at he
        · rename_i d2 δ2 e3
          split at he
          · rename_i t e4
            cases he
            refine ⟨_, _, _, _, t, rfl, h5, rfl, fun {Q} k => SAs.two ih ok h3 s e1 fun v w F' H' W' Wt p h => ?_⟩
            obtain ⟨x, y, ex, hx, hy⟩ := (h.looks p.ok rfl).two
            cases ex
            refine cmp_ok ok.units p.ok.sub e2 hx hy ⟨true, rfl, ?_⟩
            rw [if_pos rfl]
            refine ihe ok h4 p.ok e3 fun z F2 H2 W2 Wz q hz => ?_
            cases h with
            | cons a1 a2 a3 a4 a5 =>
              cases a2 with
              | cons b1 b2 b3 b4 b5 =>
                cases b1 with
                | tmp o =>
                  have o2 := o.ext q.ext fun b z => p.dj b (a5 b (b4 b z))
                  exact cmp_ok ok.units q.ok.sub e4 ⟨_, o2⟩ (hz.look q.ok rfl) (k _ _ _ (p.trans0 q).drop)
          · cases he
        · cases he
      · cases he
    · cases he
  · cases hm
theorem lastM {o1 o2 : CmpOp} {y r : Expr} (h : isSetE r = false) : lastMarks [o1, o2] [y, r] = false := noSet (o := o2) h
theorem e_chainE (ih : SAs C n) (ihe : SE C n) (ok : XOk C X c) {o1 o2 : Cop} {e1 e2 e3 : E} {x : Expr} (hm : mE (m + 1) c (.chain o1 o2 e1 e2 e3) x = true) (s : SOk X.K F H σ δ W) (he : evE C (n + 1) (.chain o1 o2 e1 e2 e3) δ = some (a, δ')) (k : HandsOn X F H W σ δ' a Q) : tW X x σ H Q := by
  obtain ⟨l, y, r, pos, t, rfl, h3, rfl, go⟩ := e_chain ih ihe ok hm s he
  exact tW_of (pe_chain op_rW op_rW pe_tW pe_tW pe_tW (lastM h3)) (go fun F' H' W' p => k.atom p (.bl t))
theorem e_chainT (ih : SAs C n) (ihe : SE C n) (ok : XOk C X c) {o1 o2 : Cop} {e1 e2 e3 : E} {x : Expr} {b : Bool} {Q : Bool → Hp → Prop} (hm : mE (m + 1) c (.chain o1 o2 e1 e2 e3) x = true) (s : SOk X.K F H σ δ W) (he : evE C (n + 1) (.chain o1 o2 e1 e2 e3) δ = some (.tmp (.bl b), δ')) (k : Tells X F H W σ δ' b Q) : tWT X x σ H Q := by
  obtain ⟨l, y, r, pos, t, rfl, h3, ea, go⟩ := e_chain ih ihe ok hm s he
  cases ea
  exact tWT_of (pt_chain op_rW op_rW pe_tW pe_tW pe_tW (lastM h3)) (go fun F' H' W' p => ⟨b, rfl, k _ _ _ p⟩)
theorem e_bnot (ih : SE C n) (ok : XOk C X c) {e1 : E} {x : Expr} (hm : mE (m + 1) c (.bnot e1) x = true) (s : SOk X.K F H σ δ W) (he : evE C (n + 1) (.bnot e1) δ = some (a, δ')) (k : HandsOn X F H W σ δ' a Q) : tW X x σ H Q := by
  unfold mE at hm
  simp only at hm
  split at hm
  · unfold evE at he
    simp only at he
    split at he
    · rename_i y δ1 e1
      split at he
      · rename_i d e2
        split at he
        · rename_i b e3
          cases he
          exact tW_of (pe_notT pe_tW) (ih ok hm s e1 fun v F' H' W' Wt p h => ⟨b, tru_of p.ok.sub (h.look p.ok e2) e3, k.atom p (.bl _)⟩)
        · cases he
      · cases he
    · cases he
  · cases hm
theorem e_ite (iht : ST C n) (ih : SE C n) (ok : XOk C X c) {e1 e2 e3 : E} {x : Expr} (hm : mE (m + 1) c (.ite e1 e2 e3) x = true) (s : SOk X.K F H σ δ W) (he : evE C (n + 1) (.ite e1 e2 e3) δ = some (a, δ')) (k : HandsOn X F H W σ δ' a Q) : tW X x σ H Q := by
  unfold mE at hm
  simp only at hm
  split at hm
  · simp only [Bool.and_eq_true] at hm
    obtain ⟨⟨h1, h2⟩, h3⟩ := hm
    unfold evE at he
    simp only at he
    split at he
    · rename_i δ1 e1
      refine tW_of (pe_ifExp pt_tW pe_tW pe_tW) (iht ok h1 s e1 fun F' H' W' p => ?_)
      rw [if_pos rfl]
      exact ih ok h2 p.ok he fun v F2 H2 W2 Wt q h => k v F2 H2 W2 Wt (p.trans0 q) h
    · rename_i δ1 e1
      refine tW_of (pe_ifExp pt_tW pe_tW pe_tW) (iht ok h1 s e1 fun F' H' W' p => ?_)
      rw [if_neg Bool.false_ne_true]
      exact ih ok h3 p.ok he fun v F2 H2 W2 Wt q h => k v F2 H2 W2 Wt (p.trans0 q) h
    · cases he
  · cases hm
theorem e_tup (ih : SAs C n) (ok : XOk C X c) {es : List E} {x : Expr} (hm : mE (m + 1) c (.tup es) x = true) (s : SOk X.K F H σ δ W) (he : evE C (n + 1) (.tup es) δ = some (a, δ')) (k : HandsOn X F H W σ δ' a Q) : tW X x σ H Q := by
  unfold mE at hm
  simp only at hm
  split at hm
  · rw [Bool.and_eq_true] at hm
    unfold evE at he
    simp only at he
    split at he
    · rename_i as δ1 e1
      split at he
      · rename_i ds δ2 e2
        split at he
        · rename_i hl
          cases he
          refine tW_of (pe_tup (pa_nest hm.2)) (ih ok hm.1 s e1 fun vs F' H' W' Wt p h => ?_)
          obtain ⟨F2, p2, o⟩ := p.toVs h e2
          obtain ⟨F3, p3, r⟩ := p2.shareL o
          have hl' := of_decide_eq_true hl
          have := cap_line
          refine ⟨by rw [o.length]; omega, fun q hq => ?_⟩
          exact k _ _ _ _ _ (p3.newW (New.tuple p3.ok.sub hq)) (.tmp (Ow.tuple p3.ok.sub hq r))
        · cases he
      · cases he
    · cases he
  · cases hm
theorem e_lst (ih : SAs C n) (ok : XOk C X c) {es : List E} {x : Expr} (hm : mE (m + 1) c (.lst es) x = true) (s : SOk X.K F H σ δ W) (he : evE C (n + 1) (.lst es) δ = some (a, δ')) (k : HandsOn X F H W σ δ' a Q) : tW X x σ H Q := by
  unfold mE at hm
  simp only at hm
  split at hm
  · rw [Bool.and_eq_true] at hm
    unfold evE at he
    simp only at he
    split at he
    · rename_i as δ1 e1
      split at he
      · rename_i ds δ2 e2
        split at he
        · rename_i hl
          cases he
          refine tW_of (pe_lst (pa_nest hm.2)) (ih ok hm.1 s e1 fun vs F' H' W' Wt p h => ?_)
          obtain ⟨F2, p2, o⟩ := p.toVs h e2
          have hl' := of_decide_eq_true hl
          have := cap_line
          refine ⟨by rw [o.length]; omega, fun q hq => ?_⟩
          exact k _ _ _ _ _ (p2.newT (New.list p2.ok.sub hq)).2 (.tmp (Ow.listO p2.ok.sub hq o p2.lt))
        · cases he
      · cases he
    · cases he
  · cases hm
theorem e_sub (ih : SAs C n) (ok : XOk C X c) {e1 e2 : E} {x : Expr} (hm : mE (m + 1) c (.sub e1 e2) x = true) (s : SOk X.K F H σ δ W) (he : evE C (n + 1) (.sub e1 e2) δ = some (a, δ')) (k : HandsOn X F H W σ δ' a Q) : tW X x σ H Q := by
  unfold mE at hm
  simp only at hm
  split at hm
  · simp only [Bool.and_eq_true, Bool.not_eq_true'] at hm
    unfold evE at he
    simp only at he
    split at he
    · rename_i y i δ1 e1
      split at he
      · rename_i d e2
        refine tW_of (pe_ix ix_seq pe_tW pe_tW (plainIx hm.2)) (SAs.two ih ok hm.1 s e1 fun v w F' H' W' Wt p h => ?_)
        cases h with
        | cons a1 a2 a3 a4 a5 =>
          cases a2 with
          | cons b1 b2 b3 b4 b5 =>
            cases (b1.look p.ok rfl).int
            have hv := a1.look p.ok e2
            split at he
            · rename_i o xs
              split at he
              · rename_i j ej
                split at he
                · rename_i z ez
                  obtain ⟨ad, vs, v1, rfl, h1, hl, g, hk⟩ := hv.kid p.ok.sub ez
                  refine ix_list_ok (x := v1) h1 (by rw [hl]; exact ej) g ?_
                  split at he
                  · rename_i f
                    cases he
                    obtain ⟨Wk, hk⟩ := hk
                    exact k.atom p.drop (hk.fz f)
                  · split at he
                    · cases he
                      cases a1 with
                      | bor g0 q0 => exact k _ _ _ _ _ p.drop (.bor g0 (q0.snoc rfl h1 g))
                    · cases he
                · cases he
              · cases he
            · rename_i xs
              split at he
              · rename_i j ej
                split at he
                · rename_i z ez
                  cases he
                  obtain ⟨ad, vs, rfl, sq, r⟩ := hv.tup
                  obtain ⟨v1, g, rz⟩ := r.get ez
                  exact ix_tup_ok (x := v1) (sqt_mono p.ok.sub sq) (by rw [r.length]; exact ej) g (k.atom p.drop rz)
                · cases he
              · cases he
            · cases he
      · cases he
    · cases he
  · cases hm
theorem e_rev (ih : SE C n) (ok : XOk C X c) {e1 : E} {x : Expr} (hm : mE (m + 1) c (.rev e1) x = true) (s : SOk X.K F H σ δ W) (he : evE C (n + 1) (.rev e1) δ = some (a, δ')) (k : HandsOn X F H W σ δ' a Q) : tW X x σ H Q := by
  unfold mE at hm
  simp only at hm
  split at hm
  · unfold evE at he
    simp only at he
    split at he
    · rename_i y δ1 e1
      split at he
      · rename_i d e2
        split at he
        · rename_i r e3
          cases he
          refine tW_of (pe_revL pe_tW) (ih ok hm s e1 fun v F' H' W' Wt p h => ?_)
          unfold revD at e3
          split at e3
          · split at e3
            · rename_i f
              cases e3
              obtain ⟨ad, vs, rfl, h1, hl, rr⟩ := (h.look p.ok e2).lst p.ok.sub
              exact ⟨ad, vs, rfl, SqL.of h1, fun q hq => (k.goes p).list p.ok.sub hq (rr f).reverse⟩
            · cases e3
          · cases e3
        · cases he
      · cases he
    · cases he
  · cases hm
end
end Ev

set_option linter.all false
set_option maxRecDepth 100000
set_option maxHeartbeats 4000000
/-! Ev: slices, several, tests, walks -/
namespace Ev
open PySem PySem.Spec PyProof.Rows L2
section
variable {C : Ctx} {X : Cx} {c : Cxt} {n m : Nat} {σ : L2.St} {δ δ' : Dl} {F H : Hp} {W : Fp} {a : A} {Q : VK}
theorem HandsOn.after {F1 H1 : Hp} {W1 W2 : Fp} {δ1 : Dl} (k : HandsOn X F H W σ δ' a Q) (p : Post X.K F H W F1 H1 σ δ1 W1 W2) : HandsOn X F1 H1 W1 σ δ' a Q := fun v F2 H2 W2 Wt q h => k v F2 H2 W2 Wt (p.trans0 q) h
theorem s_v (ih : SE C n) : SV C (n + 1) := by
  intro X c ok m e x σ δ F H W d δ' Q hm s he k
  unfold evV at he
  split at he
  · rename_i a δ1 e1
    refine ih ok hm s e1 fun v F' H' W' Wt p h => ?_
    obtain ⟨F2, p2, o⟩ := p.toV h he
    exact k _ _ _ _ _ p2 o
  · cases he
theorem mEs_nil : ∀ {m : Nat} {xs : List Expr}, mEs m c [] xs = true → xs = []
  | 0, xs, h => by simp [mEs] at h
  | m + 1, [], _ => rfl
  | m + 1, _ :: _, h => by simp [mEs] at h
theorem mTs_nil : ∀ {m : Nat} {xs : List Expr}, mTs m c [] xs = true → xs = []
  | 0, xs, h => by simp [mTs] at h
  | m + 1, [], _ => rfl
  | m + 1, _ :: _, h => by simp [mTs] at h
theorem evAs_nil : ∀ {n : Nat} {δ δ' : Dl} {as : List A}, evAs C n [] δ = some (as, δ') → as = [] ∧ δ' = δ
  | 0, δ, δ', as, h => by simp [evAs] at h
  | n + 1, δ, δ', as, h => by simp only [evAs] at h; cases h; exact ⟨rfl, rfl⟩
def nestI (X : Cx) : List Expr → List A → TA
  | [], _ => fun _ H Q => Q [] H
  | x :: xs, a :: as => fun σ H Q => tW X x σ H fun v H1 => (∀ i, a = .tmp (.int i) → v = .int i) ∧ nestI X xs as σ H1 fun vs H2 => Q (v :: vs) H2
  | _ :: _, [] => fun _ _ _ => False
/-- .., and what is an int is known at once -/
def SAI (C : Ctx) (n : Nat) : Prop := ∀ {X : Cx} {c : Cxt}, XOk C X c → ∀ {m : Nat} {es : List E} {xs : List Expr} {σ : L2.St} {δ : Dl} {F H : Hp} {W : Fp} {as : List A} {δ' : Dl} {Q : List V → Hp → Prop}, mEs m c es xs = true → SOk X.K F H σ δ W → evAs C n es δ = some (as, δ') → HandsAll X F H W σ δ' as Q → nestI X xs as σ H Q
theorem nestI_A : ∀ {xs : List Expr} {as : List A} {H : Hp} {Q : List V → Hp → Prop}, nestI X xs as σ H Q → nestA X xs σ H Q
  | [], _, _, _, h => h
  | _ :: _, _ :: _, _, _, h => tW_mono h fun _ _ q => nestI_A q.2
  | _ :: _, [], _, _, h => h.elim
theorem SAI.as (h : SAI C n) : SAs C n := by
  intro X c ok m es xs σ δ F H W as δ' Q hm s he k
  exact nestI_A (h ok hm s he k)
theorem s_asI (ihe : SE C n) (ih : SAI C n) : SAI C (n + 1) := by
  intro X c ok m es xs σ δ F H W as δ' Q hm s he k
  unfold evAs at he
  unfold mEs at hm
  split at hm
  · cases hm
  rename_i m1
  split at hm
  · split at hm
    · simp only at he
      cases he
      exact k [] F H W No (.refl s) .nil
    · cases hm
  · rename_i e es
    split at hm
    · rename_i x xs
      rw [Bool.and_eq_true] at hm
      simp only at he
      split at he
      · rename_i a δ1 e1
        split at he
        · rename_i a2 δ2 e2
          split at he
          · rename_i as2 δ3 e3
            cases he
            refine ihe ok hm.1 s e1 fun v F1 H1 W1 Wt p h => ?_
            -- behind the settling
            have fin : ∀ {F2 : Hp}, Post X.K F H W F2 H1 σ δ2 W1 Wt → AOk X.K F2 H1 σ v a2 Wt → noPath a2 = true → (∀ i, a2 = .tmp (.int i) → v = .int i) ∧ nestI X xs as2 σ H1 fun xs H2 => Q (v :: xs) H2 := fun {F2} p2 h2 np => by
              refine ⟨fun i ei => ?_, ?_⟩
              · subst ei
                exact (h2.look p2.ok rfl).int
              refine ih ok hm.2 p2.ok e3 fun vs F3 H3 W3 Wu q hq => ?_
              obtain ⟨dj, p3⟩ := p2.keepT q
              exact k (v :: vs) F3 H3 W3 _ p3 (.cons (h2.ext (δ' := δ) (Wu := No) q.ext p2.dj np) hq (fun b z y => dj b z (.inl y)) (fun b z => .inl z) fun b z => .inr z)
            unfold settle at e2
            split at e2
            · rename_i i0 k0 p0
              split at e2
              · rename_i emp
                cases e2
                cases es with
                | cons e' es' => simp at emp
                | nil =>
                  cases mEs_nil hm.2
                  obtain ⟨rfl, rfl⟩ := evAs_nil e3
                  exact ⟨fun i ei => by simp at ei, k [v] F1 H1 W1 Wt p (.cons (W2 := No) h .nil (fun _ _ q => q) (fun _ q => q) fun _ q => q.elim)⟩
              · split at e2
                · rename_i d δ9 e4
                  cases e2
                  obtain ⟨F2, p2, o⟩ := p.toV h e4
                  exact fin p2 (.tmp o) rfl
                · cases e2
            · rename_i hne
              cases e2
              refine fin p h ?_
              cases a with
              | tmp d => rfl
              | bor i q =>
                cases q with
                | nil => rfl
                | cons k0 q => exact absurd rfl (hne i k0 q)
          · cases he
        · cases he
      · cases he
    · cases hm
theorem s_and (ihe : SE C n) (ih : SAnd C n) : SAnd C (n + 1) := by
  intro X c ok m es xs pos σ δ F H W a δ' Q hm s he k
  unfold evAnd at he
  unfold mEs at hm
  split at hm
  · cases hm
  rename_i m1
  split at hm
  · cases he
  · rename_i e es
    split at hm
    · rename_i x xs
      rw [Bool.and_eq_true] at hm
      cases es with
      | nil =>
        simp only at he
        cases mEs_nil hm.2
        exact tW_of (pe_one pe_tW) (ihe ok hm.1 s he k)
      | cons e2 es =>
        cases xs with
        | nil =>
          have q := hm.2
          unfold mEs at q
          split at q
          · cases q
          · simp at q
        | cons x2 xs =>
          simp only at he
          split at he
          · rename_i a1 δ1 e1
            split at he
            · rename_i d ed
              split at he
              · rename_i et
                refine tW_of (pe_andT pe_tW pe_tW) (ihe ok hm.1 s e1 fun v F1 H1 W1 Wt p h => ⟨true, tru_of p.ok.sub (h.look p.ok ed) et, ?_⟩)
                rw [if_pos rfl]
                exact ih ok hm.2 p.ok he (k.after p)
              · rename_i et
                cases he
                refine tW_of (pe_andT pe_tW (pe_tW (e := .BoolOp .And (x2 :: xs) pos))) (ihe ok hm.1 s e1 fun v F1 H1 W1 Wt p h => ⟨false, tru_of p.ok.sub (h.look p.ok ed) et, ?_⟩)
                rw [if_neg Bool.false_ne_true]
                exact k _ _ _ _ _ p h
              · cases he
            · cases he
          · cases he
    · cases hm
theorem s_or (ihe : SE C n) (ih : SOr C n) : SOr C (n + 1) := by
  intro X c ok m es xs pos σ δ F H W a δ' Q hm s he k
  unfold evOr at he
  unfold mEs at hm
  split at hm
  · cases hm
  rename_i m1
  split at hm
  · cases he
  · rename_i e es
    split at hm
    · rename_i x xs
      rw [Bool.and_eq_true] at hm
      cases es with
      | nil =>
        simp only at he
        cases mEs_nil hm.2
        exact tW_of (pe_one pe_tW) (ihe ok hm.1 s he k)
      | cons e2 es =>
        cases xs with
        | nil =>
          have q := hm.2
          unfold mEs at q
          split at q
          · cases q
          · simp at q
        | cons x2 xs =>
          simp only at he
          split at he
          · rename_i a1 δ1 e1
            split at he
            · rename_i d ed
              split at he
              · rename_i et
                refine tW_of (pe_orT pe_tW pe_tW) (ihe ok hm.1 s e1 fun v F1 H1 W1 Wt p h => ⟨false, tru_of p.ok.sub (h.look p.ok ed) et, ?_⟩)
                rw [if_neg Bool.false_ne_true]
                exact ih ok hm.2 p.ok he (k.after p)
              · rename_i et
                cases he
                refine tW_of (pe_orT pe_tW (pe_tW (e := .BoolOp .Or (x2 :: xs) pos))) (ihe ok hm.1 s e1 fun v F1 H1 W1 Wt p h => ⟨true, tru_of p.ok.sub (h.look p.ok ed) et, ?_⟩)
                rw [if_pos rfl]
                exact k _ _ _ _ _ p h
              · cases he
            · cases he
          · cases he
    · cases hm
theorem s_tand (iht : ST C n) (ih : STAnd C n) : STAnd C (n + 1) := by
  intro X c ok m es xs pos σ δ F H W b δ' Q hm s he k
  unfold evTAnd at he
  unfold mTs at hm
  split at hm
  · cases hm
  rename_i m1
  split at hm
  · cases he
  · rename_i e es
    split at hm
    · rename_i x xs
      rw [Bool.and_eq_true] at hm
      cases es with
      | nil =>
        simp only at he
        cases mTs_nil hm.2
        exact tWW_of (pw_and1 pt_tW) (iht ok hm.1 s he k)
      | cons e2 es =>
        cases xs with
        | nil =>
          have q := hm.2
          unfold mTs at q
          split at q
          · cases q
          · simp at q
        | cons x2 xs =>
          simp only at he
          split at he
          · rename_i δ1 e1
            refine tWW_of (pw_and pt_tW pw_tWW) (iht ok hm.1 s e1 fun F1 H1 W1 p => ?_)
            rw [if_pos rfl]
            exact ih ok hm.2 p.ok he fun F2 H2 W2 q => k _ _ _ (p.trans0 q)
          · rename_i δ1 e1
            cases he
            refine tWW_of (pw_and pt_tW (pw_tWW (x := .BoolOp .And (x2 :: xs) pos))) (iht ok hm.1 s e1 fun F1 H1 W1 p => ?_)
            rw [if_neg Bool.false_ne_true]
            exact k _ _ _ p
          · cases he
    · cases hm
theorem s_tor (iht : ST C n) (ih : STOr C n) : STOr C (n + 1) := by
  intro X c ok m es xs pos σ δ F H W b δ' Q hm s he k
  unfold evTOr at he
  unfold mTs at hm
  split at hm
  · cases hm
  rename_i m1
  split at hm
  · cases he
  · rename_i e es
    split at hm
    · rename_i x xs
      rw [Bool.and_eq_true] at hm
      cases es with
      | nil =>
        simp only at he
        cases mTs_nil hm.2
        exact tWW_of (pw_or1 pt_tW) (iht ok hm.1 s he k)
      | cons e2 es =>
        cases xs with
        | nil =>
          have q := hm.2
          unfold mTs at q
          split at q
          · cases q
          · simp at q
        | cons x2 xs =>
          simp only at he
          split at he
          · rename_i δ1 e1
            refine tWW_of (pw_or pt_tW pw_tWW) (iht ok hm.1 s e1 fun F1 H1 W1 p => ?_)
            rw [if_neg Bool.false_ne_true]
            exact ih ok hm.2 p.ok he fun F2 H2 W2 q => k _ _ _ (p.trans0 q)
          · rename_i δ1 e1
            cases he
            refine tWW_of (pw_or pt_tW (pw_tWW (x := .BoolOp .Or (x2 :: xs) pos))) (iht ok hm.1 s e1 fun F1 H1 W1 p => ?_)
            rw [if_pos rfl]
            exact k _ _ _ p
          · cases he
    · cases hm
theorem plainT_eq {x : Expr} (h : plainT x = true) (env : Env) : ∀ whole, isTrue x env whole = (do let v ← whole; standAt x.pos; holding [v] (truthy v)) := fun whole => by
  cases x with
  | UnaryOp op y p => cases op <;> first | rfl | simp [plainT] at h
  | BoolOp _ _ _ => simp [plainT] at h
  | IfExp _ _ _ _ => simp [plainT] at h
  | Compare _ _ _ _ => simp [plainT] at h
  | _ => rfl
theorem shapeT {e : E} {x : Expr} (hm : mE (m + 1) c e x = true) (hp : plainT x = false) : (∃ es, e = .band es) ∨ (∃ es, e = .bor es) ∨ (∃ a, e = .bnot a) ∨ (∃ p q r, e = .ite p q r) ∨ (∃ l os rs p, x = .Compare l os rs p) := by
  cases e with
  | band es => exact .inl ⟨_, rfl⟩
  | bor es => exact .inr (.inl ⟨_, rfl⟩)
  | bnot a => exact .inr (.inr (.inl ⟨_, rfl⟩))
  | ite p q r => exact .inr (.inr (.inr (.inl ⟨_, _, _, rfl⟩)))
  | bi b es =>
    unfold mE at hm
    simp only at hm
    split at hm
    · split at hm
      · simp [plainT] at hp
      · cases hm
    · split at hm
      · simp [plainT] at hp
      · cases hm
    · split at hm
      · simp [plainT] at hp
      · cases hm
    · split at hm
      · simp [plainT] at hp
      · cases hm
    · split at hm
      · simp [plainT] at hp
      · cases hm
    · split at hm
      · simp [plainT] at hp
      · cases hm
    · split at hm
      · simp [plainT] at hp
      · cases hm
  | disS l pre st post =>
    cases l <;> (unfold mE at hm; simp only at hm; split at hm)
    · simp [plainT] at hp
    · cases hm
    · simp [plainT] at hp
    · cases hm
  | _ =>
    unfold mE at hm
    simp only at hm
    split at hm
    · first
        | exact .inr (.inr (.inr (.inr ⟨_, _, _, _, rfl⟩)))
        | (simp [plainT] at hp; done)
    · cases hm
def SCT (C : Ctx) (n : Nat) : Prop := ∀ {X : Cx} {c : Cxt}, XOk C X c → ∀ {m : Nat} {e : E} {l : Expr} {os : List CmpOp} {rs : List Expr} {pos : Pos} {σ : L2.St} {δ : Dl} {F H : Hp} {W : Fp} {a : A} {δ' : Dl}, mE m c e (.Compare l os rs pos) = true → SOk X.K F H σ δ W → evE C n e δ = some (a, δ') →
  ∃ t, a = .tmp (.bl t) ∧ ∀ {Q : Bool → Hp → Prop}, Tells X F H W σ δ' t Q → tWT X (.Compare l os rs pos) σ H Q
theorem s_ct (ihs : SAs C n) (ihe : SE C n) : SCT C (n + 1) := by
  intro X c ok m e l os rs pos σ δ F H W a δ' hm s he
  cases m with
  | zero => simp [mE] at hm
  | succ m =>
  cases e with
  | cmp op e1 e2 =>
    obtain ⟨_, _, _, t, ex, _, rfl, _⟩ := e_cmp ihs ok hm s he
    exact ⟨t, rfl, fun {Q} k => e_cmpT ihs ok hm s he k⟩
  | chain o1 o2 e1 e2 e3 =>
    obtain ⟨_, _, _, _, t, ex, _, rfl, _⟩ := e_chain ihs ihe ok hm s he
    exact ⟨t, rfl, fun {Q} k => e_chainT ihs ihe ok hm s he k⟩
  | bi b es => cases b <;> simp [mE] at hm
  | disS l pre st post => cases l <;> simp [mE] at hm
  | _ => simp [mE] at hm
theorem s_t (ihe : SE C n) (iht : ST C n) (iha : STAnd C n) (iho : STOr C n) (ihc : SCT C n) : ST C (n + 1) := by
  intro X c ok m e x σ δ F H W b δ' Q hm s he k
  unfold mT at hm
  split at hm
  · cases hm
  rename_i m1
  split at hm
  · split at hm
    · simp only [evT] at he
      exact tWT_of (PW.pt pw_tWW) (iha ok hm s he k)
    · cases hm
  · split at hm
    · simp only [evT] at he
      exact tWT_of (PW.pt pw_tWW) (iho ok hm s he k)
    · cases hm
  · split at hm
    · simp only [evT] at he
      split at he
      · rename_i b1 δ1 e1
        cases he
        exact tWT_of (pt_not pt_tW) (iht ok hm s e1 fun F' H' W' p => k _ _ _ p)
      · cases he
    · cases hm
  · cases hm
  · rename_i n1 n2 n3 n4
    unfold evT at he
    split at he
    · exact absurd rfl (n1 _)
    · exact absurd rfl (n2 _)
    · exact absurd rfl (n3 _)
    · split at he
      · rename_i a1 δ1 e1
        split at he
        · rename_i d ed
          split at he
          · rename_i b1 eb
            cases he
            cases hp : plainT x with
            | true =>
              exact tWT_of (pt_truth pe_tW (plainT_eq hp X.env)) (ihe ok hm s e1 fun v F' H' W' Wt p h => ⟨b, tru_of p.ok.sub (h.look p.ok ed) eb, k _ _ _ p.drop⟩)
            | false =>
              cases m1 with
              | zero => simp [mE] at hm
              | succ m1 =>
                rcases shapeT hm hp with ⟨_, rfl⟩ | ⟨_, rfl⟩ | ⟨_, rfl⟩ | ⟨_, _, _, rfl⟩ | ⟨_, _, _, _, rfl⟩
                · exact absurd rfl (n1 _)
                · exact absurd rfl (n2 _)
                · exact absurd rfl (n3 _)
                · exact absurd rfl (n4 _ _ _)
                · obtain ⟨t, rfl, go⟩ := ihc ok hm s e1
                  cases ed
                  cases eb
                  exact go k
          · cases he
        · cases he
      · cases he
theorem evAs_len : ∀ {n : Nat} {es : List E} {δ δ' : Dl} {as : List A}, evAs C n es δ = some (as, δ') → as.length = es.length
  | 0, es, δ, δ', as, h => by simp [evAs] at h
  | n + 1, [], δ, δ', as, h => by simp only [evAs] at h; cases h; rfl
  | n + 1, e :: es, δ, δ', as, h => by
    simp only [evAs] at h
    split at h
    · split at h
      · split at h
        · rename_i e3
          cases h
          rw [List.length_cons, List.length_cons, evAs_len e3]
        · cases h
      · cases h
    · cases h
theorem toVs_len : ∀ {as : List A} {δ δ' : Dl} {ds : List D}, Ev.toVs δ as = some (ds, δ') → ds.length = as.length
  | [], δ, δ', ds, h => by simp only [Ev.toVs] at h; cases h; rfl
  | a :: as, δ, δ', ds, h => by
    unfold Ev.toVs at h
    split at h
    · split at h
      · rename_i e2
        cases h
        rw [List.length_cons, List.length_cons, toVs_len e2]
      · cases h
    · cases h
theorem mEs_len : ∀ {m : Nat} {es : List E} {xs : List Expr}, mEs m c es xs = true → es.length = xs.length
  | 0, es, xs, h => by simp [mEs] at h
  | m + 1, [], [], _ => rfl
  | m + 1, [], _ :: _, h => by simp [mEs] at h
  | m + 1, _ :: _, [], h => by simp [mEs] at h
  | m + 1, e :: es, x :: xs, h => by
    simp only [mEs, Bool.and_eq_true] at h
    rw [List.length_cons, List.length_cons, mEs_len h.2]
theorem s_it (ih : SAs C n) : SIt C (n + 1) := by
  intro X c ok m t k es x σ δ F H W ds δ' R hm s he q
  unfold evIt at he
  split at he
  · rename_i as δ1 e1
    split at he
    · rename_i vs0 δ2 e2
      split at he
      · rename_i items e3
        cases he
        have go : ∀ {ys : List Expr} {m1 : Nat}, mEs m1 c es ys = true → MI X t k ys x → tWI X t x σ H R := fun {ys m1} h mi => by
          refine it_ok mi e3 (by rw [frzs_length, toVs_len e2, evAs_len e1, mEs_len h]) (ih ok h s e1 fun vs F' H' W' Wt p ha => ?_)
          obtain ⟨F2, p2, o⟩ := p.toVs ha e2
          obtain ⟨F3, p3, r⟩ := p2.shareL o
          exact ⟨F3, p3.ok.sub, r, fun J w => q _ _ _ J p3 w⟩
        unfold mI at hm
        split at hm
        · cases hm
        rename_i m1
        split at hm
        · simp only [Bool.and_eq_true, Bool.not_eq_true'] at hm
          exact go hm.1 (.val hm.2)
        · split at hm
          · simp only [Bool.and_eq_true] at hm
            obtain ⟨⟨⟨h1, h2⟩, h3⟩, h4⟩ := hm
            cases same_eq h1
            exact go h3 (.range (ok.gl h2) (ok.blt _ (by decide)) h4)
          · cases hm
        · split at hm
          · simp only [Bool.and_eq_true] at hm
            obtain ⟨⟨⟨⟨h1, h2⟩, h3⟩, h4⟩, h5⟩ := hm
            cases same_eq h1
            exact go h3 (.enum h5 (ok.gl h2) (ok.blt _ (by decide)) h4)
          · cases hm
        · split at hm
          · simp only [Bool.and_eq_true] at hm
            obtain ⟨⟨⟨⟨h1, h2⟩, h3⟩, h4⟩, h5⟩ := hm
            cases same_eq h1
            exact go h3 (.zip h5 (ok.gl h2) (ok.blt _ (by decide)) h4)
          · cases hm
      · cases he
    · cases he
  · cases he
end
end Ev

set_option linter.all false
set_option maxRecDepth 100000
set_option maxHeartbeats 4000000
/-! Ev: slices, calls, built-ins, methods -/
namespace Ev
open PySem PySem.Spec PyProof.Rows L2
section
variable {C : Ctx} {X : Cx} {c : Cxt} {n m : Nat} {σ : L2.St} {δ δ' : Dl} {F H : Hp} {W : Fp} {a : A} {Q : VK}
theorem parts_ff {as : List A} {l h : Option Int} (e : partsOf (none : Option E).isSome (none : Option E).isSome as = some (l, h)) : as = [] ∧ l = none ∧ h = none := by
  simp only [Option.isSome_none] at e
  unfold partsOf at e
  split at e <;> first | (cases e; exact ⟨rfl, rfl, rfl⟩) | simp_all
theorem parts_tf {lo : E} {as : List A} {l h : Option Int} (e : partsOf (some lo : Option E).isSome (none : Option E).isSome as = some (l, h)) : ∃ i, as = [.tmp (.int i)] ∧ l = some i ∧ h = none := by
  simp only [Option.isSome_none, Option.isSome_some] at e
  unfold partsOf at e
  split at e <;> first | (cases e; exact ⟨_, rfl, rfl, rfl⟩) | simp_all
theorem parts_ft {hi : E} {as : List A} {l h : Option Int} (e : partsOf (none : Option E).isSome (some hi : Option E).isSome as = some (l, h)) : ∃ i, as = [.tmp (.int i)] ∧ l = none ∧ h = some i := by
  simp only [Option.isSome_none, Option.isSome_some] at e
  unfold partsOf at e
  split at e <;> first | (cases e; exact ⟨_, rfl, rfl, rfl⟩) | simp_all
theorem parts_tt {lo hi : E} {as : List A} {l h : Option Int} (e : partsOf (some lo : Option E).isSome (some hi : Option E).isSome as = some (l, h)) : ∃ i j, as = [.tmp (.int i), .tmp (.int j)] ∧ l = some i ∧ h = some j := by
  simp only [Option.isSome_some] at e
  unfold partsOf at e
  split at e <;> first | (cases e; exact ⟨_, _, rfl, rfl, rfl⟩) | simp_all
theorem e_slice (ih : SAI C n) (ok : XOk C X c) {e1 : E} {lo hi : Option E} {x : Expr} (hm : mE (m + 1) c (.slice e1 lo hi) x = true) (s : SOk X.K F H σ δ W) (he : evE C (n + 1) (.slice e1 lo hi) δ = some (a, δ')) (k : HandsOn X F H W σ δ' a Q) : tW X x σ H Q := by
  unfold mE at hm
  simp only at hm
  split at hm
  · rename_i l u v p2 pos
    simp only [Bool.and_eq_true, beq_iff_eq] at hm
    obtain ⟨⟨h1, h2⟩, h3⟩ := hm
    unfold evE at he
    simp only at he
    split at he
    · rename_i y as δ1 e1
      split at he
      · rename_i d l' h' e2 e3
        have HH : HandsAll X F H W σ δ1 (y :: as) (fun vs H3 => ∀ x xs, vs = x :: xs → rSlX X.K x l' h' H3 Q) := by
          split at he
          · rename_i r e6
            cases he
            intro vs F' H' W' Wt p h
            cases h with
            | cons a1 a2 a3 a4 a5 =>
              rintro x xs ex
              cases ex
              exact sl_ok p.ok.sub e6 (a1.look p.ok e2) (k.goes p)
          · split at he
            · rename_i d2 dr δ2 e4
              split at he
              · rename_i r e6
                cases he
                intro vs F' H' W' Wt p h
                rintro x xs rfl
                obtain ⟨F2, q, o⟩ := p.toVs h e4
                obtain ⟨F3, q3, r⟩ := q.shareL o
                simp only [frzs] at r
                cases r with
                | cons r1 r2 => exact sl_ok q3.ok.sub e6 ⟨No, .frz r1⟩ (k.goes q3)
              · cases he
            · cases he
        have g := ih ok h1 s e1 (Q := fun vs H3 => ∀ x xs, vs = x :: xs → rSlX X.K x l' h' H3 Q) HH
        cases lo with
        | none =>
          cases u with
          | some _ => simp at h2
          | none =>
          cases hi with
          | none =>
            cases v with
            | some _ => simp at h3
            | none =>
            obtain ⟨rfl, rfl, rfl⟩ := parts_ff e3
            exact tW_of (pe_slice sl_any pe_tW po_none po_none) (tW_mono g fun x H1 q => q.2 x [] rfl)
          | some hi =>
            cases v with
            | none => simp at h3
            | some v =>
            obtain ⟨i, rfl, rfl, rfl⟩ := parts_ft e3
            exact tW_of (pe_slice sl_any pe_tW po_none (po_some pe_tW)) (tW_mono g fun x H1 q => tW_mono q.2 fun y H2 z => ⟨i, z.1 i rfl, z.2 x [y] rfl⟩)
        | some lo =>
          cases u with
          | none => simp at h2
          | some u =>
          cases hi with
          | none =>
            cases v with
            | some _ => simp at h3
            | none =>
            obtain ⟨i, rfl, rfl, rfl⟩ := parts_tf e3
            exact tW_of (pe_slice sl_any pe_tW (po_some pe_tW) po_none) (tW_mono g fun x H1 q => tW_mono q.2 fun y H2 z => ⟨i, z.1 i rfl, z.2 x [y] rfl⟩)
          | some hi =>
            cases v with
            | none => simp at h3
            | some v =>
            obtain ⟨i, j, rfl, rfl, rfl⟩ := parts_tt e3
            exact tW_of (pe_slice sl_any pe_tW (po_some pe_tW) (po_some pe_tW)) (tW_mono g fun x H1 q => tW_mono q.2 fun y H2 z => ⟨i, z.1 i rfl, tW_mono z.2 fun w H3 t => ⟨j, t.1 j rfl, t.2 x [y, w] rfl⟩⟩)
      · cases he
    · cases he
  · cases hm
theorem callD_some {f : Nat} {as : List A} {r : A × Dl} (e : callD C f as δ = some r) : ∃ ds r outs, C.call f ds = some (r, outs) := by
  unfold callD at e
  split at e
  · split at e
    · split at e
      · rename_i e3
        exact ⟨_, _, _, e3⟩
      · cases e
    · cases e
  · cases e
theorem e_call (ih : SAs C n) (ok : XOk C X c) {f : Nat} {es : List E} {x : Expr} (hm : mE (m + 1) c (.call f es) x = true) (s : SOk X.K F H σ δ W) (he : evE C (n + 1) (.call f es) δ = some (a, δ')) (k : HandsOn X F H W σ δ' a Q) : tW X x σ H Q := by
  unfold mE at hm
  simp only at hm
  split at hm
  · rename_i g p0 xs pos
    rw [Bool.or_eq_true] at hm
    rcases hm with hm | hm
    rotate_left
    · rw [Bool.and_eq_true, Bool.and_eq_true] at hm
      obtain ⟨⟨hl, hg⟩, hm⟩ := hm
      split at hm
      · rename_i o q1 m0 q2 y ys q3
        simp only [Bool.and_eq_true] at hm
        obtain ⟨⟨⟨⟨⟨⟨⟨hv, hgo⟩, hdo⟩, hm0⟩, hne⟩, h4⟩, h5⟩, hlen⟩ := hm
        cases same_eq hl
        cases same_eq hm0
        unfold evE at he
        simp only at he
        split at he
        · rename_i as δ1 e1
          obtain ⟨ds, r, outs, ec⟩ := callD_some he
          rcases ok.vm f o (of_decide_eq_true hv) with hn | ⟨Ca, kc, it, C0, ways, O, room, io0, hvv⟩
          · rw [hn] at ec
            cases ec
          · refine Ob.made_list hvv O ok.calm room (ok.gl hg) (ok.blt _ (by decide)) (ok.gl hgo) (notDbg_of hdo).1 h5 hne (of_decide_eq_true hlen) (ih ok h4 s e1 fun vs F' H' W' Wt p h => ?_)
            have cc := (call_ok p h he fun v F2 H2 W2 Wu q hq => k v F2 H2 W2 Wu q hq).2
            rwa [io0] at cc
        · cases he
      · cases hm
    simp only [Bool.and_eq_true] at hm
    obtain ⟨⟨⟨⟨h1, h2⟩, h3⟩, h4⟩, h5⟩ := hm
    unfold evE at he
    simp only at he
    split at he
    · rename_i as δ1 e1
      obtain ⟨ds, r, outs, ec⟩ := callD_some he
      obtain ⟨ad, fd, ps, sp, kk, mg, kp, room, fok, bd, _, imp⟩ := ok.call.fn f g (of_decide_eq_true h1) h3 _ _ _ ec
      have dbg := (notDbg_of h3).1
      have go := ih ok h4 s e1 (Q := fun vs H1 => sp (vs ++ []) H1 Q L2.E0) fun vs F' H' W' Wt p h => by
        show sp (vs ++ []) H' Q L2.E0
        rw [List.append_nil]
        exact imp _ _ _ _ (call_ok p h he fun v F2 H2 W2 Wu q hq => k v F2 H2 W2 Wu q hq).2
      cases xs with
      | nil => exact tW_of (pe_call0 fok room (ok.gl h2) mg kp bd .nil pass0 dbg) go
      | cons y ys => exact tW_of (pe_call fok room (ok.gl h2) mg kp bd .nil pass0 (pa_nest h5) dbg (star_cons _ h5) (star_plain _ _ (noStar_tail h5))) go
    · cases he
  · cases hm

/-! ### built-ins -/
theorem bi_boot (b : Bi) (hb : b.pl = true) : biS b ∈ blts ∧ biS b ≠ "__name__" ∧ (biS b == ("__debug__" : Str)) = false ∧ ((∃ id, biV b = .builtin id ∧ bootBuiltins (biS b) = some (.builtin id)) ∨ ∃ id, biV b = .type id ∧ bootBuiltins (biS b) = some (.type id)) := by
  cases b with
  | len => exact ⟨by decide, by decide +kernel, by decide +kernel, .inl ⟨_, rfl, by decide +kernel⟩⟩
  | abs => exact ⟨by decide, by decide +kernel, by decide +kernel, .inl ⟨_, rfl, by decide +kernel⟩⟩
  | min2 => exact ⟨by decide, by decide +kernel, by decide +kernel, .inl ⟨_, rfl, by decide +kernel⟩⟩
  | max2 => exact ⟨by decide, by decide +kernel, by decide +kernel, .inl ⟨_, rfl, by decide +kernel⟩⟩
  | min1 => exact ⟨by decide, by decide +kernel, by decide +kernel, .inl ⟨_, rfl, by decide +kernel⟩⟩
  | max1 => exact ⟨by decide, by decide +kernel, by decide +kernel, .inl ⟨_, rfl, by decide +kernel⟩⟩
  | sum1 => exact ⟨by decide, by decide +kernel, by decide +kernel, .inl ⟨_, rfl, by decide +kernel⟩⟩
  | int1 => exact ⟨by decide, by decide +kernel, by decide +kernel, .inr ⟨_, rfl, by decide +kernel⟩⟩
  | list1 => exact ⟨by decide, by decide +kernel, by decide +kernel, .inr ⟨_, rfl, by decide +kernel⟩⟩
  | tuple1 => exact ⟨by decide, by decide +kernel, by decide +kernel, .inr ⟨_, rfl, by decide +kernel⟩⟩
  | sorted1 => exact ⟨by decide, by decide +kernel, by decide +kernel, .inl ⟨_, rfl, by decide +kernel⟩⟩
  | all1 => exact ⟨by decide, by decide +kernel, by decide +kernel, .inl ⟨_, rfl, by decide +kernel⟩⟩
  | any1 => exact ⟨by decide, by decide +kernel, by decide +kernel, .inl ⟨_, rfl, by decide +kernel⟩⟩
  | divmod => exact ⟨by decide, by decide +kernel, by decide +kernel, .inl ⟨_, rfl, by decide +kernel⟩⟩
  | lrange => exact nomatch hb
  | trange => exact nomatch hb
  | maxd => exact nomatch hb
  | sset => exact nomatch hb
  | step => exact nomatch hb
  | lenr => exact nomatch hb
inductive RgA : List V → Int → Int → Int → Prop
  | one {j : Int} : RgA [.int j] 0 j 1
  | two {i j : Int} : RgA [.int i, .int j] i j 1
  | three {i j k : Int} : k ≠ 0 → k.natAbs < 1073741824 → RgA [.int i, .int j, .int k] i j k
theorem run_range {pins : List (Addr × Obj)} {s : Shared} {y : Expr} {ys : List Expr} {p pos : Pos} {Q : Int → Int → Int → Hp → Prop} (hg : Gl X "range") (hm : X.mg "range" = none) (hn : noStar (y :: ys) = true) (I : Inv X pins σ H s)
    (h : nestA X (y :: ys) σ H fun vs H1 => ∃ a b c, RgA vs a b c ∧ Q a b c H1) :
    wpAny (model X.prog X.w) X.A (eval (.Call (.Name "range" p) (y :: ys) [] pos) X.env) (fun x s' => ∃ r a b c t u v H', x = .ref r ∧ IsRange s'.heap r a b c t u v ∧ Inv X pins σ H' s' ∧ Q a b c H') X.xe s := by
  refine Call_ (ld_blt I hg hm PyProof.Rows.boot_range (PyProof.Rows.callWith_type1 (thn ((pa_nest hn).run pos pins s σ H _ I h) fun us s1 ⟨vs, H1, I1, r1, q1⟩ => ?_) (star_cons _ hn) (star_plain _ _ (noStar_tail hn))))
  obtain ⟨a, b, c, rg, q⟩ := q1
  cases rg with
  | one =>
    cases r1 with
    | cons r rr =>
      cases rr
      obtain ⟨t, rfl⟩ := r
      exact call_range_1 ⟨_, 0, b, 1, _, _, _, H1, rfl, IsRange.new _ _ _ _ _ _ _, I1.kept fun b u e => Heap.get?_push_of_some _ e, q⟩
  | two =>
    cases r1 with
    | cons r rr =>
      cases rr with
      | cons r' rr =>
        cases rr
        obtain ⟨t, rfl⟩ := r
        obtain ⟨t', rfl⟩ := r'
        exact call_range_2 ⟨_, a, b, 1, _, _, _, H1, rfl, IsRange.new _ _ _ _ _ _ _, I1.kept fun b u e => Heap.get?_push_of_some _ e, q⟩
  | three c0 c1 =>
    cases r1 with
    | cons r rr =>
      cases rr with
      | cons r' rr =>
        cases rr with
        | cons r'' rr =>
          cases rr
          obtain ⟨t, rfl⟩ := r
          obtain ⟨t', rfl⟩ := r'
          obtain ⟨t'', rfl⟩ := r''
          exact call_range_3 c0 ⟨_, a, b, c, _, _, _, H1, rfl, IsRange.new _ _ _ _ _ _ _, I1.kept fun b u e => Heap.get?_push_of_some _ e, q⟩ (.inl (PyProof.noPylong_small (by omega)))
/-- the ints of a range -/
def rgVc (a c : Int) (n : Nat) : List V := (List.range n).map fun i => V.int (a + (i : Nat) * c)
theorem vals_rgc {a c : Int} {n : Nat} {acc : Array Value} (h : ItemsOf (fun i v => ∃ t, v = .int (a + i * c) t) acc n) : Vals (rgVc a c n) acc.toList := by
  have e : acc.toList.length = n := by rw [Array.length_toList]; exact h.1
  unfold rgVc
  rw [← e]
  refine vals_of_get acc.toList _ fun j u hj => ?_
  obtain ⟨t, rfl⟩ := h.2 j u (by rw [← hj, Array.getElem?_toList])
  exact ⟨t, rfl⟩
theorem rgVc_rp {K : PySem.W.Frag} : ∀ (n : Nat) (a c : Int), RpL K F (rgVc a c n) (rangeD a c n)
  | 0, a, c => .nil
  | n + 1, a, c => by
    have e : rgVc a c (n + 1) = V.int a :: rgVc (a + c) c n := by
      unfold rgVc
      rw [List.range_succ_eq_map, List.map_cons, List.map_map]
      congr 1
      · simp
      · refine List.map_congr_left fun i _ => ?_
        show V.int (a + ((i + 1 : Nat) : Int) * c) = V.int (a + c + (i : Nat) * c)
        rw [Int.natCast_succ, Int.add_mul]
        congr 1
        omega
    rw [e]
    exact .cons (.int _) (rgVc_rp n (a + c) c)
theorem rgVc_len (a c : Int) (n : Nat) : (rgVc a c n).length = n := by unfold rgVc; rw [List.length_map, List.length_range]
/-- what a range is, from what is seen -/
theorem range_of {K : PySem.W.Frag} {ds items : List D} {vs : List V} (e : rangeOf ds = some items) (hv : VwL K F H vs ds) (hl : items.length ≤ cap) : ∃ a b c, RgA vs a b c ∧ Builtin.Range.small a b c = true ∧ Builtin.Range.rangeSize a b c = (items.length : Nat) ∧ items = rangeD a c items.length := by
  unfold rangeOf at e
  split at e
  · rename_i j
    split at e
    · rename_i cc
      cases e
      obtain ⟨x, rfl, hx⟩ := hv.one
      cases hx.int
      obtain ⟨b1, b2⟩ := small62_of cc
      refine ⟨0, j, 1, .one, small_one (by decide) (by decide) b1 b2, ?_, by rw [rangeD_length]⟩
      rw [rangeD_length, rangeSize_one]
      split <;> omega
    · cases e
  · rename_i i j
    split at e
    · rename_i cc
      cases e
      obtain ⟨x, y, rfl, hx, hy⟩ := hv.two
      cases hx.int
      cases hy.int
      simp only [Bool.and_eq_true] at cc
      obtain ⟨b1, b2⟩ := small62_of cc.1
      obtain ⟨b3, b4⟩ := small62_of cc.2
      refine ⟨i, j, 1, .two, small_one b1 b2 b3 b4, ?_, by rw [rangeD_length]⟩
      rw [rangeD_length, rangeSize_one]
      split <;> omega
    · cases e
  · rename_i i j k
    split at e
    · rename_i cc
      cases e
      cases hv with
      | cons h1 t =>
        obtain ⟨y, z, rfl, hy, hz⟩ := t.two
        cases h1.int
        cases hy.int
        cases hz.int
        simp only [Bool.and_eq_true, decide_eq_true_eq] at cc
        refine ⟨i, j, k, .three cc.1.2 (by omega), rsmall_ok (by simp only [Bool.and_eq_true]; exact cc.1.1) cc.1.2, ?_, by rw [rangeD_length]⟩
        rw [rangeD_length]
        have nn : 0 ≤ Builtin.Range.rangeSize i j k := by
          unfold Builtin.Range.rangeSize
          split
          · split
            · have : 0 ≤ (j - i - 1) / k := Int.ediv_nonneg (by omega) (by omega)
              omega
            · exact Int.le_refl 0
          · split
            · have : 0 ≤ (i - j - 1) / (-k) := Int.ediv_nonneg (by omega) (by omega)
              omega
            · exact Int.le_refl 0
        unfold rangeN
        omega
    · cases e
  · cases e
end
end Ev

set_option linter.all false
set_option maxRecDepth 100000
set_option maxHeartbeats 4000000
/-! Ev: calls with keywords -/
namespace Ev
open PySem PySem.Spec PyProof.Rows L2
section
variable {K : PySem.W.Frag} {F H : Hp} {σ : L2.St}
theorem AsOk.fam : ∀ {vs : List V} {as : List A} {W : Fp}, AsOk K F H σ vs as W → vs.length = as.length ∧ ∃ U : Nat → Fp, (∀ i v a, vs[i]? = some v → as[i]? = some a → AOk K F H σ v a (U i)) ∧ (∀ i j, i ≠ j → Dj (U i) (U j)) ∧ ∀ i b, U i b → W b
  | _, _, W, .nil => ⟨rfl, fun _ => No, fun i v a h => by simp at h, fun _ _ _ _ q => q.elim, fun _ _ q => q.elim⟩
  | _, _, W, .cons (W1 := W1) (W2 := W2) h1 h2 h3 h4 h5 => by
    obtain ⟨l, U, u1, u2, u3⟩ := AsOk.fam h2
    refine ⟨by simp [l], fun i => match i with
      | 0 => W1
      | i + 1 => U i, fun i v a e1 e2 => ?_, fun i j ne => ?_, fun i b q => ?_⟩
    · cases i with
      | zero => simp at e1 e2; subst e1; subst e2; exact h1
      | succ i => exact u1 i v a (by simpa using e1) (by simpa using e2)
    · cases i with
      | zero =>
        cases j with
        | zero => exact absurd rfl ne
        | succ j => exact fun b q r => h3 b q (u3 j b r)
      | succ i =>
        cases j with
        | zero => exact fun b q r => h3 b r (u3 i b q)
        | succ j => exact u2 i j fun e => ne (by rw [e])
    · cases i with
      | zero => exact h4 b q
      | succ i => exact h5 b (u3 i b q)
theorem perm_ok {vs : List V} {as : List A} {W : Fp} {U : Nat → Fp} (hl : vs.length = as.length) (u1 : ∀ i v a, vs[i]? = some v → as[i]? = some a → AOk K F H σ v a (U i)) (u2 : ∀ i j, i ≠ j → Dj (U i) (U j)) (u3 : ∀ i b, U i b → W b) :
    ∀ {perm : List Nat} {as' : List A}, perm.Nodup → permD perm as = some as' → AsOk K F H σ (permL perm .non vs) as' (fun b => ∃ i ∈ perm, U i b)
  | [], as', _, e => by
    simp [permD] at e
    subst e
    exact .nil
  | i :: perm, as', nd, e => by
    unfold permD at e
    rw [List.mapM_cons] at e
    cases e1 : as[i]? with
    | none => rw [e1] at e; cases e
    | some a =>
      rw [e1] at e
      cases e2 : perm.mapM fun i => as[i]? with
      | none => rw [e2] at e; cases e
      | some r =>
        rw [e2] at e
        cases e
        have lt : i < vs.length := by rw [hl]; exact (List.getElem?_eq_some_iff.mp e1).1
        have ev : vs[i]? = some vs[i] := List.getElem?_eq_getElem lt
        have ih := perm_ok hl u1 u2 u3 (perm := perm) (as' := r) (List.nodup_cons.mp nd).2 e2
        show AsOk K F H σ (vs.getD i .non :: permL perm .non vs) (a :: r) _
        rw [show vs.getD i .non = vs[i] by simp [lt]]
        refine .cons (u1 i _ _ ev e1) ih (fun b q ⟨j, hj, r⟩ => u2 i j (fun e => (List.nodup_cons.mp nd).1 (e ▸ hj)) b q r) (fun b q => ⟨i, by simp, q⟩) fun b ⟨j, hj, q⟩ => ⟨j, by simp [hj], q⟩
theorem AsOk.perm {vs : List V} {as as' : List A} {W : Fp} {perm : List Nat} (h : AsOk K F H σ vs as W) (nd : perm.Nodup) (e : permD perm as = some as') : AsOk K F H σ (permL perm .non vs) as' W := by
  obtain ⟨l, U, u1, u2, u3⟩ := h.fam
  exact (perm_ok l u1 u2 u3 nd e).weak fun b ⟨i, _, q⟩ => u3 i b q
end
section
variable {X : Cx}
theorem pk_nest : ∀ {kws : List Keyword}, PK X kws (nestA X (kwVals kws))
  | [] => pk_nil
  | ⟨_, _, _⟩ :: kws => pk_cons pe_tW pk_nest
theorem nestA_split : ∀ {xs ys : List Expr} {σ : L2.St} {H : Hp} {Q : List V → Hp → Prop}, nestA X (xs ++ ys) σ H Q → nestA X xs σ H fun vs H1 => vs.length = xs.length ∧ nestA X ys σ H1 fun zs H2 => zs.length = ys.length ∧ Q (vs ++ zs) H2
  | [], ys, σ, H, Q, h => by
    have len : ∀ {ys : List Expr} {σ : L2.St} {H : Hp} {Q : List V → Hp → Prop}, nestA X ys σ H Q → nestA X ys σ H fun zs H2 => zs.length = ys.length ∧ Q zs H2 := by
      intro ys
      induction ys with
      | nil => intro σ H Q h; exact ⟨rfl, h⟩
      | cons y ys ih => intro σ H Q h; exact tW_mono h fun v H1 q => nestA_mono (ih q) fun zs H2 z => ⟨by rw [List.length_cons, List.length_cons, z.1], z.2⟩
    exact ⟨rfl, len h⟩
  | x :: xs, ys, σ, H, Q, h => tW_mono h fun v H1 q => nestA_mono (nestA_split q) fun vs H2 z => ⟨by rw [List.length_cons, List.length_cons, z.1], z.2⟩
theorem kwNames_each (env : Env) (pos : Pos) : ∀ {kws : List Keyword} {ks : List Str}, kwNames kws = some ks → (backToKw pos (keywordEach kws env)).all (·.1.isSome) = true ∧ (backToKw pos (keywordEach kws env)).filterMap (·.1) = ks ∧ (backToKw pos (keywordEach kws env)).any (·.1.isNone) = false
  | [], ks, e => by
    simp only [kwNames, Option.some.injEq] at e
    subst e
    exact ⟨rfl, rfl, rfl⟩
  | ⟨none, _, _⟩ :: kws, ks, e => by simp [kwNames] at e
  | ⟨some x, v, p⟩ :: kws, ks, e => by
    simp only [kwNames, Option.map_eq_some_iff] at e
    obtain ⟨ks', e1, rfl⟩ := e
    obtain ⟨h1, h2, h3⟩ := kwNames_each env pos e1
    unfold backToKw at h1 h2 h3 ⊢
    refine ⟨?_, ?_, ?_⟩
    · show (true && _) = true
      rw [h1]; rfl
    · show List.filterMap (·.1) ((some x, _) :: _) = x :: ks'
      rw [List.filterMap_cons]
      simp only
      rw [h2]
    · show (false || _) = false
      rw [h3]; rfl
theorem kwNames_len : ∀ {kws : List Keyword} {ks : List Str}, kwNames kws = some ks → (kwVals kws).length = ks.length
  | [], ks, e => by simp only [kwNames, Option.some.injEq] at e; subst e; rfl
  | ⟨none, _, _⟩ :: kws, ks, e => by simp [kwNames] at e
  | ⟨some x, v, p⟩ :: kws, ks, e => by
    simp only [kwNames, Option.map_eq_some_iff] at e
    obtain ⟨ks', e1, rfl⟩ := e
    have := kwNames_len e1
    simp only [kwVals, List.map_cons, List.length_cons] at this ⊢
    rw [this]
theorem vals_getD : ∀ {vs : List V} {us : List Value} (i : Nat), Vals vs us → L2.RelV (vs.getD i .non) (us.getD i .none)
  | [], [], i, .nil => by simp [L2.RelV]
  | _ :: _, _, 0, .cons r _ => r
  | _ :: _, _, i + 1, .cons _ t => by simpa using vals_getD i t
theorem vals_perm {vs : List V} {us : List Value} (r : Vals vs us) : ∀ perm : List Nat, Vals (permL perm .non vs) (permL perm .none us)
  | [] => .nil
  | i :: perm => .cons (vals_getD i r) (vals_perm r perm)
theorem KwOk.kbn {fd : FuncData} {ps : List Str} {p : KwP} (h : KwOk X.K fd ps p) : KBn X.K fd ps p.n p.ks (fun us ws => permL p.perm .none (us ++ ws)) fun vs zs => permL p.perm .non (vs ++ zs) :=
  ⟨fun s us ws _ l1 l2 => h.1 s us ws l1 l2, fun r1 r2 => vals_perm (r1.append r2) _⟩
theorem pe_callN0 {CX : CXT} {k : Nat} {f : Addr} {fd : FuncData} {ps ks : List Str} {sp : Sp} {E : XK} {x : Str} {p pos : Pos} {kws : List Keyword} {tk : TA} {g : List Value → List Value → List Value} {gV : List V → List V → List V}
    (Fo : FnOk X.prog X.w X.K X.mg X.base CX k f fd ps sp) (hr : Room k X.A) (hg : Gl X x) (hm : X.mg x = some (.ref f)) (hk : PySem.W.keepIn X.K (.ref f) = true) (hb : KBn X.K fd ps 0 ks g gV) (hx : Passes CX X E)
    (hkw : PK X kws tk) (hall : (backToKw pos (keywordEach kws X.env)).all (·.1.isSome) = true) (hks : (backToKw pos (keywordEach kws X.env)).filterMap (·.1) = ks)
    (hdb : (x == ("__debug__" : Str)) = false) (hpl : ((backTo pos (starEach [] X.env)).any (·.1) || (backToKw pos (keywordEach kws X.env)).any (·.1.isNone)) = false) :
    PE X (.Call (.Name x p) [] kws pos) (fun σ H Q => tk σ H fun zs H2 => zs.length = ks.length ∧ sp (gV [] zs) H2 Q E) := by
  refine ⟨fun pins s σ H Q I h => ?_⟩
  refine wpAny_Call_Name_kw (ld_glob I hg hm ?_ hdb)
  refine PySem.W.callWith_KW0 (h₀ := X.base) I.ok.mod.kin hk hall (thn (hkw.run pos pins s σ H _ I h) fun ws s2 ⟨zs, H2, I2, rz, l2, q2⟩ => ⟨I2.kIn, ?_⟩) hpl
  rw [hks]
  exact run_fnN (us := []) (vs := []) Fo hr hb hx I2 .nil rz rfl l2 q2
end
section
variable {C : Ctx} {n m : Nat} {X : Cx} {c : Cxt} {F H : Hp} {W : Fp} {σ : L2.St} {δ δ' : Dl} {a : A} {Q : VK}
theorem e_callK (ih : SAs C n) (ok : XOk C X c) {f : Nat} {es : List E} {perm : List Nat} {x : Expr} (hm : mE (m + 1) c (.callK f es perm) x = true) (s : SOk X.K F H σ δ W) (he : evE C (n + 1) (.callK f es perm) δ = some (a, δ')) (k : HandsOn X F H W σ δ' a Q) : tW X x σ H Q := by
  unfold mE at hm
  simp only at hm
  split at hm
  · rename_i g p0 xs k0 kws pos
    simp only [Bool.and_eq_true] at hm
    obtain ⟨⟨⟨⟨⟨h1, h2⟩, h3⟩, h4⟩, h5⟩, h6⟩ := hm
    unfold kwIn at h6
    split at h6
    · rename_i ks hks
      have h6 := of_decide_eq_true h6
      unfold evE at he
      simp only at he
      split at he
      · rename_i as δ1 e1
        split at he
        · rename_i as2 e2
          obtain ⟨ds, r, outs, ec⟩ := callD_some he
          obtain ⟨ad, fd, ps, sp, kk, mg, kp, room, fok, bd, kw, imp⟩ := ok.call.fn f g (of_decide_eq_true h1) (by assumption) _ _ _ ec
          have KO := kw _ h6
          have dbg := (notDbg_of h3).1
          obtain ⟨n1, n2, n3⟩ := kwNames_each X.env pos hks
          have n4 := kwNames_len hks
          have go := ih ok h4 s e1 (Q := fun vs H1 => sp (permL perm .non vs) H1 Q L2.E0) fun vs F' H' W' Wt p h => by
            exact imp _ _ _ _ (call_ok p (h.perm KO.2.1 e2) he fun v F2 H2 W2 Wu q hq => k v F2 H2 W2 Wu q hq).2
          have go2 := nestA_split go
          cases xs with
          | nil => exact tW_of (pe_callN0 fok room (ok.gl h2) mg kp KO.kbn pass0 pk_nest n1 n2 dbg (by rw [n3]; rfl)) (nestA_mono go2.2 fun zs H2 z => ⟨z.1.trans n4, z.2⟩)
          | cons y ys => exact tW_of (pe_callN fok room (ok.gl h2) mg kp KO.kbn pass0 (pa_nest h5) pk_nest n1 n2 dbg (star_cons _ h5) (by rw [star_plain _ _ h5, n3]; rfl)) (nestA_mono go2 fun vs H1 z => nestA_mono z.2 fun zs H2 t => ⟨z.1, t.1.trans n4, t.2⟩)
        · cases he
      · cases he
    · cases h6
  · cases hm
end
end Ev

set_option linter.all false
set_option maxRecDepth 100000
set_option maxHeartbeats 4000000
/-! Ev: max with default= -/
namespace Ev
open PySem PySem.Spec PyProof.Rows L2
def rMaxDef (K : PySem.W.Frag) : List V → List V → Hp → VK → Prop := fun vs zs H Q => ∃ (a : Addr) (ns : List Int) (z : Int), vs = [V.ref a] ∧ zs = [.int z] ∧ SqL K H a (ns.map V.int) ∧ (ns = [] → Q (.int z) H) ∧ ∀ n ms, ns = n :: ms → Q (.int (ms.foldl max n)) H
section
variable {X : Cx}
open PySem.W in
theorem cr_maxDef (hc : X.calm = true) (hu : X.A.units + 60 < cLine) : CallRK X (.builtin "max") [Str.ofString "default"] (rMaxDef X.K) := by
  intro pins s σ H vs zs us ws Q I r rz h
  obtain ⟨a, ns, z, rfl, rfl, hs, q0, q1⟩ := h
  obtain rfl := Vals.ref1 r
  obtain ⟨w1, rfl, e1⟩ := vals1 rz
  obtain ⟨its, rv, hl, _⟩ := I.list hs
  have rd := ints_readAll s.heap rv.ints
  have dp := depth_ints ns
  show wpAny _ _ (call (.builtin "max") [.ref a] [(Str.ofString "default", w1)]) _ _ _
  refine max_list_default (I.ok.hd hc) hl.isList (by simpa using rd) (alike_ints ns) (by omega) (fun e h' tk hk => ?_) (fun y ys i v h' tk bs e hi hr hk => ?_)
  · have e0 : ns = [] := by cases ns with
      | nil => rfl
      | cons => simp at e
    exact ⟨.int z, H, I.kept hk, e1, q0 e0⟩
  · cases ns with
    | nil => simp at e
    | cons n ms =>
      simp only [List.map_cons, List.cons.injEq] at e
      obtain ⟨rfl, rfl⟩ := e
      rw [maxD_ints] at hr
      cases hr with
      | int => exact ⟨.int _, H, I.kept hk, ⟨_, rfl⟩, q1 n ms rfl⟩
end
end Ev

set_option linter.all false
set_option maxRecDepth 100000
set_option maxHeartbeats 4000000
/-! Ev: displays with a star; what is asked with all shared -/
namespace Ev
open PySem PySem.Spec PyProof.Rows L2 StX
section
variable {C : Ctx} {X : Cx} {c : Cxt} {n m : Nat} {σ : L2.St} {δ δ' : Dl} {F H : Hp} {W : Fp} {a : A} {Q : VK}
noncomputable def nestS (X : Cx) : List Expr → Expr → List Expr → TA
  | [], y, qs => tStar X.K (tW X y) (nestA X qs)
  | p :: ps, y, qs => fun σ H Q => tW X p σ H fun v H1 => nestS X ps y qs σ H1 fun vs H2 => Q (v :: vs) H2
theorem star_cons1 {e : Expr} {es : List Expr} (env : Env) (h : noStar [e] = true) : starEach (e :: es) env = (false, eval e env) :: starEach es env := by
  cases e <;> first | rfl | simp [noStar] at h
theorem noStar_head {e : Expr} {es : List Expr} (h : noStar (e :: es) = true) : noStar [e] = true := by
  cases e <;> first | rfl | simp [noStar] at h
theorem pa_nestS : ∀ {ps : List Expr} {y : Expr} {qs : List Expr} {p : Pos}, noStar ps = true → noStar qs = true → PA X (ps ++ .Starred y p :: qs) (nestS X ps y qs)
  | [], y, qs, p, _, h2 => pa_star pe_tW (pa_nest h2)
  | e :: ps, y, qs, p, h1, h2 => pa_cons pe_tW (pa_nestS (noStar_tail h1) h2) (star_cons1 X.env (noStar_head h1))
theorem nestS_of : ∀ {ps : List Expr} {y : Expr} {qs : List Expr} {σ : L2.St} {H : Hp} {Q : List V → Hp → Prop},
    nestA X ps σ H (fun us H1 => tW X y σ H1 fun v H2 => ∃ p xs, v = V.ref p ∧ (SqT X.K H2 p xs ∨ SqL X.K H2 p xs) ∧ nestA X qs σ H2 fun ws H3 => Q (us ++ xs ++ ws) H3) → nestS X ps y qs σ H Q
  | [], y, qs, σ, H, Q, h => tW_mono h fun v H2 ⟨p, xs, e, sq, q⟩ => ⟨p, xs, e, sq, nestA_mono q fun ws H3 z => by simpa using z⟩
  | e :: ps, y, qs, σ, H, Q, h => tW_mono h fun v H1 q => nestS_of (nestA_mono q fun us H2 z => tW_mono z fun w H3 ⟨p, xs, e, sq, q⟩ => ⟨p, xs, e, sq, nestA_mono q fun ws H4 z => by simpa using z⟩)
/-- values that are shared, in a row -/
def SVs (C : Ctx) (n : Nat) : Prop := ∀ {X : Cx} {c : Cxt}, XOk C X c → ∀ {m : Nat} {es : List E} {xs : List Expr} {σ : L2.St} {δ : Dl} {F H : Hp} {W : Fp} {ds : List D} {δ' : Dl} {Q : List V → Hp → Prop}, mEs m c es xs = true → SOk X.K F H σ δ W → evVs C n es δ = some (ds, δ') →
  (∀ vs F' H' W', Post X.K F H W F' H' σ δ' W' No → RpL X.K F' vs (frzs ds) → Q vs H') → nestA X xs σ H Q
theorem s_vs (ih : SAs C n) : SVs C (n + 1) := by
  intro X c ok m es xs σ δ F H W ds δ' Q hm s he k
  unfold evVs at he
  split at he
  · rename_i as δ1 e1
    refine ih ok hm s e1 fun vs F' H' W' Wt p h => ?_
    obtain ⟨F2, p2, o⟩ := p.toVs h he
    obtain ⟨F3, p3, r⟩ := p2.shareL o
    exact k _ _ _ _ p3 r
  · cases he
theorem items_frz {d : D} {xs : List D} (h : items d.frz = some xs) : d.frz = .tup xs ∨ d.frz = .lst false xs := by
  cases d with
  | tup ys => simp [D.frz, items] at h ⊢; exact h
  | lst o ys => simp [D.frz, items, fzs_frzs] at h ⊢; exact h
  | _ => simp [D.frz, items] at h
theorem seq_of {K : PySem.W.Frag} {F H : Hp} (s : Same F H) {v : V} {d : D} {xs : List D} (r : Rp K F v d) (h : d = .tup xs ∨ d = .lst false xs) : ∃ p vs, v = .ref p ∧ (SqT K H p vs ∨ SqL K H p vs) ∧ RpL K F vs xs := by
  rcases h with rfl | rfl
  · cases r with
    | tup h l => exact ⟨_, _, rfl, .inl (sqt_mono s h), l⟩
  · cases r with
    | lst h l => exact ⟨_, _, rfl, .inr (SqL.of (s _ _ h)), l⟩
theorem mDis_of {pre post : List E} {st : E} {xs : List Expr} (hm : mDis m c pre st post xs = true) : ∃ m1 ps y p qs, xs = ps ++ .Starred y p :: qs ∧ mEs m1 c pre ps = true ∧ noStar ps = true ∧ mE m1 c st y = true ∧ mEs m1 c post qs = true ∧ noStar qs = true := by
  cases m with
  | zero => simp [mDis] at hm
  | succ m =>
    unfold mDis at hm
    split at hm
    · rename_i y p qs e
      simp only [Bool.and_eq_true] at hm
      obtain ⟨⟨⟨⟨h1, h2⟩, h3⟩, h4⟩, h5⟩ := hm
      refine ⟨m, xs.take pre.length, y, p, qs, ?_, h1, h2, h3, h4, h5⟩
      rw [← e, List.take_append_drop]
    · cases hm
theorem dis_reading (ihv : SV C n) (ihs : SVs C n) (ok : XOk C X c) {l : Bool} {pre post : List E} {st : E} {ps qs : List Expr} {y : Expr} {m1 : Nat} (h1 : mEs m1 c pre ps = true) (h3 : mE m1 c st y = true) (h4 : mEs m1 c post qs = true) (s : SOk X.K F H σ δ W) (he : evE C (n + 1) (.disS l pre st post) δ = some (a, δ')) {R : List V → Hp → Prop}
    (k : ∀ vs ds F' H' W', a = .tmp (disD l ds) → Post X.K F H W F' H' σ δ' W' No → RpL X.K F' vs ds → ds.length ≤ cap → R vs H') : nestS X ps y qs σ H R := by
  unfold evE at he
  simp only at he
  split at he
  · rename_i ds δ1 e1
    split at he
    · rename_i d δ2 e2
      split at he
      · rename_i xs e3
        split at he
        · rename_i bs δ3 e4
          split at he
          · rename_i hl
            cases he
            have hl := of_decide_eq_true hl
            refine nestS_of (ihs ok h1 s e1 fun us F1 H1 W1 p1 r1 => ?_)
            refine ihv ok h3 p1.ok e2 fun v F2 H2 W2 Wt p2 o2 => ?_
            obtain ⟨F3, p3, r3⟩ := p2.shareV o2
            obtain ⟨p, vs, rfl, sq, rx⟩ := seq_of p3.ok.sub r3 (items_frz e3)
            refine ⟨p, vs, rfl, sq, ?_⟩
            refine ihs ok h4 p3.ok e4 fun ws F4 H4 W4 p4 r4 => ?_
            have P := (p1.trans0 p3).trans0 p4
            refine k _ _ _ _ _ rfl P (((r1.mono (p3.ext.fsub.trans p4.ext.fsub)).append (rx.mono p4.ext.fsub)).append r4) ?_
            rw [List.length_append, List.length_append, frzs_length, frzs_length]
            exact hl
          · cases he
        · cases he
      · cases he
    · cases he
  · cases he
theorem e_disS (ihv : SV C n) (ihs : SVs C n) (ok : XOk C X c) {l : Bool} {pre post : List E} {st : E} {x : Expr} (hm : mE (m + 1) c (.disS l pre st post) x = true) (s : SOk X.K F H σ δ W) (he : evE C (n + 1) (.disS l pre st post) δ = some (a, δ')) (k : HandsOn X F H W σ δ' a Q) : tW X x σ H Q := by
  have := cap_line
  unfold mE at hm
  simp only at hm
  split at hm
  · split at hm
    · obtain ⟨m1, ps, y, p, qs, rfl, h1, h2, h3, h4, h5⟩ := mDis_of hm
      refine tW_of (pe_lst (pa_nestS h2 h5)) (dis_reading ihv ihs ok h1 h3 h4 s he fun vs ds F' H' W' ea P r hl => ?_)
      subst ea
      refine ⟨by rw [r.length]; omega, fun q hq => ?_⟩
      have fz : fzs ds = true := r.fz
      exact k _ _ _ _ _ (P.newW (New.list P.ok.sub hq)) (.tmp (Ow.list P.ok.sub hq r))
    · cases hm
  · split at hm
    · obtain ⟨m1, ps, y, p, qs, rfl, h1, h2, h3, h4, h5⟩ := mDis_of hm
      refine tW_of (pe_tup (pa_nestS h2 h5)) (dis_reading ihv ihs ok h1 h3 h4 s he fun vs ds F' H' W' ea P r hl => ?_)
      subst ea
      refine ⟨by rw [r.length]; omega, fun q hq => ?_⟩
      exact k _ _ _ _ _ (P.newW (New.tuple P.ok.sub hq)) (.tmp (Ow.tuple P.ok.sub hq r))
    · cases hm
/-! all is shared -/
theorem StL.frzA {K : PySem.W.Frag} {F H : Hp} {U : Fp} (s : Same F H) : ∀ {σ : L2.St} {δ : Dl} {W : Fp}, StL K F H σ δ W → (∀ b, W b → U b) → StL K (fzH F H U) H σ (frzA δ) No
  | _, _, _, .nil, _ => .nil
  | _, _, _, .gap h, k => .gap (StL.frzA s h k)
  | _, _, _, .one h1 h2 h3 h4 h5, k => .one (W1 := No) (W2 := No) (.frz (h1.share s fun b q => k b (h4 b q))) (StL.frzA s h2 fun b q => k b (h5 b q)) (fun _ q => q.elim) (fun _ q => q.elim) fun _ q => q.elim
theorem e_pur (ih : SE C n) (ok : XOk C X c) {e : E} {x : Expr} (hm : mE (m + 1) c (.pur e) x = true) (s : SOk X.K F H σ δ W) (he : evE C (n + 1) (.pur e) δ = some (a, δ')) (k : HandsOn X F H W σ δ' a Q) : tW X x σ H Q := by
  unfold mE at hm
  simp only at hm
  split at hm
  · unfold evE at he
    simp only at he
    split at he
    · rename_i d δ1 e1
      split at he
      · rename_i hat
        cases he
        have s' : SOk X.K (fzH F H W) H σ (frzA δ) No := ⟨fzH_le s.sub, s.st.frzA s.sub fun _ q => q, fun _ q => q.elim⟩
        refine ih ok hm s' e1 fun v F' H' W' Wt p h => ?_
        have sH : Same H H' := fun b o e => p.ext.keep b o e fun q => q.elim
        cases h with
        | tmp o =>
          refine k v F H' W No ⟨⟨s.sub.trans sH, s.st.keep (fun _ _ e => e) fun b q o e f => ⟨sH _ _ e, f⟩, fun b q e => s.lv b q (p.ext.live b e)⟩, fun _ q => q.elim, fun _ q => q.elim, ⟨fun _ _ e => e, fun _ _ e => .inl e, fun b o e _ => sH _ _ e, p.ext.live, fun b q => .inl (q.elim False.elim id)⟩⟩ (.tmp (.frz (atom_rp o hat)))
      · cases he
    · cases he
  · cases hm
end
end Ev

set_option linter.all false
set_option maxRecDepth 100000
set_option maxHeartbeats 4000000
/-! Ev: sorted(set(..)) of pairs of small numbers -/
namespace Ev
open PySem PySem.Spec PyProof.Rows L2
def small2 (p : Nat × Nat) : Prop := p.1 < 64 ∧ p.2 < 64
theorem key_inj {p q : Nat × Nat} (a : small2 p) (b : small2 q) (h : keyP p = keyP q) : p = q := by
  obtain ⟨x, y⟩ := p
  obtain ⟨u, v⟩ := q
  simp only [small2, keyP] at *
  have : x = u := by omega
  have : y = v := by omega
  subst x y
  rfl
theorem mem_insP {p : Nat × Nat} (sp : small2 p) : ∀ {l : List (Nat × Nat)}, (∀ q ∈ l, small2 q) → ∀ {x}, x ∈ insP p l ↔ x = p ∨ x ∈ l
  | [], _, x => by simp [insP]
  | q :: l, h, x => by
    unfold insP
    split
    · simp
    · split
      · rename_i e
        have e := Nat.eq_of_beq_eq_true e
        have := key_inj sp (h q (by simp)) e
        subst this
        simp
      · simp only [List.mem_cons, mem_insP sp (l := l) (fun r hr => h r (by simp [hr]))]
        constructor
        · rintro (h | h | h) <;> simp [h]
        · rintro (h | h | h) <;> simp [h]
theorem mem_ssetP : ∀ {l : List (Nat × Nat)}, (∀ q ∈ l, small2 q) → ∀ {x}, x ∈ ssetP l ↔ x ∈ l
  | [], _, x => by simp [ssetP]
  | p :: l, h, x => by
    have ih := fun {x} => mem_ssetP (l := l) (fun r hr => h r (by simp [hr])) (x := x)
    unfold ssetP
    rw [mem_insP (h p (by simp)) (fun q hq => h q (List.mem_cons_of_mem _ (ih.mp hq))), ih, List.mem_cons]
theorem insP_pw {p : Nat × Nat} (sp : small2 p) : ∀ {l : List (Nat × Nat)}, (∀ q ∈ l, small2 q) → l.Pairwise (fun a b => keyP a < keyP b) → (insP p l).Pairwise (fun a b => keyP a < keyP b)
  | [], _, _ => by simp [insP]
  | q :: l, h, w => by
    have w' := List.pairwise_cons.mp w
    unfold insP
    split
    · rename_i lt
      have lt := Nat.blt_eq.mp lt
      refine List.pairwise_cons.mpr ⟨fun r hr => ?_, w⟩
      rcases List.mem_cons.mp hr with rfl | hr
      · exact lt
      · exact Nat.lt_trans lt (w'.1 r hr)
    · rename_i nl
      split
      · exact w
      · rename_i ne
        refine List.pairwise_cons.mpr ⟨fun r hr => ?_, insP_pw sp (fun r hr => h r (by simp [hr])) w'.2⟩
        rcases (mem_insP sp (fun r hr => h r (by simp [hr]))).mp hr with rfl | hr
        · have a : ¬ keyP r < keyP q := fun c => nl (Nat.blt_eq.mpr c)
          have b : ¬ keyP r = keyP q := fun c => ne (by rw [c]; exact Nat.beq_refl _)
          omega
        · exact w'.1 r hr
theorem ssetP_pw : ∀ {l : List (Nat × Nat)}, (∀ q ∈ l, small2 q) → (ssetP l).Pairwise (fun a b => keyP a < keyP b)
  | [], _ => .nil
  | p :: l, h => insP_pw (h p (by simp)) (fun q hq => h q (List.mem_cons_of_mem _ ((mem_ssetP fun r hr => h r (by simp [hr])).mp hq))) (ssetP_pw fun r hr => h r (by simp [hr]))
/-- two lists that rise strictly, of the same members -/
theorem rise_eq {α : Type} {f : α → Int} : ∀ {a b : List α}, a.Pairwise (fun x y => f x < f y) → b.Pairwise (fun x y => f x < f y) → (∀ x, x ∈ a ↔ x ∈ b) → a = b
  | [], [], _, _, _ => rfl
  | [], y :: b, _, _, h => absurd ((h y).mpr (by simp)) (by simp)
  | x :: a, [], _, _, h => absurd ((h x).mp (by simp)) (by simp)
  | x :: a, y :: b, p, q, h => by
    have p' := List.pairwise_cons.mp p
    have q' := List.pairwise_cons.mp q
    have e : x = y := by
      rcases List.mem_cons.mp ((h x).mp (by simp)) with e | e
      · exact e
      · rcases List.mem_cons.mp ((h y).mpr (by simp)) with e2 | e2
        · exact e2.symm
        · have := q'.1 x e
          have := p'.1 y e2
          omega
    subst e
    congr 1
    refine rise_eq p'.2 q'.2 fun z => ⟨fun hz => ?_, fun hz => ?_⟩
    · rcases List.mem_cons.mp ((h z).mp (by simp [hz])) with e | e
      · subst e; have := p'.1 z hz; omega
      · exact e
    · rcases List.mem_cons.mp ((h z).mpr (by simp [hz])) with e | e
      · subst e; have := q'.1 z hz; omega
      · exact e
def intsP (p : Nat × Nat) : List Int := [(p.1 : Int), (p.2 : Int)]
theorem code_intsP (p : Nat × Nat) : TS.code 64 (intsP p) = (keyP p : Nat) := by
  unfold intsP keyP
  rw [code_pair]
  omega
theorem small_of : ∀ {ds : List D} {ps : List (Nat × Nat)}, pairsOf ds = some ps → (∀ q ∈ ps, small2 q) ∧ ds = ps.map pairD
  | [], ps, e => by cases e; exact ⟨fun q h => (by cases h), rfl⟩
  | d :: ds, ps, e => by
    unfold pairsOf at e
    split at e
    · rename_i h; cases h
    · rename_i x y ds' h
      cases h
      split at e
      · rename_i c
        rw [Bool.and_eq_true, Nat.blt_eq, Nat.blt_eq] at c
        rw [Option.map_eq_some_iff] at e
        obtain ⟨qs, e1, rfl⟩ := e
        obtain ⟨a, b⟩ := small_of e1
        refine ⟨fun q hq => ?_, by rw [b]; rfl⟩
        rcases List.mem_cons.mp hq with rfl | hq
        · exact c
        · exact a q hq
      · cases e
    · cases e
/-- what sorted gives of the set of some pairs -/
theorem sset_uniq {ps : List (Nat × Nat)} {L : List (List Int)} (h : ∀ q ∈ ps, small2 q) (nd : L.Nodup) (pw : L.Pairwise fun a b => TS.code 64 a ≤ TS.code 64 b) (hm : ∀ x, x ∈ L ↔ x ∈ ps.map intsP) : L = (ssetP ps).map intsP := by
  have ci : ∀ a ∈ L, ∀ b ∈ L, TS.code 64 a = TS.code 64 b → a = b := fun a ha b hb e => by
    obtain ⟨p, hp, rfl⟩ := List.mem_map.mp ((hm a).mp ha)
    obtain ⟨q, hq, rfl⟩ := List.mem_map.mp ((hm b).mp hb)
    rw [code_intsP, code_intsP] at e
    rw [key_inj (h p hp) (h q hq) (by omega)]
  refine rise_eq (f := TS.code 64) ?_ ?_ fun x => ?_
  · have := pw.and nd
    refine List.Pairwise.imp_of_mem ?_ this
    intro a b ha hb ⟨h1, h2⟩
    rcases Int.lt_or_eq_of_le h1 with h | h
    · exact h
    · exact absurd (ci a ha b hb h) h2
  · rw [List.pairwise_map]
    refine (ssetP_pw h).imp fun {a b} hab => ?_
    rw [code_intsP, code_intsP]
    omega
  · rw [hm, List.mem_map, List.mem_map]
    constructor
    · rintro ⟨p, hp, rfl⟩
      exact ⟨p, (mem_ssetP h).mpr hp, rfl⟩
    · rintro ⟨p, hp, rfl⟩
      exact ⟨p, (mem_ssetP h).mp hp, rfl⟩
theorem pairs_fz : ∀ ps : List (Nat × Nat), fzs (ps.map pairD) = true
  | [] => rfl
  | p :: ps => by
    simp only [List.map_cons, fzs, pairs_fz ps]
    rfl
section
variable {K : PySem.W.Frag} {X : Cx} {F H : Hp}
theorem pairs_rp : ∀ {ps : List (Nat × Nat)} {vs : List V}, RpL K F vs (ps.map pairD) → ∃ ks : List (Addr × List Int), vs = ks.map (fun p => V.ref p.1) ∧ ks.map Prod.snd = ps.map intsP ∧ ∀ p ∈ ks, SqT K F p.1 (p.2.map V.int)
  | [], _, h => by cases h; exact ⟨[], rfl, rfl, fun p q => by cases q⟩
  | p :: ps, _, h => by
    cases h with
    | cons r t =>
      obtain ⟨ks, e1, e2, e3⟩ := pairs_rp t
      change Rp K F _ (.tup [.int p.1, .int p.2]) at r
      cases r with
      | tup q l =>
        rename_i a ws
        obtain ⟨rfl, _⟩ := l.ints (ns := intsP p) rfl
        refine ⟨(a, intsP p) :: ks, by rw [e1]; rfl, by rw [List.map_cons, e2]; rfl, fun x hx => ?_⟩
        rcases List.mem_cons.mp hx with rfl | hx
        · exact q
        · exact e3 x hx
theorem rp_pairs : ∀ {L : List (Addr × List Int)} {qs : List (Nat × Nat)}, (∀ p ∈ L, SqT K F p.1 (p.2.map V.int)) → L.map Prod.snd = qs.map intsP → RpL K F (L.map fun p => V.ref p.1) (qs.map pairD)
  | [], [], _, _ => .nil
  | [], q :: qs, _, e => by simp at e
  | p :: L, [], _, e => by simp at e
  | p :: L, q :: qs, h, e => by
    simp only [List.map_cons, List.cons.injEq] at e
    refine .cons ?_ (rp_pairs (fun x hx => h x (by simp [hx])) e.2)
    have := h p (by simp)
    rw [e.1] at this
    exact .tup this (ints_rp [(q.1 : Int), (q.2 : Int)])
theorem New.junk {a : Addr} {o : HO} (s : Same F H) (h : H a = none) : New F H F (upd H a o) No where
  sub := fun b o' e => by
    have q := s b o' e
    rw [upd_ne (ne_of_none q h)]
    exact q
  lt := fun _ q => q.elim
  ext := ⟨fun _ _ e => e, fun _ _ e => .inl e, fun b o' e _ => by rw [upd_ne (ne_of_none e h)]; exact e, fun b e => by
    by_cases hb : b = a
    · rw [hb]; exact h
    · rw [upd_ne hb] at e; exact e, fun b e => e.elim⟩
theorem Goes.junk {d : D} {Q : VK} {a : Addr} {o : HO} (g : Goes X F H d Q) (s : Same F H) (h : H a = none) : Goes X F (upd H a o) d Q :=
  fun v F2 H2 Wn ow nw => g v F2 H2 Wn ow ⟨nw.sub, nw.lt, (New.junk s h).ext.trans nw.ext⟩
end
theorem sset_inv {ds : List D} {d : D} (e : biD .sset ds = some d) : ∃ o xs ps, ds = [.lst o xs] ∧ pairsOf xs = some ps ∧ xs.length ≤ 60 ∧ d = .lst true ((ssetP ps).map pairD) := by
  rcases ds with _ | ⟨x, _ | ⟨y, t⟩⟩
  · simp [biD] at e
  · cases x with
    | lst o xs =>
      have e : (match pairsOf xs with
        | some ps => if Nat.ble xs.length 60 then some (D.lst true ((ssetP ps).map pairD)) else none
        | none => none) = some d := e
      split at e
      · rename_i ps h
        split at e
        · rename_i c
          cases e
          exact ⟨o, xs, ps, rfl, h, Nat.ble_eq.mp c, rfl⟩
        · cases e
      · cases e
    | _ => simp [biD] at e
  · cases x <;> simp [biD] at e
section
variable {C : Ctx} {X : Cx} {c : Cxt} {n m : Nat} {σ : L2.St} {δ δ' : Dl} {F H : Hp} {W : Fp} {a : A} {Q : VK}
theorem e_sset (ih : SAs C n) (ok : XOk C X c) {es : List E} {y : Expr} {p0 p1 p2 pos : Pos} {as : List A} {ds : List D} {d : D} (gl : glB c "sorted" = true) (gr : glB c "set" = true) (h3 : mEs m c es [y] = true) (h4 : noStar [y] = true) (s : SOk X.K F H σ δ W)
    (e1 : evAs C n es δ = some (as, δ')) (e2 : looks δ' as = some ds) (e3 : biD .sset ds = some d) (k : HandsOn X F H W σ δ' (.tmp d) Q) : tW X (.Call (.Name "sorted" p0) [.Call (.Name "set" p1) [y] [] p2] [] pos) σ H Q := by
  have go := ih ok h3 s e1 (Q := fun vs H1 => rSetOfT X.K X.prog X.w vs H1 fun x H2 => rSortedT X.K X.prog X.w [x] H2 Q) fun vs F' H' W' Wt p h => by
    have hv := h.looks p.ok e2
    obtain ⟨o, xs, ps, rfl, ep, hl, rfl⟩ := sset_inv e3
    obtain ⟨x, rfl, hx⟩ := hv.one
    obtain ⟨l, vs, rfl, h1, ln, r⟩ := hx.lst p.ok.sub
    obtain ⟨sm, rfl⟩ := small_of ep
    obtain ⟨ks, rfl, k2, k3⟩ := pairs_rp (r (pairs_fz ps))
    have kl : ks.length ≤ 60 := by
      rw [List.length_map] at ln
      omega
    refine ⟨l, ks, rfl, SqL.of h1, fun q hq => sqt_mono p.ok.sub (k3 q hq), by omega, fun b L hb sub all => ?_⟩
    have s2 : Same F' (upd H' b (SetTO X.prog X.w b L)) := (New.junk p.ok.sub hb).sub
    refine ⟨b, L, 2, 64, rfl, upd_same .., fun q hq => sqt_mono s2 (k3 q (sub q hq)), by omega, fun q hq => ?_, fun L' cc pm nd ln pw hc => ?_⟩
    · have : q.2 ∈ ps.map intsP := by rw [← k2]; exact List.mem_map.mpr ⟨q, sub q hq, rfl⟩
      obtain ⟨w, hw, e⟩ := List.mem_map.mp this
      rw [← e]
      refine ⟨rfl, fun z hz => ?_⟩
      have := sm w hw
      simp only [small2] at this
      simp only [intsP, List.mem_cons, List.not_mem_nil, or_false] at hz
      omega
    · have eL : L'.map Prod.snd = (ssetP ps).map intsP := sset_uniq sm nd (List.pairwise_map.mpr pw) fun x => by
        rw [← k2]
        constructor
        · intro hx
          obtain ⟨q, hq, rfl⟩ := List.mem_map.mp hx
          exact List.mem_map.mpr ⟨q, sub q (pm.subset hq), rfl⟩
        · intro hx
          obtain ⟨q, hq, rfl⟩ := List.mem_map.mp hx
          obtain ⟨q', hq', e⟩ := List.mem_map.mp (all q hq)
          exact List.mem_map.mpr ⟨q', pm.symm.subset hq', e⟩
      exact ((k.goes p).junk p.ok.sub hb).list s2 hc (rp_pairs (fun q hq => k3 q (sub q (pm.subset hq))) eL)
  have hu := ok.units
  have inner : tW X (.Call (.Name "set" p1) [y] [] p2) σ H (fun x H2 => rSortedT X.K X.prog X.w [x] H2 Q) :=
    tW_of (pe_callTy (cr_setOfT ok.calm (by omega)) (ok.gl gr) (ok.blt _ (by decide)) (by decide +kernel) (pa_nest h4) (by decide) (by decide +kernel) (star_cons _ h4) (star_plain _ _ (noStar_tail h4))) go
  exact tW_of (pe_callB (cr_sortedT ok.calm) (ok.gl gl) (ok.blt _ (by decide)) (by decide +kernel) (pa_nest (es := [.Call (.Name "set" p1) [y] [] p2]) rfl) (by decide) (by decide +kernel) (star_cons _ rfl) (star_plain _ _ rfl)) inner
end
end Ev

set_option linter.all false
set_option maxRecDepth 100000
set_option maxHeartbeats 4000000
/-! Ev: slices of tuples with a step -/
namespace Ev
open PySem PySem.Spec PyProof.Rows L2 HT
/-- how many there are in xs[lo::st] -/
theorem places_step {lo n st : Nat} (h : 0 < st) : Builtin.Slice.slicePlaces ((min lo n : Nat) : Int) (n : Int) (st : Int) = stepN n lo st := by
  unfold Builtin.Slice.slicePlaces stepN
  have h1 : (st : Int) > 0 := by omega
  simp only [h1, if_true]
  by_cases c : lo < n
  · have c2 : ((min lo n : Nat) : Int) < (n : Int) := by omega
    have c3 : (Nat.blt lo n) = true := Nat.blt_eq.mpr c
    rw [if_pos c2, if_pos c3]
    have : (n : Int) - ((min lo n : Nat) : Int) - 1 = ((n - lo - 1 : Nat) : Int) := by omega
    rw [this]
    have e : (((n - lo - 1 : Nat) : Int) / (st : Int)) = (((n - lo - 1) / st : Nat) : Int) := by
      generalize n - lo - 1 = z
      simp
    rw [e]
    generalize (n - lo - 1) / st = z
    omega
  · have c2 : ¬ ((min lo n : Nat) : Int) < (n : Int) := by omega
    have c3 : ¬ (Nat.blt lo n) = true := fun q => c (Nat.blt_eq.mp q)
    rw [if_neg c2, if_neg c3]
    rfl
theorem adjust_step {lo n st : Nat} (h : 0 < st) : Builtin.Slice.sliceAdjust (some (lo : Int)) none (st : Int) (n : Int) = (((min lo n : Nat) : Int), (n : Int)) := by
  have h1 : ¬ ((st : Int) < 0) := by omega
  have h2 : ¬ ((lo : Int) < 0) := by omega
  unfold Builtin.Slice.sliceAdjust
  simp only [h1, h2, if_false]
  refine Prod.ext ?_ rfl
  show min (lo : Int) (n : Int) = _
  omega
theorem stepN_le {n lo st : Nat} (h : 0 < st) : stepN n lo st ≤ n := by
  unfold stepN
  split
  · rename_i c
    have c := Nat.blt_eq.mp c
    have : (n - lo - 1) / st ≤ n - lo - 1 := Nat.div_le_self _ _
    omega
  · omega
theorem pick_all {α : Type} : ∀ xs : List α, pickL (List.range xs.length) xs = xs
  | [] => rfl
  | x :: xs => by
    have ih := pick_all xs
    unfold pickL at ih ⊢
    rw [List.length_cons, List.range_succ_eq_map, List.filterMap_cons]
    simp only [List.getElem?_cons_zero, List.filterMap_map]
    congr 1
section
variable {prog : Program} {w : World} {A : Around} {E : Value → Shared → Prop} {s : Shared}
theorem sliceApplied_step {sl : Addr} {vl vs : Value} {lo st n : Nat} {Q : Int × Int × Nat → Shared → Prop} (hs : s.heap.IsSliceOf sl vl .none vs) (pl : IsPart vl (some (lo : Int))) (ps : IsPart vs (some (st : Int))) (h0 : 0 < st)
    (h : Q (((min lo n : Nat) : Int), (st : Int), stepN n lo st) s) : wpAny (model prog w) A (Builtin.Slice.sliceApplied (.ref sl) (pure (n : Int))) Q E s := by
  obtain ⟨os, hos, hcs, hds⟩ := id hs
  unfold Builtin.Slice.sliceApplied Builtin.Slice.sliceFields
  refine wpAny_bind (wpAny_bind (wpAny_field hos hds (x := vl) rfl (wpAny_bind (wpAny_field hos hds (x := .none) rfl (wpAny_bind (wpAny_field hos hds (x := vs) rfl (wpAny_pure ?_)))))))
  refine wpAny_bind (slicePart_ ps ?_)
  have hz : ¬ (((st : Int) == 0) = true) := by
    intro q
    have : (st : Int) = 0 := eq_of_beq q
    omega
  show wpAny _ _ (if ((st : Int) == 0) = true then _ else _) _ _ s
  rw [if_neg hz]
  refine wpAny_bind (slicePart_ pl (wpAny_bind (slicePart_none (wpAny_bind (wpAny_pure ?_)))))
  show wpAny _ _ (match Builtin.Slice.sliceAdjust (some (lo : Int)) none (st : Int) (n : Int) with | (lo, hi) => pure (lo, (st : Int), Builtin.Slice.slicePlaces lo hi (st : Int))) _ _ s
  rw [adjust_step h0]
  show wpAny _ _ (pure (((min lo n : Nat) : Int), (st : Int), Builtin.Slice.slicePlaces ((min lo n : Nat) : Int) (n : Int) (st : Int))) _ _ s
  rw [places_step h0]
  exact wpAny_pure h
theorem pick_step (xs : Array Value) (lo st : Nat) : ((List.range (stepN xs.size lo st)).filterMap fun (m : Nat) => xs[(((min lo xs.size : Nat) : Int) + (m : Int) * (st : Int)).toNat]?) = stepL xs.toList lo st := by
  unfold stepL pickL
  rw [Array.length_toList, List.filterMap_map]
  congr 1
  funext m
  have e : (((min lo xs.size : Nat) : Int) + (m : Int) * (st : Int)).toNat = min lo xs.size + m * st := by
    have : (m : Int) * (st : Int) = ((m * st : Nat) : Int) := by simp
    rw [this]
    omega
  show xs[(((min lo xs.size : Nat) : Int) + (m : Int) * (st : Int)).toNat]? = xs.toList[min lo xs.size + m * st]?
  rw [e, Array.getElem?_toList]
theorem getItem_tuple_step {t sl : Addr} {items : Array Value} {vl vs : Value} {lo st : Nat} {Q : Value → Shared → Prop} (ht : IsTup s.heap t items) (hs : s.heap.IsSliceOf sl vl .none vs) (pl : IsPart vl (some (lo : Int))) (ps : IsPart vs (some (st : Int))) (h0 : 0 < st)
    (hw : stepL items.toList lo st = items.toList → Q (.ref t) s)
    (h : Q (.ref s.heap.objs.size) { s with heap := s.heap.push { cls := .type "tuple", data := .seq (stepL items.toList lo st).toArray } })
    (hsz : items.size ≤ sizeLine) : wpAny (model prog w) A (getItem (.ref t) (.ref sl)) Q E s := by
  have htake : sizeOk (.seq (stepL items.toList lo st).toArray) := by
    show (stepL items.toList lo st).toArray.size ≤ sizeLine
    rw [List.size_toArray]
    unfold stepL pickL
    refine Nat.le_trans (List.length_filterMap_le _ _) ?_
    rw [List.length_map, List.length_range, Array.length_toList]
    exact Nat.le_trans (stepN_le h0) hsz
  obtain ⟨os, hos, hcs, hds⟩ := id hs
  have hTs : s.TypeIs (.ref sl) "slice" := ⟨os, hos, hcs⟩
  unfold getItem
  try with_reducible refine wpAny_holding ?_
  first | refine wpAny_bind (wpAny_pure ?_) | skip
  refine wpAny_bind (wpAny_sequenceKey ht.typeIs (by decide) ?_)
  refine wpAny_bind (wpAny_callSpecial?_slot (name := Str.ofString "__getitem__") ht.typeIs PyProof.Rows.slot_tuple_getitem
    (wpAny_call_entry PyProof.Rows.slot_tuple_getitem ht.typeIs entry_tuple_getitem ?_ (args_tuple_getitem _ _)))
  show wpAny _ _ (Builtin.Tuple.tupleItemsOf (.ref t) >>= _) _ _ s
  refine wpAny_bind (tupleItemsOf_ ht ?_)
  refine wpAny_bind (wpAny_typeOf hTs ?_)
  rw [if_pos (by decide)]
  refine wpAny_bind (sliceApplied_step hs pl ps h0 ?_)
  show wpAny _ _ (if (((min lo items.size : Nat) : Int) == 0 && (st : Int) == 1 && stepN items.size lo st == items.size) = true then _ else _) _ _ s
  by_cases hyes : (((min lo items.size : Nat) : Int) == 0 && (st : Int) == 1 && stepN items.size lo st == items.size) = true
  · rw [if_pos hyes]
    have q := hyes
    rw [Bool.and_eq_true, Bool.and_eq_true] at q
    have q1 : ((min lo items.size : Nat) : Int) = 0 := eq_of_beq q.1.1
    have q2 : (st : Int) = 1 := eq_of_beq q.1.2
    have q3 : stepN items.size lo st = items.size := eq_of_beq q.2
    have hQ := hw (by
      unfold stepL
      rw [Array.length_toList, q3]
      have z : min lo items.size = 0 := by omega
      have o : st = 1 := by omega
      rw [z, o]
      have : ((List.range items.size).map fun m => 0 + m * 1) = List.range items.toList.length := by
        rw [Array.length_toList]
        have : (fun m : Nat => 0 + m * 1) = id := by funext m; simp
        rw [this, List.map_id]
      rw [this]
      exact pick_all items.toList)
    refine wpAny_bind ?_
    show wpAny _ _ (typeOf (.ref t) >>= fun T => pure (T == .type "tuple")) _ _ s
    refine wpAny_bind (wpAny_typeOf ht.typeIs (wpAny_pure ?_))
    first
      | rw [if_pos (by decide)]
      | simp only [beq_self_eq_true, if_true]
    first
      | exact wpAny_bind (wpAny_rule (wpAny_pure ⟨_, rfl, wpAny_pure hQ⟩))
      | exact wpAny_bind (wpAny_rule (wpAny_bind (wpAny_pure (wpAny_pure ⟨_, rfl, wpAny_pure hQ⟩))))
  · rw [if_neg hyes, pick_step]
    first
      | exact wpAny_bind (m := Builtin.Tuple.tupleExact _) (wpAny_newObj_type (wpAny_pure ⟨_, rfl, wpAny_pure h⟩) htake)
      | exact wpAny_bind (m := Builtin.Tuple.tupleExact _) (wpAny_newObj_type (wpAny_bind (wpAny_pure (wpAny_pure ⟨_, rfl, wpAny_pure h⟩))) htake)
      | exact wpAny_bind (wpAny_bind (m := Builtin.Tuple.tupleExact _) (wpAny_newObj_type (wpAny_pure (wpAny_pure ⟨_, rfl, wpAny_pure h⟩)) htake))
      | exact wpAny_bind (wpAny_bind (m := Builtin.Tuple.tupleExact _) (wpAny_newObj_type (wpAny_pure ⟨_, rfl, wpAny_pure h⟩) htake))
end
section
variable {K : PySem.W.Frag} {X : Cx} {F H : Hp}
theorem pick_rp {F : Hp} {vs : List V} {ds : List D} (r : RpL K F vs ds) : ∀ is : List Nat, RpL K F (pickL is vs) (pickL is ds)
  | [] => .nil
  | i :: is => by
    have t := pick_rp r is
    unfold pickL at t ⊢
    rw [List.filterMap_cons, List.filterMap_cons]
    cases e : ds[i]? with
    | none =>
      have l := List.getElem?_eq_none_iff.mp e
      rw [← r.length] at l
      rw [List.getElem?_eq_none_iff.mpr l]
      exact t
    | some d =>
      obtain ⟨v, e2, h⟩ := r.get e
      rw [e2]
      exact .cons h t
theorem pick_vals {xs : List V} {us : List Value} (r : Vals xs us) : ∀ is : List Nat, Vals (pickL is xs) (pickL is us)
  | [] => .nil
  | i :: is => by
    have t := pick_vals r is
    unfold pickL at t ⊢
    rw [List.filterMap_cons, List.filterMap_cons]
    cases e : xs[i]? with
    | none =>
      have l := List.getElem?_eq_none_iff.mp e
      rw [r.length] at l
      rw [List.getElem?_eq_none_iff.mpr l]
      exact t
    | some d =>
      obtain ⟨v, e2, h⟩ := r.get e
      rw [e2]
      exact .cons h t
theorem step_rp {F : Hp} {vs : List V} {ds : List D} (r : RpL K F vs ds) (lo st : Nat) : RpL K F (stepL vs lo st) (stepL ds lo st) := by
  unfold stepL
  rw [r.length]
  exact pick_rp r _
theorem step_vals {xs : List V} {us : List Value} (r : Vals xs us) (lo st : Nat) : Vals (stepL xs lo st) (stepL us lo st) := by
  unfold stepL
  rw [r.length]
  exact pick_vals r _
theorem stepL_le {α : Type} {xs : List α} {lo st : Nat} (h : 0 < st) : (stepL xs lo st).length ≤ xs.length := by
  unfold stepL pickL
  refine Nat.le_trans (List.length_filterMap_le _ _) ?_
  rw [List.length_map, List.length_range]
  exact stepN_le h
def tStepT (K : PySem.W.Frag) (te tl tk : TE) : TE := fun σ H Q => te σ H fun x H1 => tl σ H1 fun y H2 => tk σ H2 fun z H3 => ∃ a xs, ∃ lo st : Nat, x = .ref a ∧ y = .int lo ∧ z = .int st ∧ 0 < st ∧ SqT K H3 a xs ∧
  (stepL xs lo st = xs → Q (.ref a) H3) ∧ ∀ p, H3 p = none → Q (.ref p) (upd H3 p (.tup (stepL xs lo st)))
theorem pe_stepT {e el ek : Expr} {te tl tk : TE} {p3 pos : Pos} (he : PE X e te) (hl : PE X el tl) (hk : PE X ek tk) : PE X (.Subscript e (.Slice (some el) none (some ek) p3) pos) (tStepT X.K te tl tk) := by
  refine ⟨fun pins s σ H Q I h => ?_⟩
  refine Subscript_ (thn (he.run pins s σ H _ I h) fun v s1 ⟨x, H1, I1, r1, q1⟩ => ?_)
  refine wpAny_Slice ?_
  rw [evalPart_some]
  refine thn (hl.run pins s1 σ H1 _ I1 q1) fun vl s2 ⟨y, H2, I2, r2, q2⟩ => ?_
  refine thn (po_none.run pins s2 σ H2 (fun o H3 => o = none ∧ H3 = H2) I2 ⟨rfl, rfl⟩) fun vu s3 ⟨u, H3, I3, pu, eu, e3⟩ => ?_
  subst eu e3
  cases pu
  rw [evalPart_some]
  refine thn (hk.run pins s3 σ H3 _ I3 q2) fun vs s4 ⟨z, H4, I4, r4, q4⟩ => ?_
  obtain ⟨a, xs, lo, st, rfl, rfl, rfl, h0, hx, qw, q⟩ := q4
  cases r1
  obtain ⟨tl', rfl⟩ := r2
  obtain ⟨tk', rfl⟩ := r4
  have I5 : Inv X pins σ H4 { s4 with heap := s4.heap.push { cls := .type "slice", data := .fields #[.int lo tl', .none, .int st tk'] } } := I4.kept (t' := s4.toks) fun b ob q => Heap.get?_push_of_some _ q
  obtain ⟨its, r, ht, hz⟩ := I5.tuple hx
  have hlen := r.length
  show wpAny (model X.prog X.w) X.A (subscriptTail e (.Slice (some el) none (some ek) p3) (.ref a) (.ref s4.heap.objs.size)) (EP X pins σ Q) X.xe { s4 with heap := s4.heap.push { cls := .type "slice", data := .fields #[.int lo tl', .none, .int st tk'] } }
  refine tail_any (ops := [.ref a, .ref s4.heap.objs.size]) ht.typeIs (PyProof.Rows.slot_tuple_getitem.lookup) ?_ (by with_unfolding_all rfl)
  refine getItem_tuple_step ht (Heap.IsSliceOf.new ..) (.int _ _) (.int _ _) h0 ?_ ?_ (by rw [List.size_toArray]; omega)
  · intro e
    exact ⟨.ref a, H4, I5, rfl, qw (Vals.inj (step_vals r lo st) (by rw [show stepL its lo st = its from e]; exact r))⟩
  · refine ⟨.ref _, _, I5.laid (t' := s4.toks) (o := .tup (stepL xs lo st)) (fun b ob q => Heap.get?_push_of_some _ q) (Nat.le_refl _) ?_, rfl, q _ (I5.hok.fresh (Nat.le_refl _))⟩
    exact ⟨Nat.le_trans (stepL_le h0) hz, _, step_vals r lo st, IsTup.new _ _⟩
end
theorem step_inv {ds : List D} {d : D} (e : biD .step ds = some d) : ∃ xs, ∃ lo st : Nat, ds = [.tup xs, .int lo, .int st] ∧ 0 < st ∧ d = .tup (stepL xs lo st) := by
  rcases ds with _ | ⟨x, _ | ⟨y, _ | ⟨z, _ | ⟨z2, t⟩⟩⟩⟩
  · simp [biD] at e
  · cases x <;> simp [biD] at e
  · cases x <;> cases y <;> simp [biD] at e
  · cases x with
    | tup xs => cases y with
      | int lo => cases lo with
        | ofNat lo => cases z with
          | int st => cases st with
            | ofNat st =>
              have e : (if Nat.blt 0 st then some (D.tup (stepL xs lo st)) else none) = some d := e
              split at e
              · rename_i h
                cases e
                exact ⟨xs, lo, st, rfl, Nat.blt_eq.mp h, rfl⟩
              · cases e
            | negSucc st => simp [biD] at e
          | _ => simp [biD] at e
        | negSucc lo => simp [biD] at e
      | _ => simp [biD] at e
    | _ => simp [biD] at e
  · simp [biD] at e
section
variable {C : Ctx} {X : Cx} {c : Cxt} {n m : Nat} {σ : L2.St} {δ δ' : Dl} {F H : Hp} {W : Fp} {a : A} {Q : VK}
theorem e_step (ih : SAs C n) (ok : XOk C X c) {es : List E} {l u v : Expr} {p pos : Pos} {as : List A} {ds : List D} {d : D} (hm : mEs m c es [l, u, v] = true) (s : SOk X.K F H σ δ W)
    (e1 : evAs C n es δ = some (as, δ')) (e2 : looks δ' as = some ds) (e3 : biD .step ds = some d) (k : HandsOn X F H W σ δ' (.tmp d) Q) : tW X (.Subscript l (.Slice (some u) none (some v) p) pos) σ H Q := by
  have go := ih ok hm s e1 (Q := fun vs H3 => ∃ a xs, ∃ lo st : Nat, vs = [.ref a, .int lo, .int st] ∧ 0 < st ∧ SqT X.K H3 a xs ∧ (stepL xs lo st = xs → Q (.ref a) H3) ∧ ∀ p, H3 p = none → Q (.ref p) (upd H3 p (.tup (stepL xs lo st)))) fun vs F' H' W' Wt p h => by
    have hv := h.looks p.ok e2
    obtain ⟨xs, lo, st, rfl, h0, rfl⟩ := step_inv e3
    cases hv with
    | cons hx hv =>
    cases hv with
    | cons hy hv =>
    cases hv with
    | cons hz hv =>
    cases hv
    obtain ⟨a, vs, rfl, h1, r⟩ := hx.tup
    cases hy.int
    cases hz.int
    have r2 := step_rp r lo st
    refine ⟨a, vs, lo, st, rfl, h0, sqt_mono p.ok.sub h1, fun w => ?_, fun q hq => (k.goes p).tuple p.ok.sub hq r2⟩
    rw [w] at r2
    exact (k.goes p).atom p.ok.sub (.tup h1 r2)
  refine tW_of (pe_stepT pe_tW pe_tW pe_tW) (tW_mono go fun x H1 q => tW_mono q fun y H2 q => tW_mono q fun z H3 ⟨a, xs, lo, st, e, h0, h1, h2, h3⟩ => ?_)
  simp only [List.cons.injEq, and_true] at e
  obtain ⟨rfl, rfl, rfl⟩ := e
  exact ⟨a, xs, lo, st, rfl, rfl, rfl, h0, h1, h2, h3⟩
end
/-! ### len(range(..)) -/
theorem call_len_range {prog : Program} {w : World} {A : Around} {E : Value → Shared → Prop} {s : Shared} {r : Addr} {a b c : Int} {t u v : Tok} {Q : Value → Shared → Prop} (hr : IsRange s.heap r a b c t u v) (h0 : 0 ≤ Builtin.Range.rangeSize a b c) (h1 : Builtin.Range.rangeSize a b c < 2 ^ 63)
    (h : Q (.int (Builtin.Range.rangeSize a b c) (s.toks + 1)) { s with toks := s.toks + 1 + 1 }) : wpAny (model prog w) A (call (.builtin "len") [.ref r]) Q E s := by
  have hT : s.TypeIs (.ref r) "range" := ⟨_, hr, rfl⟩
  refine Calls.call_function_entry kind_len plain_len entry_len (args_len1 _) ?_
  unfold Builtin.«len»
  refine wpAny_bind (m := oneArg "len" _) (wpAny_pure ?_)
  refine wpAny_bind (m := callSpecial? (.ref r) (Str.ofString "__len__")) (wpAny_callSpecial?_slot (name := Str.ofString "__len__") hT F.slot_range_len (wpAny_call_entry F.slot_range_len hT F.entry_range_len ?_ (F.args_range_len_1 _)))
  unfold Builtin.«range.__len__»
  refine wpAny_bind (wpAny_of_eq (a := ((.ref r : Value), ([] : List Value))) rfl ?_)
  refine wpAny_bind (wpAny_rangeFields hr ?_)
  show wpAny _ _ (if Builtin.Range.rangeSize a b c ≥ 2 ^ 63 then _ else _) _ _ s
  rw [if_neg (by omega)]
  show wpAny _ _ (retInt (Builtin.Range.rangeSize a b c)) _ _ s
  unfold retInt
  refine wpAny_bind (wpAny_mkInt (wpAny_pure ⟨_, rfl, ?_⟩))
  show wpAny _ _ _ _ _ { s with toks := s.toks + 1 }
  refine wpAny_bind (wpAny_holding (wpAny_pure ?_))
  refine wpAny_bind (wpAny_letGo ?_)
  show wpAny _ _ (if Builtin.Range.rangeSize a b c < 0 then _ else _) _ _ _
  rw [if_neg (by omega)]
  show wpAny _ _ (if Builtin.Range.rangeSize a b c ≥ 2 ^ 63 then _ else _) _ _ _
  rw [if_neg (by omega)]
  exact wpAny_bind (wpAny_mkInt (wpAny_pure ⟨_, rfl, h⟩))
section
variable {C : Ctx} {X : Cx} {c : Cxt} {n m : Nat} {σ : L2.St} {δ δ' : Dl} {F H : Hp} {W : Fp} {a : A} {Q : VK}
theorem e_lenr (ih : SAs C n) (ok : XOk C X c) {es : List E} {y : Expr} {ys : List Expr} {p0 p1 p2 pos : Pos} {as : List A} {ds : List D} {d : D} (gl : glB c "len" = true) (gr : glB c "range" = true) (h3 : mEs m c es (y :: ys) = true) (h4 : noStar (y :: ys) = true) (s : SOk X.K F H σ δ W)
    (e1 : evAs C n es δ = some (as, δ')) (e2 : looks δ' as = some ds) (e3 : biD .lenr ds = some d) (k : HandsOn X F H W σ δ' (.tmp d) Q) : tW X (.Call (.Name "len" p0) [.Call (.Name "range" p1) (y :: ys) [] p2] [] pos) σ H Q := by
  have e3 : (match rangeOf ds with
    | some xs => if decide (xs.length ≤ cap) then some (D.int xs.length) else none
    | none => none) = some d := e3
  split at e3
  · rename_i items er
    split at e3
    · rename_i hl
      cases e3
      have hl := of_decide_eq_true hl
      have go := ih ok h3 s e1 (Q := fun vs H1 => ∃ a b c, RgA vs a b c ∧ Builtin.Range.small a b c = true ∧ Builtin.Range.rangeSize a b c = (items.length : Nat) ∧ Q (.int items.length) H1) fun vs F' H' W' Wt p h => by
        obtain ⟨a, b, c, r1, r2, r3, r4⟩ := range_of er (h.looks p.ok e2) hl
        exact ⟨a, b, c, r1, r2, r3, (k.goes p).atom p.ok.sub (.int _)⟩
      intro pins s0 I
      refine Call_ (ld_blt I (ok.gl gl) (ok.blt _ (by decide)) boot_len (PyProof.Rows.callWith_builtin1 (args_cons (thn (run_range (ok.gl gr) (ok.blt _ (by decide)) h4 I (nestA_mono go fun vs H1 ⟨a, b, c, r1, r2⟩ => ⟨a, b, c, r1, r2⟩)) fun x s1 ⟨r, a, b, c, t, u, v, H1, ex, hr, I1, sm, sz, q⟩ => args_nil ?_) rfl) rfl))
      subst ex
      have := cap_line
      have cl : cap ≤ 1000000 := by decide
      refine call_len_range hr (by rw [sz]; omega) (by rw [sz]; omega) ?_
      rw [sz]
      exact ⟨.int items.length, H1, I1.tok _, ⟨_, rfl⟩, q⟩
    · cases e3
  · cases e3
end
end Ev

set_option linter.all false
set_option maxRecDepth 100000
set_option maxHeartbeats 4000000
/-! Ev: built-ins, isinstance, methods -/
namespace Ev
open PySem PySem.Spec PyProof.Rows L2
section
variable {C : Ctx} {X : Cx} {c : Cxt} {n m : Nat} {σ : L2.St} {δ δ' : Dl} {F H : Hp} {W : Fp} {a : A} {Q : VK}
theorem e_bi0 (ih : SAs C n) (ok : XOk C X c) {b : Bi} {es : List E} {g : Str} {y : Expr} {ys : List Expr} {p0 pos : Pos} {as : List A} {ds : List D} {d : D} (nb : b.pl = true) (hg : g = biS b) (gl : glB c g = true) (h3 : mEs m c es (y :: ys) = true) (h4 : noStar (y :: ys) = true) (s : SOk X.K F H σ δ W)
    (e1 : evAs C n es δ = some (as, δ')) (e2 : looks δ' as = some ds) (e3 : biD b ds = some d) (k : HandsOn X F H W σ δ' (.tmp d) Q) : tW X (.Call (.Name g p0) (y :: ys) [] pos) σ H Q := by
  subst hg
  obtain ⟨b1, b2, b3, b4⟩ := bi_boot b nb
  have go := ih ok h3 s e1 (Q := fun vs H1 => cW X (biV b) vs H1 Q) fun vs F' H' W' Wt p h => bi_ok ok.units ok.calm p.ok.sub nb e3 (h.looks p.ok e2) (k.goes p)
  rcases b4 with ⟨id, q1, q2⟩ | ⟨id, q1, q2⟩
  · rw [q1] at go
    exact tW_of (pe_callB cr_cW (ok.gl gl) (ok.blt _ b1) q2 (pa_nest h4) b2 b3 (star_cons _ h4) (star_plain _ _ (noStar_tail h4))) go
  · rw [q1] at go
    exact tW_of (pe_callTy cr_cW (ok.gl gl) (ok.blt _ b1) q2 (pa_nest h4) b2 b3 (star_cons _ h4) (star_plain _ _ (noStar_tail h4))) go
theorem noSt1 {x : Expr} {ys : List Expr} {f : Expr} {ks : List Keyword} {pos : Pos} : noStar [.Call f ys ks pos] = true := rfl
theorem e_lrange (ih : SAs C n) (ok : XOk C X c) {es : List E} {y : Expr} {ys : List Expr} {p0 p1 p2 pos : Pos} {as : List A} {ds : List D} {d : D} (gl : glB c "list" = true) (gr : glB c "range" = true) (h3 : mEs m c es (y :: ys) = true) (h4 : noStar (y :: ys) = true) (s : SOk X.K F H σ δ W)
    (e1 : evAs C n es δ = some (as, δ')) (e2 : looks δ' as = some ds) (e3 : biD .lrange ds = some d) (k : HandsOn X F H W σ δ' (.tmp d) Q) : tW X (.Call (.Name "list" p0) [.Call (.Name "range" p1) (y :: ys) [] p2] [] pos) σ H Q := by
  have e3 : (match rangeOf ds with
    | some xs => if decide (xs.length ≤ cap) then some (D.lst true xs) else none
    | none => none) = some d := e3
  split at e3
  · rename_i items er
    split at e3
    · rename_i hl
      cases e3
      have hl := of_decide_eq_true hl
      have go := ih ok h3 s e1 (Q := fun vs H1 => ∃ a b c, RgA vs a b c ∧ Builtin.Range.small a b c = true ∧ Builtin.Range.rangeSize a b c = (items.length : Nat) ∧ ∀ p, H1 p = none → Q (.ref p) (upd H1 p (.lst (rgVc a c items.length)))) fun vs F' H' W' Wt p h => by
        obtain ⟨a, b, c, r1, r2, r3, r4⟩ := range_of er (h.looks p.ok e2) hl
        refine ⟨a, b, c, r1, r2, r3, fun q hq => ?_⟩
        refine (k.goes p).list p.ok.sub hq ?_
        have := rgVc_rp (K := X.K) (F := F') items.length a c
        rw [← r4] at this
        exact this
      intro pins s0 I
      refine Call_ (ld_blt I (ok.gl gl) (ok.blt _ (by decide)) PyProof.Rows.boot_list (PyProof.Rows.callWith_type1 (args_cons (thn (run_range (ok.gl gr) (ok.blt _ (by decide)) h4 I (nestA_mono go fun vs H1 ⟨a, b, c, r1, r2⟩ => ⟨a, b, c, r1, r2⟩)) fun x s1 ⟨r, a, b, c, t, u, v, H1, ex, hr, I1, sm, sz, q⟩ => args_nil ?_) rfl) rfl))
      subst ex
      have := cap_line
      refine call_list_range (n := items.length) (I1.ok.hd ok.calm) hr sm sz (Nat.le_trans hl (by decide)) fun h' tk acc c' hk e' hi => ?_
      refine ⟨.ref s1.heap.objs.size, upd H1 s1.heap.objs.size (.lst (rgVc a c items.length)), I1.laid hk (Nat.le_refl _) (show ObjOk X.prog X.w _ _ _ (.lst (rgVc a c items.length)) from ⟨?_, acc.toList, c', vals_rgc hi, ?_⟩), rfl, q _ (I1.hok.fresh (Nat.le_refl _))⟩
      · rw [rgVc_len]; omega
      · rw [Array.toArray_toList]; exact e'
    · cases e3
  · cases e3
theorem e_trange (ih : SAs C n) (ok : XOk C X c) {es : List E} {y : Expr} {ys : List Expr} {p0 p1 p2 pos : Pos} {as : List A} {ds : List D} {d : D} (gl : glB c "tuple" = true) (gr : glB c "range" = true) (h3 : mEs m c es (y :: ys) = true) (h4 : noStar (y :: ys) = true) (s : SOk X.K F H σ δ W)
    (e1 : evAs C n es δ = some (as, δ')) (e2 : looks δ' as = some ds) (e3 : biD .trange ds = some d) (k : HandsOn X F H W σ δ' (.tmp d) Q) : tW X (.Call (.Name "tuple" p0) [.Call (.Name "range" p1) (y :: ys) [] p2] [] pos) σ H Q := by
  have e3 : (match rangeOf ds with
    | some xs => if decide (xs.length ≤ cap) then some (D.tup xs) else none
    | none => none) = some d := e3
  split at e3
  · rename_i items er
    split at e3
    · rename_i hl
      cases e3
      have hl := of_decide_eq_true hl
      have go := ih ok h3 s e1 (Q := fun vs H1 => ∃ a b c, RgA vs a b c ∧ Builtin.Range.small a b c = true ∧ Builtin.Range.rangeSize a b c = (items.length : Nat) ∧ ∀ p, H1 p = none → Q (.ref p) (upd H1 p (.tup (rgVc a c items.length)))) fun vs F' H' W' Wt p h => by
        obtain ⟨a, b, c, r1, r2, r3, r4⟩ := range_of er (h.looks p.ok e2) hl
        refine ⟨a, b, c, r1, r2, r3, fun q hq => ?_⟩
        refine (k.goes p).tuple p.ok.sub hq ?_
        have := rgVc_rp (K := X.K) (F := F') items.length a c
        rw [← r4] at this
        exact this
      intro pins s0 I
      refine Call_ (ld_blt I (ok.gl gl) (ok.blt _ (by decide)) PyProof.Rows.boot_tuple (PyProof.Rows.callWith_type1 (args_cons (thn (run_range (ok.gl gr) (ok.blt _ (by decide)) h4 I (nestA_mono go fun vs H1 ⟨a, b, c, r1, r2⟩ => ⟨a, b, c, r1, r2⟩)) fun x s1 ⟨r, a, b, c, t, u, v, H1, ex, hr, I1, sm, sz, q⟩ => args_nil ?_) rfl) rfl))
      subst ex
      have := cap_line
      refine call_tuple_range (n := items.length) (I1.ok.hd ok.calm) hr sm sz (Nat.le_trans hl (by decide)) fun h' tk acc hk hi => ?_
      have I2 : Inv X pins σ H1 { s1 with heap := h', toks := tk } := I1.kept hk
      refine ⟨.ref h'.objs.size, upd H1 h'.objs.size (.tup (rgVc a c items.length)), I2.laid (t' := tk) (fun c o e => Heap.get?_push_of_some _ e) (Nat.le_refl _) (show ObjOk X.prog X.w _ _ _ (.tup (rgVc a c items.length)) from ⟨?_, acc.toList, vals_rgc hi, ?_⟩), rfl, q _ (I2.hok.fresh (Nat.le_refl _))⟩
      · rw [rgVc_len]; omega
      · rw [Array.toArray_toList]; exact IsTup.new _ _
    · cases e3
  · cases e3
theorem foldl_max (ms : List Int) : ∀ n : Int, ms.foldl max n = maxI n ms := by
  induction ms with
  | nil => intro n; rfl
  | cons m ms ih =>
    intro n
    rw [List.foldl_cons, ih, maxI]
    congr 1
    split <;> omega
theorem maxd_inv {ds : List D} {d : D} (e : biD .maxd ds = some d) : ∃ o xs z ns, ds = [.lst o xs, .int z] ∧ intsOf xs = some ns ∧ d = .int (match ns with
    | [] => z
    | n :: ms => maxI n ms) := by
  rcases ds with _ | ⟨x, _ | ⟨y, _ | ⟨w, t⟩⟩⟩
  · simp [biD] at e
  · cases x <;> simp [biD] at e
  · cases x <;> cases y <;> simp [biD] at e
    split at e
    · rename_i h
      simp at e
      exact ⟨_, _, _, _, rfl, h, by rw [← e]⟩
    · rename_i h
      simp at e
      exact ⟨_, _, _, _, rfl, h, by rw [← e]⟩
    · cases e
  · cases x <;> cases y <;> simp [biD] at e
theorem e_maxd (ih : SAs C n) (ok : XOk C X c) {es : List E} {y dx : Expr} {p0 kp pos : Pos} {as : List A} {ds : List D} {d : D} (gl : glB c "max" = true) (h3 : mEs m c es [y, dx] = true) (h4 : noStar [y] = true) (s : SOk X.K F H σ δ W)
    (e1 : evAs C n es δ = some (as, δ')) (e2 : looks δ' as = some ds) (e3 : biD .maxd ds = some d) (k : HandsOn X F H W σ δ' (.tmp d) Q) : tW X (.Call (.Name "max" p0) [y] [⟨some "default", dx, kp⟩] pos) σ H Q := by
  have go := ih ok h3 s e1 (Q := fun us H1 => ∃ x z, us = [x, z] ∧ rMaxDef X.K [x] [z] H1 Q) fun vs F' H' W' Wt p h => by
    have hv := h.looks p.ok e2
    obtain ⟨o, xs, z, ns, rfl, ei, rfl⟩ := maxd_inv e3
    obtain ⟨x, z', rfl, hx, hz⟩ := hv.two
    cases hz.int
    obtain ⟨a, rfl, h1⟩ := hx.ints p.ok.sub ei
    refine ⟨_, _, rfl, a, ns, z, rfl, rfl, SqL.of h1, (fun e => ?_), fun n' ms e => ?_⟩
    · subst e
      exact (k.goes p).atom p.ok.sub (.int _)
    · subst e
      rw [foldl_max]
      exact (k.goes p).atom p.ok.sub (.int _)
  have hu := ok.units
  have sp := nestA_split (xs := [y]) (ys := [dx]) go
  refine tW_of (pe_callBK (cr_maxDef ok.calm (by omega)) (ok.gl gl) (ok.blt _ (by decide)) (by decide +kernel) (pa_nest h4) (pk_nest (kws := [⟨some "default", dx, kp⟩])) (by decide) (by decide +kernel) (by rw [star_cons _ h4]; rfl) (by rw [star_cons _ h4]; rfl) rfl rfl rfl) ?_
  refine nestA_mono sp fun vs H1 ⟨l1, q⟩ => nestA_mono q fun zs H2 ⟨l2, x, z, e, r⟩ => ?_
  cases vs with
  | nil => cases l1
  | cons v vs =>
    cases vs with
    | nil =>
      simp only [List.singleton_append, List.cons.injEq] at e
      obtain ⟨rfl, rfl⟩ := e
      exact r
    | cons => simp at l1
theorem e_bi (ih : SAs C n) (ok : XOk C X c) {b : Bi} {es : List E} {x : Expr} (hm : mE (m + 1) c (.bi b es) x = true) (s : SOk X.K F H σ δ W) (he : evE C (n + 1) (.bi b es) δ = some (a, δ')) (k : HandsOn X F H W σ δ' a Q) : tW X x σ H Q := by
  unfold evE at he
  simp only at he
  split at he
  · rename_i as δ1 e1
    split at he
    · rename_i ds e2
      split at he
      · rename_i d e3
        cases he
        unfold mE at hm
        simp only at hm
        split at hm
        · split at hm
          · simp only [Bool.and_eq_true] at hm
            obtain ⟨⟨⟨⟨⟨h1, h2⟩, h3⟩, h4⟩, h5⟩, h6⟩ := hm
            cases same_eq h1
            cases same_eq h3
            exact e_lrange ih ok h2 h4 h5 h6 s e1 e2 e3 k
          · cases hm
        · split at hm
          · simp only [Bool.and_eq_true] at hm
            obtain ⟨⟨⟨⟨⟨h1, h2⟩, h3⟩, h4⟩, h5⟩, h6⟩ := hm
            cases same_eq h1
            cases same_eq h3
            exact e_trange ih ok h2 h4 h5 h6 s e1 e2 e3 k
          · cases hm
        · split at hm
          · simp only [Bool.and_eq_true] at hm
            obtain ⟨⟨⟨⟨h1, h2⟩, h3⟩, h4⟩, h5⟩ := hm
            cases same_eq h1
            cases same_eq h3
            exact e_maxd ih ok h2 h4 h5 s e1 e2 e3 k
          · cases hm
        · split at hm
          · simp only [Bool.and_eq_true] at hm
            obtain ⟨⟨⟨⟨⟨h1, h2⟩, h3⟩, h4⟩, h5⟩, h6⟩ := hm
            cases same_eq h1
            cases same_eq h3
            exact e_sset ih ok h2 h4 h5 h6 s e1 e2 e3 k
          · cases hm
        · split at hm
          · simp only [Bool.and_eq_true] at hm
            obtain ⟨⟨⟨⟨⟨h1, h2⟩, h3⟩, h4⟩, h5⟩, h6⟩ := hm
            cases same_eq h1
            cases same_eq h3
            exact e_lenr ih ok h2 h4 h5 h6 s e1 e2 e3 k
          · cases hm
        · split at hm
          · exact e_step ih ok hm s e1 e2 e3 k
          · cases hm
        · rename_i nb1 nb2 nb3 nb4 nb5 nb6
          split at hm
          · simp only [Bool.and_eq_true] at hm
            obtain ⟨⟨⟨h1, h2⟩, h3⟩, h4⟩ := hm
            exact e_bi0 ih ok (by cases b <;> first | rfl | exact absurd rfl nb1 | exact absurd rfl nb2 | exact absurd rfl nb3 | exact absurd rfl nb4 | exact absurd rfl nb5 | exact absurd rfl nb6) (same_eq h1) h2 h3 h4 s e1 e2 e3 k
          · cases hm
      · cases he
    · cases he
  · cases he

/-! ### isinstance -/
theorem ty_boot (t : Ty) : tyS t ∈ blts ∧ bootBuiltins (tyS t) = some (.type (tyN t)) ∧ tyS t ≠ "__name__" ∧ (tyS t == ("__debug__" : Str)) = false := by
  cases t <;> exact ⟨by decide, by decide +kernel, by decide +kernel, by decide +kernel⟩
theorem ty_ok (ok : XOk C X c) {t : Ty} {x : Expr} (h : mTy c t x = true) (q : Q (.ty (tyN t)) H) : tW X x σ H Q := by
  unfold mTy at h
  split at h
  · rw [Bool.and_eq_true] at h
    cases same_eq h.1
    obtain ⟨b1, b2, b3, b4⟩ := ty_boot t
    exact tW_of (pe_bltn (v := .ty (tyN t)) (ok.gl h.2) (ok.blt _ b1) b2 rfl b3 b4) q
  · cases h
theorem tys_ok (ok : XOk C X c) : ∀ {ts : List Ty} {xs : List Expr} {Q : List V → Hp → Prop}, mTys c ts xs = true → Q (ts.map fun t => V.ty (tyN t)) H → nestA X xs σ H Q
  | [], [], _, _, q => q
  | [], _ :: _, _, h, _ => by simp [mTys] at h
  | _ :: _, [], _, h, _ => by simp [mTys] at h
  | t :: ts, x :: xs, Q, h, q => by
    simp only [mTys, Bool.and_eq_true] at h
    exact ty_ok ok h.1 (tys_ok ok h.2 q)
theorem Vw.upd {K : PySem.W.Frag} {v : V} {d : D} {p : Addr} {o : HO} (h : Vw K F H v d) (hp : H p = none) : Vw K F (upd H p o) v d := by
  obtain ⟨W, h⟩ := h
  exact ⟨W, h.keep (fun _ _ q => q) fun b _ z a f => ⟨by rw [upd_ne (ne_of_none a hp)]; exact a, f⟩⟩
theorem e_isi (ih : SE C n) (ok : XOk C X c) {e1 : E} {ts : List Ty} {x : Expr} (hm : mE (m + 1) c (.isi e1 ts) x = true) (s : SOk X.K F H σ δ W) (he : evE C (n + 1) (.isi e1 ts) δ = some (a, δ')) (k : HandsOn X F H W σ δ' a Q) : tW X x σ H Q := by
  unfold mE at hm
  simp only at hm
  split at hm
  · rename_i g p0 y t pos
    simp only [Bool.and_eq_true] at hm
    obtain ⟨⟨⟨⟨⟨h1, h2⟩, h3⟩, h4⟩, h6⟩, h5⟩ := hm
    cases same_eq h1
    unfold evE at he
    simp only at he
    split at he
    · rename_i v0 δ1 e1
      split at he
      · rename_i d e2
        cases he
        refine tW_of (pe_callB (cr_cW (f := .builtin "isinstance")) (ok.gl h2) (ok.blt _ (by decide)) PyProof.Rows.boot_isinstance (pa_nest h4) (by decide +kernel) (by decide +kernel) (star_cons _ h4) (star_plain _ _ (noStar_tail h4))) ?_
        refine ih ok h3 s e1 fun v F' H' W' Wt p h => ?_
        have hv := h.look p.ok e2
        show tW X t σ H' fun z H1 => cW X (.builtin "isinstance") [v, z] H1 Q
        split at h5
        · rename_i xs kk tp
          rw [Bool.and_eq_true] at h5
          have hlen : ts.length ≤ sizeLine := by
            have := of_decide_eq_true h6
            have := cap_line
            have : (10 : Nat) ≤ cap := by decide
            omega
          refine tW_of (pe_tup (pa_nest h5.2)) (tys_ok ok h5.1 ⟨by rw [List.length_map]; exact hlen, fun q hq => ?_⟩)
          refine isi_many (ts := ts) (F := F') (fun b o e => ?_) (hv.upd hq) upd_same ?_
          · rw [upd_ne (ne_of_none (p.ok.sub b o e) hq)]
            exact p.ok.sub b o e
          · exact k _ _ _ _ _ (p.newW (New.tuple p.ok.sub hq)) (.tmp (.frz (.bl _)))
        · cases ts with
          | nil => simp [mTys] at h5
          | cons t0 ts =>
            cases ts with
            | cons _ _ => simp [mTys] at h5
            | nil =>
              simp only [mTys, Bool.and_eq_true] at h5
              refine ty_ok ok h5.1 (isi_one p.ok.sub hv ?_)
              exact k _ _ _ _ _ p.drop (.tmp (.frz (by rw [show [t0].any (isTy d) = isTy d t0 by simp]; exact .bl _)))
      · cases he
    · cases he
  · cases hm
end
end Ev

set_option linter.all false
set_option maxRecDepth 100000
set_option maxHeartbeats 4000000
/-! Ev: methods -/
namespace Ev
open PySem PySem.Spec PyProof.Rows L2
section
variable {C : Ctx} {X : Cx} {c : Cxt} {n m : Nat} {σ : L2.St} {δ δ' : Dl} {F H F0 H0 : Hp} {W W0 : Fp} {a : A} {Q : VK}
/-- an owned place holds an owned list: it is changed -/
theorem place_ok {K : PySem.W.Frag} {δ4 : Dl} {Wt : Fp} {v0 v : V} {i : Nat} {p : List Nat} {d1 : D} {xs : List D} (q : Post K F0 H0 W0 F H σ δ W Wt) (es : slot δ i = some d1) (ed : d1.at p = some (.lst true xs)) (gs : σ[i]? = some (some v0)) (pt : PathTo H v0 p v) :
    ∃ ad vs U, v = .ref ad ∧ H ad = some (.lst vs) ∧ OwL K F H vs xs U ∧ Dj U Wt ∧
      ∀ {f : D → Option D} {vs' : List V} {ds' : List D}, OwL K F H vs' ds' (Un2 U Wt) → f (.lst true xs) = some (.lst true ds') → upSlot δ i p f = some δ4 → ∃ W', Post K F0 H0 W0 F (upd H ad (.lst vs')) σ δ4 W' No := by
  obtain ⟨v0', U0, R, g, o0, s1, s2, dj0, st, z0⟩ := q.ok.st.zip (slot_some es)
  rw [gs] at g
  cases g
  obtain ⟨v', U1, pt', o1, s3, z1⟩ := o0.zip ed
  cases pt.uniq pt'
  cases o1 with
  | frz r => cases r
  | @own ad vs _ _ U2 h1 h2 h3 h4 h5 h6 =>
    refine ⟨ad, vs, U2, rfl, h1, h4, fun b y t => q.dj b t (s1 b (s3 b (h6 b y))), fun {f vs' ds'} o ef eu => ?_⟩
    have aW : W ad := s1 _ (s3 _ h3)
    have nT : ¬ Wt ad := fun t => q.dj _ t aW
    have nUT : ¬ Un2 U2 Wt ad := fun t => t.elim h5 nT
    have oth : ∀ b, b ≠ ad → upd H ad (.lst vs') b = H b := fun b n => upd_ne n
    have own' : Ow K F (upd H ad (.lst vs')) (.ref ad) (.lst true ds') (Un2 U1 Wt) := by
      refine .own (U := Un2 U2 Wt) upd_same h2 (.inl h3) (o.keep (fun _ _ e => e) fun b y ob e f => ⟨?_, f⟩) nUT fun b y => y.imp (h6 b) id
      rw [oth b (fun e' => nUT (e' ▸ y))]
      exact e
    unfold upSlot at eu
    rw [es] at eu
    simp only at eu
    split at eu
    · rename_i d0' e0
      cases eu
      have k1 : Kept F H F (upd H ad (.lst vs')) U0 U1 := fun b y n ob e f => ⟨by rw [oth b (fun e' => n (e' ▸ h3))]; exact e, f⟩
      have o0' : Ow K F (upd H ad (.lst vs')) v0 d0' (Un2 U0 Wt) := z1 (fun _ _ e => e) own' k1 (fun b y => y.imp id fun t => fun u => q.dj b t (s1 b u)) (fun b y => .inl y) (fun b y => y.imp (s3 b) id) ef e0
      have k0 : Kept F H F (upd H ad (.lst vs')) W U0 := fun b y n ob e f => ⟨by rw [oth b (fun e' => n (e' ▸ s3 _ h3))]; exact e, f⟩
      have stN := z0 (fun _ _ e => e) o0' k0 (fun b y => y.imp id fun t => q.dj b t) (W' := Un2 W Wt) (fun b y => .inl y) fun b y => y.imp (s1 b) id
      have lv : ∀ b, H b ≠ none → upd H ad (.lst vs') b ≠ none := fun b y => by
        by_cases e : b = ad
        · rw [e, upd_same]; simp
        · rw [oth b e]; exact y
      refine ⟨Un2 W Wt, ⟨fun b ob e => ?_, stN, fun b y => ?_⟩, fun _ y => y.elim, fun _ y => y.elim, ?_⟩
      · rw [oth b (fun e' => by rw [e', h2] at e; cases e)]
        exact q.ok.sub b ob e
      · rcases y with y | y
        · exact lv b (q.ok.lv b y)
        · exact lv b (q.lt b y)
      · refine q.ext.trans ⟨fun _ _ e => e, fun b ob e => .inl e, fun b ob e n => ?_, fun b e => ?_, fun b y => ?_⟩
        · rw [oth b (fun e' => n (.inr (e' ▸ aW)))]
          exact e
        · by_cases e' : b = ad
          · rw [e', upd_same] at e; cases e
          · rw [oth b e'] at e; exact e
        · rcases y with y | y | y
          · exact y.elim
          · exact .inl (.inr y)
          · exact .inl (.inl y)
    · cases eu
theorem PathTo.keep {K : PySem.W.Frag} {H' : Hp} : ∀ {p : List Nat} {v0 v : V} {d0 d : D} {U : Fp}, Ow K F H v0 d0 U → d0.at p = some d → PathTo H v0 p v → (∀ b, U b → ∀ o, H b = some o → F b = none → H' b = some o) → PathTo H' v0 p v
  | [], v0, v, d0, d, U, o, e, q, k => q
  | j :: p, v0, v, d0, d, U, o, e, ⟨a, vs, v1, ev, h1, g, q⟩, k => by
    cases d0 with
    | lst ow ds =>
      cases ow with
      | true =>
        cases o with
        | frz r => cases r
        | own h1' h2 h3 h4 h5 h6 =>
          cases ev
          rw [h1] at h1'
          cases h1'
          simp only [D.at] at e
          split at e
          · rename_i x ex
            obtain ⟨v1', U1, g', o1, s1⟩ := h4.get ex
            rw [g] at g'
            cases g'
            exact ⟨a, vs, v1, rfl, k a h3 _ h1 h2, g, PathTo.keep o1 e q fun b y => k b (h6 b (s1 b y))⟩
          · cases e
      | false => simp [D.at] at e
    | _ => simp [D.at] at e
theorem me_facts (mt : Me) : Slot "list" (meS mt) (meN mt) ∧ typeOf (.builtin (meN mt)) = pure (.type "method_descriptor") := by
  cases mt
  · exact ⟨PySem.F.slot_list_append, PySem.F.type_list_append⟩
  · exact ⟨PySem.F.slot_list_pop, PySem.F.type_list_pop⟩
  · exact ⟨PySem.F.slot_list_pop, PySem.F.type_list_pop⟩
  · exact ⟨PySem.F.slot_list_extend, PySem.F.type_list_extend⟩
  · exact ⟨PySem.F.slot_list_remove, PySem.F.type_list_remove⟩
  · exact ⟨PySem.F.slot_list_index, PySem.F.type_list_index⟩
theorem noBase_eq {y : Expr} (h : noBase y = true) (nm : Str) (env : Env) : attributeBase y nm env (eval y env) = eval y env := by
  cases y with
  | Call f as ks p =>
    cases f with
    | Name g q =>
      cases as with
      | nil =>
        cases ks with
        | nil => simp [noBase] at h
        | cons _ _ => rfl
      | cons _ _ => cases ks <;> rfl
    | _ => cases as <;> cases ks <;> rfl
  | _ => rfl
/-- a method's call, by its reading -/
theorem call_meth (mt : Me) {y : Expr} {xs : List Expr} {apos cpos : Pos} (h4 : noStar xs = true) (h5 : noBase y = true) (h6 : (apos.endLine == cpos.line) = true) (h7 : xs.length < 20)
    (q : tW X y σ H fun x H1 => tyV X.K "list" x H1 ∧ nestA X xs σ H1 fun vs H2 => mW X (meN mt) x vs H2 Q) : tW X (.Call (.Attribute y (meS mt) apos) xs [] cpos) σ H Q := by
  obtain ⟨f1, f2⟩ := me_facts mt
  cases xs with
  | nil => exact tW_of (pe_bm0 PySem.F.plainAttrs_list f1 f2 mt_mW pe_tW (noBase_eq h5 _ _) h6) q
  | cons z zs => exact tW_of (pe_bm PySem.F.plainAttrs_list f1 f2 mt_mW pe_tW (pa_nest h4) (noBase_eq h5 _ _) (Ob.few_ok _ _ h4 h7) h6 (star_cons _ h4) (star_plain _ _ (noStar_tail h4))) q
theorem meth_fin {mt : Me} {δ4 : Dl} {Wt : Fp} {v0 v : V} {ws : List V} {i : Nat} {p : List Nat} {d1 d d' r : D} {ds : List D} (q : Post X.K F0 H0 W0 F H σ δ W Wt) (o : OwL X.K F H ws ds Wt) (es : slot δ i = some d1) (ed : d1.at p = some d) (gs : σ[i]? = some (some v0)) (pt : PathTo H v0 p v)
    (em : methD mt d ds = some (r, d')) (eu : upSlot δ i p (fun _ => some d') = some δ4) (k : HandsOn X F0 H0 W0 σ δ4 (.tmp r) Q) : mW X (meN mt) v ws H Q := by
  have : ∃ xs, d = .lst true xs := by
    unfold methD at em
    split at em <;> first | exact ⟨_, rfl⟩ | cases em
  obtain ⟨xs, rfl⟩ := this
  obtain ⟨ad, vs, U, rfl, h1, oL, dj, fin⟩ := place_ok q es ed gs pt
  refine meth_ok q.ok.sub em h1 oL o dj fun vr vs' ds' e rr o' => ?_
  subst e
  obtain ⟨W', p'⟩ := fin (f := fun _ => some (.lst true ds')) o' rfl eu
  exact k _ _ _ _ _ p' (.tmp (.frz rr))
theorem list_ty {K : PySem.W.Frag} {x : V} {o : Bool} {xs : List D} (s : Same F H) (h : Vw K F H x (.lst o xs)) : tyV K "list" x H := by
  obtain ⟨a, vs, rfl, h1, _⟩ := h.lst s
  exact .inl ⟨rfl, vs, SqL.of h1⟩
theorem at_list {K : PySem.W.Frag} {d x' : D} {p : List Nat} {v0 v : V} {U : Fp} (s : Same F H) (o : Ow K F H v0 d U) (e : d.at p = some x') (pt : PathTo H v0 p v) : Vw K F H v x' := by
  obtain ⟨v', U', q, o', _⟩ := o.at e
  cases pt.uniq q
  exact ⟨_, o'⟩
theorem mW_of' {id : String} {r : V → List V → Hp → VK → Prop} {x : V} {xs : List V} (h : MtR X id r) (q : r x xs H Q) : mW X id x xs H Q := fun pins s σ v us I rx rs => h pins s σ H x xs v us Q I rx rs q
theorem flat_ints {ns : List Int} : (ns.map V.int).all flatV = true := by
  induction ns with
  | nil => rfl
  | cons n ns ih => rw [List.map_cons, List.all_cons, ih]; rfl
theorem e_index (ihe : SE C n) (ih : SAs C n) (ok : XOk C X c) {o : E} {es : List E} {x : Expr} (hm : mE (m + 1) c (.meth .index o es) x = true) (s : SOk X.K F H σ δ W) (he : evE C (n + 1) (.meth .index o es) δ = some (a, δ')) (k : HandsOn X F H W σ δ' a Q) : tW X x σ H Q := by
  unfold mE at hm
  simp only at hm
  split at hm
  · rename_i y nm apos xs cpos
    simp only [Bool.and_eq_true] at hm
    obtain ⟨⟨⟨⟨⟨⟨h1, h2⟩, h3⟩, h4⟩, h5⟩, h6⟩, h7⟩ := hm
    cases same_eq h1
    unfold evE at he
    simp only at he
    split at he
    · rename_i v0 δ1 e1
      split at he
      · rename_i cc
        rw [Bool.and_eq_true] at cc
        split at he
        · rename_i as δ2 e2
          split at he
          · rename_i d ds e3 e4
            split at he
            · rename_i r e5
              cases he
              refine call_meth .index h4 h5 h6 (of_decide_eq_true h7) (ihe ok h2 s e1 fun v F1 H1 W1 Wt p hv => ⟨?_, ?_⟩)
              · have c2 := cc.2
                unfold isLst at c2
                split at c2
                · rename_i e0
                  exact list_ty p.ok.sub (hv.look p.ok e0)
                · cases c2
              · refine ih ok h3 p.ok e2 fun vs F2 H2 W2 Wu q hq => ?_
                have hv2 := hv.ext (δ' := δ) (Wu := No) q.ext p.dj cc.1
                have sx := hv2.look q.ok e3
                have lx := hq.looks q.ok e4
                unfold methR at e5
                split at e5
                · rename_i o1 ys i hi
                  split at e5
                  · rename_i ns en
                    split at e5
                    · rename_i j ej
                      cases e5
                      obtain ⟨z, rfl, hz⟩ := lx.one
                      cases hz.int
                      obtain ⟨ad, rfl, ha⟩ := sx.ints q.ok.sub en
                      obtain ⟨g1, g2⟩ := ixOf_spec i ej
                      refine mW_of' mt_index ⟨ad, _, .int i, j, .int i, rfl, rfl, SqL.of ha, rfl, flat_ints, by rw [List.getElem?_map, g1]; rfl, by simp [eqV], fun m' z' hm' hz' => ?_, k.atom (p.trans0 q) (.int _)⟩
                      rw [List.getElem?_map] at hz'
                      cases e6 : ns[m']? with
                      | none => rw [e6] at hz'; cases hz'
                      | some w =>
                        rw [e6] at hz'
                        cases hz'
                        have := g2 m' hm'
                        rw [e6] at this
                        have : w ≠ i := fun e => this (by rw [e])
                        simp [eqV, this]
                    · cases e5
                  · cases e5
                · cases e5
            · cases he
          · cases he
        · cases he
      · cases he
    · cases he
  · cases hm
theorem isLst_of {o : Option D} (h : isLst o = true) : ∃ b xs, o = some (.lst b xs) := by
  unfold isLst at h
  split at h
  · exact ⟨_, _, rfl⟩
  · cases h
theorem e_methX (ihe : SE C n) (ih : SAs C n) (ok : XOk C X c) {mt : Me} {o : E} {es : List E} {x : Expr} (hm : mE (m + 1) c (.meth mt o es) x = true) (s : SOk X.K F H σ δ W) (he : methX mt (evAs C n es) (evE C n o δ) = some (a, δ')) (k : HandsOn X F H W σ δ' a Q) : tW X x σ H Q := by
  unfold mE at hm
  simp only at hm
  split at hm
  · rename_i y nm apos xs cpos
    simp only [Bool.and_eq_true] at hm
    obtain ⟨⟨⟨⟨⟨⟨h1, h2⟩, h3⟩, h4⟩, h5⟩, h6⟩, h7⟩ := hm
    cases same_eq h1
    unfold methX at he
    split at he
    · rename_i sl pp δ1 e1
      split at he
      · rename_i d0 e0
        split at he
        · rename_i cl
          obtain ⟨ob, xs0, ea⟩ := isLst_of cl
          split at he
          · rename_i as δ2 e2
            split at he
            · rename_i ds δ3 e3
              split at he
              · rename_i d1 e4
                split at he
                · rename_i d e5
                  split at he
                  · rename_i r d' e6
                    split at he
                    · rename_i δ4 e7
                      cases he
                      refine call_meth mt h4 h5 h6 (of_decide_eq_true h7) (ihe ok h2 s e1 fun v F1 H1 W1 Wt p hv => ?_)
                      cases hv with
                      | @bor v0 _ _ _ _ gs pt =>
                        obtain ⟨v0', U, R, g, o0, s1, s2, djU, st, _⟩ := p.ok.st.zip (slot_some e0)
                        rw [gs] at g
                        cases g
                        refine ⟨list_ty p.ok.sub (at_list p.ok.sub o0 ea pt), ?_⟩
                        cases pp with
                        | nil =>
                          simp only [List.isEmpty_nil, if_true] at e2 e4 e7
                          refine ih ok h3 p.ok e2 fun vs F2 H2 W2 Wu q hq => ?_
                          obtain ⟨F3, q2, o3⟩ := (p.trans0 q).toVs hq e3
                          exact meth_fin q2 o3 e4 e5 gs (by cases pt; rfl) e6 e7 k
                        | cons k0 pp =>
                          simp only [List.isEmpty_cons, Bool.false_eq_true, if_false] at e2 e4 e7
                          have p' : Post X.K F H W F1 H1 σ (δ1.set sl none) R U := by
                            refine ⟨⟨p.ok.sub, st, fun b z => p.ok.lv b (s2 b z)⟩, djU, fun b z => p.ok.lv b (s1 b z), p.ext.mono (fun _ z => z) fun b z => .inl ?_⟩
                            rcases z with z | z
                            · exact .inr (s1 b z)
                            · exact .inr (s2 b z)
                          refine ih ok h3 p'.ok e2 fun vs F2 H2 W2 Wu q hq => ?_
                          obtain ⟨F3, q3, o3⟩ := q.toVs hq e3
                          obtain ⟨dj, q4⟩ := p'.keepT q3
                          have o1 := o0.ext q3.ext djU
                          have pt' := PathTo.keep o0 ea pt fun b u ob a f => (q3.ext.apart djU b u ob a f).1
                          have q5 : Post X.K F H W F3 H2 σ (δ3.set sl (some d0)) (Un2 U W2) Wu := by
                            refine ⟨⟨q4.ok.sub, q4.ok.st.back gs o1 (fun b z t => dj b z (.inr t)) (fun b z => .inr z) fun b z => .inl z, fun b z => ?_⟩, fun b z t => ?_, fun b z => q4.lt b (.inr z), q4.ext.mono (fun _ z => z) fun b z => .inl ?_⟩
                            · rcases z with z | z
                              · exact q4.lt b (.inl z)
                              · exact q4.ok.lv b z
                            · rcases t with t | t
                              · exact dj b t (.inl z)
                              · exact q3.dj b z t
                            · rcases z with z | z | z
                              · exact .inl (.inr z)
                              · exact .inl (.inl z)
                              · exact .inr z
                          exact meth_fin q5 o3 e4 e5 gs pt' e6 e7 k
                    · cases he
                  · cases he
                · cases he
              · cases he
            · cases he
          · cases he
        · cases he
      · cases he
    · cases he
  · cases hm
theorem e_meth (ihe : SE C n) (ih : SAs C n) (ok : XOk C X c) {mt : Me} {o : E} {es : List E} {x : Expr} (hm : mE (m + 1) c (.meth mt o es) x = true) (s : SOk X.K F H σ δ W) (he : evE C (n + 1) (.meth mt o es) δ = some (a, δ')) (k : HandsOn X F H W σ δ' a Q) : tW X x σ H Q := by
  cases mt with
  | index => exact e_index ihe ih ok hm s he k
  | _ => exact e_methX ihe ih ok hm s he k
end
end Ev

set_option linter.all false
set_option maxRecDepth 100000
set_option maxHeartbeats 4000000
/-! Ev: comprehensions -/
namespace Ev
open PySem PySem.Spec PyProof.Rows L2
section
variable {K : PySem.W.Frag} {F H F0 H0 : Hp} {W W0 : Fp} {σ : L2.St} {δ : Dl}
theorem StL.clear : ∀ {σ : L2.St} {δ : Dl} {W : Fp} (i : Nat), StL K F H σ δ W → StL K F H (σ.set i none) (δ.set i none) W
  | _, _, _, _, .nil => .nil
  | _, _, _, 0, .gap h => .gap h
  | _, _, _, i + 1, .gap h => .gap (StL.clear i h)
  | _, _, _, 0, .one _ h2 _ _ h5 => .gap (h2.weak h5)
  | _, _, _, i + 1, .one h1 h2 h3 h4 h5 => .one h1 (StL.clear i h2) h3 h4 h5
theorem StL.unclear : ∀ {σ : L2.St} {δ : Dl} {W : Fp} (i : Nat), StL K F H (σ.set i none) δ W → StL K F H σ δ W
  | [], _, _, i, h => by simpa using h
  | _ :: _, _, _, 0, h => by
    cases h with
    | gap h => exact .gap h
  | x :: σ, _, _, i + 1, h => by
    simp only [List.set_cons_succ] at h
    cases h with
    | gap h => exact .gap (StL.unclear i h)
    | one h1 h2 h3 h4 h5 => exact .one h1 (StL.unclear i h2) h3 h4 h5
theorem StL.wipes (h : StL K F H σ δ W) : ∀ own : List Nat, StL K F H (wipe σ own) (wipeD δ own) W
  | [] => h
  | v :: vs => (h.wipes vs).clear v
theorem StL.unwipes : ∀ {own : List Nat} {δ : Dl} {W : Fp}, StL K F H (wipe σ own) δ W → StL K F H σ δ W
  | [], _, _, h => h
  | v :: vs, _, _, h => StL.unwipes (own := vs) (h.unclear v)
theorem wipe_get (σ : L2.St) : ∀ (own : List Nat) (i : Nat), (wipe σ own)[i]? = if i ∈ own then (if i < σ.length then some none else none) else σ[i]?
  | [], i => by simp [wipe]
  | v :: vs, i => by
    unfold wipe
    by_cases h : v = i
    · subst h
      rw [if_pos List.mem_cons_self]
      by_cases l : v < σ.length
      · rw [if_pos l, List.getElem?_set_self (by rw [wipe_length]; exact l)]
      · rw [if_neg l, List.getElem?_eq_none (by rw [List.length_set, wipe_length]; omega)]
    · rw [List.getElem?_set_ne h, wipe_get σ vs i]
      have : (i ∈ v :: vs) ↔ i ∈ vs := by
        simp only [List.mem_cons]
        exact ⟨fun q => q.elim (fun e => absurd e.symm h) id, .inr⟩
      simp only [this]
theorem wipe_eq {own is : List Nat} {σ σ' : L2.St} (h : OffEq is (wipe σ own) σ') (s : ∀ i ∈ is, i ∈ own) : wipe σ' own = wipe σ own := by
  have hl : σ'.length = σ.length := by rw [h.1, wipe_length]
  refine List.ext_getElem? fun i => ?_
  rw [wipe_get, wipe_get]
  by_cases hi : i ∈ own
  · rw [if_pos hi, if_pos hi, hl]
  · rw [if_neg hi, if_neg hi, h.2 i fun q => hi (s i q), wipe_get, if_neg hi]
/-- another state for the same cells -/
theorem Post.state {σ' : L2.St} {δ' : Dl} {Wt : Fp} (p : Post K F0 H0 W0 F H σ δ W Wt) (h : StL K F H σ' δ' W) : Post K F0 H0 W0 F H σ' δ' W Wt := ⟨⟨p.ok.sub, h, p.ok.lv⟩, p.dj, p.lt, p.ext⟩
theorem SOk.state {σ' : L2.St} {δ' : Dl} (p : SOk K F H σ δ W) (h : StL K F H σ' δ' W) : SOk K F H σ' δ' W := ⟨p.sub, h, p.lv⟩
theorem rest_ok {δ1 : Dl} : ∀ {own : List Nat} {δ : Dl}, StL K F H σ δ W → (∀ v ∈ own, ∀ d, δ1[v]? = some (some d) → ∃ x, σ[v]? = some (some x) ∧ Rp K F x d) → StL K F H σ (restD δ1 δ own) W
  | [], _, h, _ => h
  | v :: vs, δ, h, k => by
    have ih := rest_ok (own := vs) h fun u hu => k u (List.mem_cons_of_mem _ hu)
    unfold restD
    split
    · rename_i x ex
      cases x with
      | none => exact ih.drop v
      | some d =>
        obtain ⟨z, g, r⟩ := k v List.mem_cons_self d ex
        exact ih.back g (.frz (W := No) r) (fun _ q => q.elim) (fun _ q => q) fun _ q => q.elim
    · exact ih.drop v
theorem ownFz_get : ∀ {own : List Nat} {δ : Dl}, ownFz δ own = true → ∀ v ∈ own, ∀ d, δ[v]? = some (some d) → d.fz = true
  | u :: us, δ, h, v, hv, d, e => by
    unfold ownFz at h
    rw [Bool.and_eq_true] at h
    rcases List.mem_cons.mp hv with q | q
    · subst q
      have h1 := h.1
      rw [slot_of e] at h1
      exact h1
    · exact ownFz_get h.2 v q d e
/-- an item is appended to the list at ad -/
theorem Post.push {Wd Wy : Fp} {ad : Addr} {acc : List D} {y : V} {d : D} (p : Post K F0 H0 W0 F H σ δ W (Un2 Wd Wy)) (h0 : H0 ad = none) (o : Ow K F H (.ref ad) (.lst true acc) Wd) (oy : Ow K F H y d Wy) (dj : Dj Wd Wy) :
    ∃ vs, H ad = some (.lst vs) ∧ vs.length = acc.length ∧ Post K F0 H0 W0 F (upd H ad (.lst (vs ++ [y]))) σ δ W (Un2 Wd Wy) ∧ Ow K F (upd H ad (.lst (vs ++ [y]))) (.ref ad) (.lst true (acc ++ [d])) (Un2 Wd Wy) := by
  cases o with
  | frz r => cases r
  | @own _ vs _ _ U h1 h2 h3 h4 h5 h6 =>
    have oth : ∀ b, b ≠ ad → upd H ad (.lst (vs ++ [y])) b = H b := fun b n => upd_ne n
    have nW : ¬ W ad := fun t => p.dj _ (.inl h3) t
    have nY : ¬ Wy ad := fun t => dj _ h3 t
    have lv : ∀ b, H b ≠ none → upd H ad (.lst (vs ++ [y])) b ≠ none := fun b y => by
      by_cases e : b = ad
      · rw [e, upd_same]; simp
      · rw [oth b e]; exact y
    have keep : ∀ b, b ≠ ad → ∀ ob, H b = some ob → F b = none → upd H ad (.lst (vs ++ [y])) b = some ob ∧ F b = none := fun b n ob e f => ⟨by rw [oth b n]; exact e, f⟩
    refine ⟨vs, h1, h4.length, ⟨⟨fun b ob e => ?_, p.ok.st.keep (fun _ _ e => e) fun b q => keep b (fun e => nW (e ▸ q)), fun b q => lv b (p.ok.lv b q)⟩, p.dj, fun b q => lv b (p.lt b q), ?_⟩, ?_⟩
    · rw [oth b (fun e' => by rw [e', h2] at e; cases e)]
      exact p.ok.sub b ob e
    · refine ⟨p.ext.fsub, p.ext.fnew, fun b ob e n => ?_, fun b e => ?_, p.ext.wnew⟩
      · rw [oth b (ne_of_none e h0)]
        exact p.ext.keep b ob e n
      · by_cases e' : b = ad
        · rw [e']; exact h0
        · rw [oth b e'] at e; exact p.ext.live b e
    · have l1 := h4.keep (F' := F) (H' := upd H ad (.lst (vs ++ [y]))) (fun _ _ e => e) fun b q => keep b (fun e => h5 (e ▸ q))
      have l2 := oy.keep (F' := F) (H' := upd H ad (.lst (vs ++ [y]))) (fun _ _ e => e) fun b q => keep b (fun e => nY (e ▸ q))
      refine .own (U := Un2 U Wy) upd_same h2 (.inl h3) (l1.append (.cons (W1 := Wy) (W2 := No) l2 .nil (fun _ _ q => q) (fun _ q => q) fun _ q => q.elim) (fun b q t => dj b (h6 b q) t) (fun b q => .inl q) fun b q => .inr q) (fun q => q.elim h5 nY) fun b q => q.imp (h6 b) id
end

section
variable {X : Cx}
def tWTs (X : Cx) (ifs : List Expr) : TT := fun σ H Q => ∀ pins s, Inv X pins σ H s →
  wpAny (model X.prog X.w) X.A (forIn ifs true fun c r => if r = true then do let ok ← isTrue c X.env (eval c X.env); pure (ForInStep.yield ok) else pure (ForInStep.yield r)) (TP X pins σ Q) X.xe s
theorem tWTs_of {ifs : List Expr} {t : TT} {σ : L2.St} {H : Hp} {Q : Bool → Hp → Prop} (h : PTs X ifs t) (q : t σ H Q) : tWTs X ifs σ H Q := fun pins s I => h.run pins s σ H Q I q
abbrev blkX (X : Cx) (scope : Scope) (s : Shared) (H : Hp) (C : Addr) (cl : List (Str × Addr)) (fp : List Addr) : Cx := X.blk s H scope (compEnvC scope cl C X.env) fp
def aG (X : Cx) (scope : Scope) (t : Expr) : TG := fun v σ H Q => ∀ s0 H0 C cl fp, tWG (blkX X scope s0 H0 C cl fp) t v σ H Q
def aTs (X : Cx) (scope : Scope) (fs : List Expr) : TT := fun σ H Q => ∀ s0 H0 C cl fp, tWTs (blkX X scope s0 H0 C cl fp) fs σ H Q
def aE (X : Cx) (scope : Scope) (y : Expr) : TE := fun σ H Q => ∀ s0 H0 C cl fp, tW (blkX X scope s0 H0 C cl fp) y σ H Q
def aI (X : Cx) (scope : Scope) (t it : Expr) : TI := fun σ H Q => ∀ s0 H0 C cl fp, tWI (blkX X scope s0 H0 C cl fp) t it σ H Q
theorem pg_aG {scope : Scope} {t : Expr} (s : Shared) (H : Hp) (C : Addr) (cl : List (Str × Addr)) (fp : List Addr) : PG (blkX X scope s H C cl fp) t (aG X scope t) := ⟨fun pins s1 σ H1 v u Q I r h => h s H C cl fp pins s1 u I r⟩
theorem pts_aTs {scope : Scope} {fs : List Expr} (s : Shared) (H : Hp) (C : Addr) (cl : List (Str × Addr)) (fp : List Addr) : PTs (blkX X scope s H C cl fp) fs (aTs X scope fs) := ⟨fun pins s1 σ H1 Q I h => h s H C cl fp pins s1 I⟩
theorem pe_aE {scope : Scope} {y : Expr} (s : Shared) (H : Hp) (C : Addr) (cl : List (Str × Addr)) (fp : List Addr) : PE (blkX X scope s H C cl fp) y (aE X scope y) := ⟨fun pins s1 σ H1 Q I h => h s H C cl fp pins s1 I⟩
theorem pi_aI {scope : Scope} {t it : Expr} (s : Shared) (H : Hp) (C : Addr) (cl : List (Str × Addr)) (fp : List Addr) : PI (blkX X scope s H C cl fp) t it (aI X scope t it) := ⟨fun pins s1 σ H1 R I h => h s H C cl fp pins s1 I⟩
def SIfs (C : Ctx) (n : Nat) : Prop := ∀ {X : Cx} {c : Cxt}, XOk C X c → ∀ {m : Nat} {ifs : List E} {fs : List Expr} {σ : L2.St} {δ : Dl} {F H : Hp} {W : Fp} {b : Bool} {δ' : Dl} {Q : Bool → Hp → Prop}, mTs m c ifs fs = true → SOk X.K F H σ δ W → evIfs C n ifs δ = some (b, δ') → Tells X F H W σ δ' b Q → tWTs X fs σ H Q
variable {C : Ctx} {n m : Nat}
theorem s_ifs (iht : ST C n) : SIfs C (n + 1) := by
  intro X c ok m ifs fs σ δ F H W b δ' Q hm s he k
  match ifs, he with
  | [], he =>
    simp only [evIfs] at he
    cases he
    cases mTs_nil hm
    exact tWTs_of pts_nil (k _ _ _ (.refl s))
  | [c1], he =>
    simp only [evIfs] at he
    cases m with
    | zero => simp [mTs] at hm
    | succ m =>
      cases fs with
      | nil => simp [mTs] at hm
      | cons f fs =>
        simp only [mTs, Bool.and_eq_true] at hm
        cases mTs_nil hm.2
        exact tWTs_of (pts_one pt_tW) (iht ok hm.1 s he k)
  | _ :: _ :: _, he => simp [evIfs] at he
theorem tgIn_mem {own : List Nat} {t : Tg} (h : tgIn own t = true) : ∀ i ∈ tgIs t, i ∈ own := fun i hi => by
  unfold tgIn at h
  rw [List.all_eq_true] at h
  simpa using h i hi
/-- the loop that builds a list -/
theorem lc_loop {c' : Cxt} {scope : Scope} {own : List Nat} {tg : Tg} {ifs : List E} {elt : E} {t y : Expr} {fs : List Expr} {σ : L2.St} {J : It} {xs ys acc0 : List D} {δs δe : Dl} {F1 F0 H0 Fs Hs : Hp} {W0 Ws Wd0 : Fp} {ad : Addr} {Qe : Hp → Prop}
    (bok : ∀ s0 H0 C' cl fp, XOk C (blkX X scope s0 H0 C' cl fp) c') (sv : SV C n) (si : SIfs C n) {m1 m2 : Nat} (mt : mTg c' tg t = true) (mf : mTs m1 c' ifs fs = true) (me : mE m2 c' elt y = true) (ti : tgIn own tg = true)
    (q0 : Post X.K F0 H0 W0 Fs Hs (wipe σ own) δs Ws Wd0) (o0 : Ow X.K Fs Hs (.ref ad) (.lst true acc0) Wd0) (h0 : H0 ad = none) (sF : Same F1 Fs) (w : WkD X.K F1 J xs)
    (e0 : lcL (setT C.lock tg) (evIfs C n ifs) (evV C n elt) own xs acc0 δs = some (ys, δe))
    (fin : ∀ Fe He We Wde, Post X.K F0 H0 W0 Fe He (wipe σ own) δe We Wde → Ow X.K Fe He (.ref ad) (.lst true ys) Wde → Same Fs Fe → Qe He) :
    ∃ Wi : Nat → Nat → Hp → Prop, (∃ m, Wi 0 m Hs) ∧ ∀ i m H, Wi i m H → (J.stop i H ∧ Qe H) ∨ (J.go i H ∧ ∃ Nx : Hp → Prop, (∀ H', Nx H' → ∃ m', m' < m ∧ Wi (i + 1) m' H') ∧ ∀ x H', J.yld i H x H' →
      aG X scope t x (wipe σ own) H' fun σ2 H2 => wipe σ2 own = wipe σ own ∧ aTs X scope fs σ2 H2 fun b H3 => if b = true then aE X scope y σ2 H3 fun v H4 => ∃ acc, H4 ad = some (.lst acc) ∧ acc.length < sizeLine ∧ Nx (upd H4 ad (.lst (acc ++ [v]))) else Nx H3) := by
  refine ⟨fun i k Hc => k = xs.length - i ∧ i ≤ xs.length ∧ ∃ Fc Wc δc acc Wd, Post X.K F0 H0 W0 Fc Hc (wipe σ own) δc Wc Wd ∧ Ow X.K Fc Hc (.ref ad) (.lst true acc) Wd ∧ Same Fs Fc ∧
    lcL (setT C.lock tg) (evIfs C n ifs) (evV C n elt) own (xs.drop i) acc δc = some (ys, δe), ⟨_, rfl, Nat.zero_le _, Fs, Ws, δs, acc0, Wd0, q0, o0, fun _ _ e => e, e0⟩, ?_⟩
  rintro i k Hc ⟨rfl, hi, Fc, Wc, δc, acc, Wd, q, o, sm, e⟩
  by_cases hlt : i < xs.length
  · refine .inr ⟨w.goes i Fc Hc (sF.trans sm) q.ok.sub hlt, fun H' => ∃ Fc Wc δc acc Wd, Post X.K F0 H0 W0 Fc H' (wipe σ own) δc Wc Wd ∧ Ow X.K Fc H' (.ref ad) (.lst true acc) Wd ∧ Same Fs Fc ∧
      lcL (setT C.lock tg) (evIfs C n ifs) (evV C n elt) own (xs.drop (i + 1)) acc δc = some (ys, δe), fun H' nx => ⟨xs.length - (i + 1), by omega, rfl, hlt, nx⟩, fun x H' yl => ?_⟩
    obtain ⟨F', rx, nw⟩ := w.yields i Fc Hc x H' (xs[i]) (sF.trans sm) q.ok.sub (by simp [hlt]) yl
    obtain ⟨_, q1⟩ := q.newT nw
    have o1 := o.ext nw.ext fun _ _ z => z
    have sm1 := sm.trans nw.ext.fsub
    rw [List.drop_eq_getElem_cons hlt] at e
    unfold lcL at e
    split at e
    · cases e
    · rename_i δ1 e1
      intro s0 H00 C' cl fp
      have r0 : Post X.K F' H' Wc F' H' (wipe σ own) δc Wc No := .refl q1.ok
      refine tg_ok (bok s0 H00 C' cl fp) mt r0 (.frz rx) e1 fun σ2 W2 r1 _ off => ⟨wipe_eq off (tgIn_mem ti), ?_⟩
      have hw := wipe_eq off (tgIn_mem ti)
      intro s1 H01 C1 cl1 fp1
      have q1' : Post X.K F0 H0 W0 F' H' (wipe σ own) δc Wc Wd := q1.weakT fun b z => .inl z
      split at e
      · cases e
      · rename_i δ2 e2
        refine si (bok s1 H01 C1 cl1 fp1) mf r1.ok e2 fun F2 H2 W3 r2 => ?_
        rw [if_neg Bool.false_ne_true]
        have r12 := r1.trans0 r2
        obtain ⟨_, q2⟩ := q1'.keepT r12
        refine ⟨F2, W3, wipeD δ2 own, acc, Wd, ?_, o1.ext r12.ext q1'.dj, sm1.trans r12.ext.fsub, e⟩
        rw [← hw]
        exact (q2.weakT fun b z => .inl z).state (q2.ok.st.wipes own)
      · rename_i δ2 e2
        refine si (bok s1 H01 C1 cl1 fp1) mf r1.ok e2 fun F2 H2 W3 r2 => ?_
        rw [if_pos rfl]
        split at e
        · cases e
        · rename_i d δ3 e3
          split at e
          · rename_i hl
            have hl := of_decide_eq_true hl
            intro s2 H02 C2 cl2 fp2
            refine sv (bok s2 H02 C2 cl2 fp2) me r2.ok e3 fun v F3 H3 W4 Wy r3 oy => ?_
            have r123 := (r1.trans0 r2).trans0 r3
            obtain ⟨dj, q2⟩ := q1'.keepT r123
            have o2 := o1.ext r123.ext q1'.dj
            obtain ⟨vs, g1, g2, q3, o3⟩ := q2.push h0 o2 oy fun b z t => dj b z (.inl t)
            have := cap_line
            refine ⟨vs, g1, by omega, F3, W4, wipeD δ3 own, acc ++ [d], _, ?_, o3, sm1.trans r123.ext.fsub, e⟩
            rw [← hw]
            exact q3.state (q3.ok.st.wipes own)
          · cases e
  · have ei : i = xs.length := by omega
    subst ei
    rw [List.drop_length] at e
    simp only [lcL] at e
    cases e
    exact .inl ⟨w.stops Fc Hc (sF.trans sm) q.ok.sub, fin _ _ _ _ q o sm⟩
/-- the pieces of a comprehension -/
structure LcP (C : Ctx) (X : Cx) (c : Cxt) (n : Nat) (elt : E) (tg : Tg) (k : ItK) (its : List E) (ifs : List E) (own : List Nat) (y t it : Expr) (fs : List Expr) (scope : Scope) : Prop where
  blk : blkC c.N c.sc scope (ownP c own) = true
  tgm : mTg (c.blk scope) tg t = true
  it : ∃ m, mI m c t k its it = true
  ifs : ∃ m, mTs m (c.blk scope) ifs fs = true
  elt : ∃ m, mE m (c.blk scope) elt y = true
  tin : tgIn own tg = true
theorem ownP_map (c : Cxt) (own : List Nat) : (ownP c own).map (·.2) = own := by
  unfold ownP
  rw [List.map_map]
  exact (List.map_congr_left fun _ _ => rfl).trans (List.map_id _)
variable {c : Cxt}
theorem LcP.ok {elt : E} {tg : Tg} {k : ItK} {its ifs : List E} {own : List Nat} {y t it : Expr} {fs : List Expr} {scope : Scope} (h : LcP C X c n elt tg k its ifs own y t it fs scope) (ok : XOk C X c) : BlkOk X.N X.env.scope scope (ownP c own) := by
  rw [ok.hN, ok.sc]
  exact blkOk_by h.blk
/-- the reading -/
def lcT (X : Cx) (own : List Nat) (y t it : Expr) (fs : List Expr) (scope : Scope) : TE := tLc (tWI X t it) (aG X scope t) (aTs X scope fs) (aE X scope y) own
theorem lc_ok {elt : E} {tg : Tg} {kk : ItK} {its ifs : List E} {own : List Nat} {y t it : Expr} {fs : List Expr} {scope : Scope} (h : LcP C X c n elt tg kk its ifs own y t it fs scope) (ok : XOk C X c) (sit : SIt C n) (sv : SV C n) (si : SIfs C n) {σ : L2.St} {δ δ' : Dl} {F H : Hp} {W : Fp} {a : A} {Q : VK}
    (s : SOk X.K F H σ δ W) (he : evE C (n + 1) (.lc elt tg kk its ifs own) δ = some (a, δ')) (k : HandsOn X F H W σ δ' a Q) : lcT X own y t it fs scope σ H Q := by
  unfold evE at he
  simp only at he
  split at he
  · rename_i xs δ1 e1
    split at he
    · rename_i fz
      split at he
      · rename_i ys δ2 e2
        cases he
        obtain ⟨mi, hmi⟩ := h.it
        obtain ⟨mf, hmf⟩ := h.ifs
        obtain ⟨me, hme⟩ := h.elt
        refine sit ok hmi s e1 fun F1 H1 W1 J p w => ?_
        intro D hD
        have p1 := (p.state (p.ok.st.wipes own)).newW (New.list (vs := []) p.ok.sub hD)
        have o1 : Ow X.K F1 (upd H1 D (.lst [])) (.ref D) (.lst true []) (At D) := Ow.list p.ok.sub hD .nil
        refine lc_loop (F1 := F1) (fun s0 H0 C' cl fp => ok.blk h.blk s0 H0 C' cl fp) sv si h.tgm hmf hme h.tin p1 o1 (p.ext.live D hD) (fun _ _ z => z) w e2 fun Fe He We Wde q o sm => ?_
        refine k _ _ _ _ _ (q.state (rest_ok q.ok.st.unwipes fun v hv d ed => ?_)) (.tmp o)
        obtain ⟨x, U, R, g, ow, _⟩ := p.ok.st.zip ed
        exact ⟨x, g, (ow.fz (ownFz_get fz v hv d ed)).mono sm⟩
      · cases he
    · cases he
  · cases he
theorem MI.free {k : ItK} {es : List E} {t x : Expr} {m : Nat} (h : mI m c t k es x = true) (env : Env) : ∀ v, foldedSetIterable x env v = pure v := by
  intro v
  unfold mI at h
  split at h
  · cases h
  split at h
  · rw [Bool.and_eq_true, Bool.not_eq_true'] at h
    cases x <;> first | rfl | simp [isSetE] at h
  all_goals
    split at h
    · rfl
    · cases h
theorem e_lc {elt : E} {tg : Tg} {kk : ItK} {its ifs : List E} {own : List Nat} {x : Expr} {σ : L2.St} {δ δ' : Dl} {F H : Hp} {W : Fp} {a : A} (ok : XOk C X c) (sit : SIt C n) (sv : SV C n) (si : SIfs C n) (hm : mE (m + 1) c (.lc elt tg kk its ifs own) x = true)
    (s : SOk X.K F H σ δ W) (he : evE C (n + 1) (.lc elt tg kk its ifs own) δ = some (a, δ')) :
    ∃ y t it fs scope pos, x = .ListComp y [⟨t, it, fs, 0⟩] scope pos ∧ LcP C X c n elt tg kk its ifs own y t it fs scope ∧ (∀ v, foldedSetIterable it X.env v = pure v) ∧ ∀ {Q : VK}, HandsOn X F H W σ δ' a Q → lcT X own y t it fs scope σ H Q := by
  unfold mE at hm
  simp only at hm
  split at hm
  · simp only [Bool.and_eq_true] at hm
    obtain ⟨⟨⟨⟨⟨h1, h2⟩, h3⟩, h4⟩, h5⟩, h6⟩ := hm
    have L : LcP C X c n elt tg kk its ifs own _ _ _ _ _ := ⟨h1, h2, ⟨_, h3⟩, ⟨_, h4⟩, ⟨_, h5⟩, h6⟩
    exact ⟨_, _, _, _, _, _, rfl, L, MI.free h3 _, fun {Q} k => lc_ok L ok sit sv si s he k⟩
  · cases hm
theorem lc_pe {own : List Nat} {y t it : Expr} {fs : List Expr} {scope : Scope} {pos : Pos} {elt : E} {tg : Tg} {kk : ItK} {its ifs : List E} (ok : XOk C X c) (L : LcP C X c n elt tg kk its ifs own y t it fs scope) (hf : ∀ v, foldedSetIterable it X.env v = pure v) : PE X (.ListComp y [⟨t, it, fs, 0⟩] scope pos) (lcT X own y t it fs scope) := by
  have := pe_lc (X := X) (pos := pos) (elt := y) (tg := t) (ifs := fs) (g := aG X scope t) (tt := aTs X scope fs) (te := aE X scope y) ok.calm ok.nd pi_tW (L.ok ok) (fun s H C cl fp => pg_aG s H C cl fp) (fun s H C cl fp => pts_aTs s H C cl fp) (fun s H C cl fp => pe_aE s H C cl fp) hf
  rw [ownP_map] at this
  exact this
theorem e_lcE {elt : E} {tg : Tg} {kk : ItK} {its ifs : List E} {own : List Nat} {x : Expr} {σ : L2.St} {δ δ' : Dl} {F H : Hp} {W : Fp} {a : A} {Q : VK} (ok : XOk C X c) (sit : SIt C n) (sv : SV C n) (si : SIfs C n) (hm : mE (m + 1) c (.lc elt tg kk its ifs own) x = true)
    (s : SOk X.K F H σ δ W) (he : evE C (n + 1) (.lc elt tg kk its ifs own) δ = some (a, δ')) (k : HandsOn X F H W σ δ' a Q) : tW X x σ H Q := by
  obtain ⟨y, t, it, fs, scope, pos, rfl, L, hf, go⟩ := e_lc ok sit sv si hm s he
  exact tW_of (lc_pe ok L hf) (go k)

/-! ### two clauses -/
structure Lc2P (C : Ctx) (X : Cx) (c : Cxt) (elt : E) (tg : Tg) (k : ItK) (its : List E) (tg2 : Tg) (k2 : ItK) (its2 : List E) (own own2 : List Nat) (y t it t2 it2 : Expr) (scope : Scope) : Prop where
  blk : blkC c.N c.sc scope (ownP c own) = true
  tgm : mTg (c.blk scope) tg t = true
  it : ∃ m, mI m c t k its it = true
  tgm2 : mTg (c.blk scope) tg2 t2 = true
  it2 : ∃ m, mI m (c.blk scope) t2 k2 its2 it2 = true
  elt : ∃ m, mE m (c.blk scope) elt y = true
  sub : ∀ i ∈ own2, i ∈ own
  tin : tgIn own tg = true
  tin2 : tgIn own2 tg2 = true
theorem Lc2P.ok {elt : E} {tg tg2 : Tg} {k k2 : ItK} {its its2 : List E} {own own2 : List Nat} {y t it t2 it2 : Expr} {scope : Scope} (h : Lc2P C X c elt tg k its tg2 k2 its2 own own2 y t it t2 it2 scope) (ok : XOk C X c) : BlkOk X.N X.env.scope scope (ownP c own) := by
  rw [ok.hN, ok.sc]
  exact blkOk_by h.blk
def lcT2 (X : Cx) (own own2 : List Nat) (y t it t2 it2 : Expr) (scope : Scope) : TE := tLc2 (tWI X t it) (aG X scope t) (aTs X scope []) (aI X scope t2 it2) (aG X scope t2) (aTs X scope []) (aE X scope y) own own2
theorem lc2_ok {elt : E} {tg tg2 : Tg} {kk k2 : ItK} {its its2 : List E} {own own2 : List Nat} {y t it t2 it2 : Expr} {scope : Scope} (h : Lc2P C X c elt tg kk its tg2 k2 its2 own own2 y t it t2 it2 scope) (ok : XOk C X c) (sit : SIt C n) (sv : SV C n) (si : SIfs C n) {σ : L2.St} {δ δ' : Dl} {F H : Hp} {W : Fp} {a : A} {Q : VK}
    (s : SOk X.K F H σ δ W) (he : evE C (n + 1) (.lc2 elt tg kk its tg2 k2 its2 own own2) δ = some (a, δ')) (k : HandsOn X F H W σ δ' a Q) : lcT2 X own own2 y t it t2 it2 scope σ H Q := by
  unfold evE at he
  simp only at he
  split at he
  · rename_i xs δ1 e1
    split at he
    · rename_i fz
      split at he
      · rename_i ys δ2 e2
        cases he
        obtain ⟨mi, hmi⟩ := h.it
        obtain ⟨mi2, hmi2⟩ := h.it2
        obtain ⟨me, hme⟩ := h.elt
        refine sit ok hmi s e1 fun F1 H1 W1 J p w => ?_
        intro D hD
        have p1 := (p.state (p.ok.st.wipes own)).newW (New.list (vs := []) p.ok.sub hD)
        have o1 : Ow X.K F1 (upd H1 D (.lst [])) (.ref D) (.lst true []) (At D) := Ow.list p.ok.sub hD .nil
        have hD0 := p.ext.live D hD
        let stp := lc2L (setT C.lock tg) (evIt C n k2 its2) (lcL (setT C.lock tg2) (evIfs C n []) (evV C n elt) own2) own own2
        have e2' : stp xs [] (wipeD δ1 own) = some (ys, δ2) := e2
        refine ⟨fun i m Hc => m = xs.length - i ∧ i ≤ xs.length ∧ ∃ Fc Wc δc acc Wd, Post X.K F H W Fc Hc (wipe σ own) δc Wc Wd ∧ Ow X.K Fc Hc (.ref D) (.lst true acc) Wd ∧ Same F1 Fc ∧ stp (xs.drop i) acc δc = some (ys, δ2),
          ⟨_, rfl, Nat.zero_le _, F1, W1, _, [], _, p1, o1, fun _ _ z => z, e2'⟩, ?_⟩
        rintro i m Hc ⟨rfl, hi, Fc, Wc, δc, acc, Wd, q, o, sm, e⟩
        by_cases hlt : i < xs.length
        · refine .inr ⟨w.goes i Fc Hc sm q.ok.sub hlt, fun H' => ∃ Fc Wc δc acc Wd, Post X.K F H W Fc H' (wipe σ own) δc Wc Wd ∧ Ow X.K Fc H' (.ref D) (.lst true acc) Wd ∧ Same F1 Fc ∧ stp (xs.drop (i + 1)) acc δc = some (ys, δ2),
            fun H' nx => ⟨xs.length - (i + 1), by omega, rfl, hlt, nx⟩, fun x H' yl => ?_⟩
          obtain ⟨F', rx, nw⟩ := w.yields i Fc Hc x H' (xs[i]) sm q.ok.sub (by simp [hlt]) yl
          obtain ⟨_, q1⟩ := q.newT nw
          have o1 := o.ext nw.ext fun _ _ z => z
          have sm1 := sm.trans nw.ext.fsub
          rw [List.drop_eq_getElem_cons hlt] at e
          have e : lc2L (setT C.lock tg) (evIt C n k2 its2) (lcL (setT C.lock tg2) (evIfs C n []) (evV C n elt) own2) own own2 (xs[i] :: xs.drop (i + 1)) acc δc = some (ys, δ2) := e
          unfold lc2L at e
          split at e
          · cases e
          · rename_i δ3 e3
            split at e
            · cases e
            · rename_i zs δ4 e4
              split at e
              · cases e
              · rename_i acc' δ5 e5
                intro s0 H00 C' cl fp
                have r0 : Post X.K F' H' Wc F' H' (wipe σ own) δc Wc No := .refl q1.ok
                refine tg_ok (ok.blk h.blk s0 H00 C' cl fp) h.tgm r0 (.frz rx) e3 fun σ2 W2 r1 _ off => ⟨wipe_eq off (tgIn_mem h.tin), ?_⟩
                have hw := wipe_eq off (tgIn_mem h.tin)
                have q1' : Post X.K F H W F' H' (wipe σ own) δc Wc Wd := q1.weakT fun b z => .inl z
                refine fun s1 H01 C1 cl1 fp1 => tWTs_of pts_nil ?_
                unfold tYes
                dsimp only
                rw [if_pos rfl]
                intro s2 H02 C2 cl2 fp2
                refine sit (ok.blk h.blk s2 H02 C2 cl2 fp2) hmi2 r1.ok e4 fun F2 H2 W3 J1 r2 w1 => ?_
                have r12 := r1.trans0 r2
                obtain ⟨_, q2⟩ := q1'.keepT r12
                have q3 : Post X.K F H W F2 H2 (wipe σ2 own2) (wipeD δ4 own2) W3 Wd := (q2.weakT fun b z => .inl z).state (q2.ok.st.wipes own2)
                have o3 := o1.ext r12.ext q1'.dj
                refine lc_loop (m1 := 1) (F1 := F2) (fun s0 H0 C' cl fp => ok.blk h.blk s0 H0 C' cl fp) sv si h.tgm2 rfl hme h.tin2 q3 o3 hD0 (fun _ _ z => z) w1 e5 fun Fe He We Wde q4 o4 sm4 => ?_
                refine ⟨Fe, We, wipeD δ5 own, acc', Wde, ?_, o4, (sm1.trans r12.ext.fsub).trans sm4, e⟩
                rw [← hw]
                exact q4.state (q4.ok.st.unwipes.wipes own)
        · have ei : i = xs.length := by omega
          subst ei
          rw [List.drop_length] at e
          have e : lc2L (setT C.lock tg) (evIt C n k2 its2) (lcL (setT C.lock tg2) (evIfs C n []) (evV C n elt) own2) own own2 [] acc δc = some (ys, δ2) := e
          simp only [lc2L] at e
          cases e
          refine .inl ⟨w.stops Fc Hc sm q.ok.sub, ?_⟩
          refine k _ _ _ _ _ (q.state (rest_ok q.ok.st.unwipes fun v hv d ed => ?_)) (.tmp o)
          obtain ⟨x, U, R, g, ow, _⟩ := p.ok.st.zip ed
          exact ⟨x, g, (ow.fz (ownFz_get fz v hv d ed)).mono sm⟩
      · cases he
    · cases he
  · cases he
theorem e_lc2 {elt : E} {tg tg2 : Tg} {kk k2 : ItK} {its its2 : List E} {own own2 : List Nat} {x : Expr} {σ : L2.St} {δ δ' : Dl} {F H : Hp} {W : Fp} {a : A} (ok : XOk C X c) (sit : SIt C n) (sv : SV C n) (si : SIfs C n) (hm : mE (m + 1) c (.lc2 elt tg kk its tg2 k2 its2 own own2) x = true)
    (s : SOk X.K F H σ δ W) (he : evE C (n + 1) (.lc2 elt tg kk its tg2 k2 its2 own own2) δ = some (a, δ')) :
    ∃ y t it t2 it2 scope pos, x = .ListComp y [⟨t, it, [], 0⟩, ⟨t2, it2, [], 0⟩] scope pos ∧ Lc2P C X c elt tg kk its tg2 k2 its2 own own2 y t it t2 it2 scope ∧ (∀ v, foldedSetIterable it X.env v = pure v) ∧ (∀ env v, foldedSetIterable it2 env v = pure v) ∧ ∀ {Q : VK}, HandsOn X F H W σ δ' a Q → lcT2 X own own2 y t it t2 it2 scope σ H Q := by
  unfold mE at hm
  simp only at hm
  split at hm
  · simp only [Bool.and_eq_true] at hm
    obtain ⟨⟨⟨⟨⟨⟨⟨⟨h1, h2⟩, h3⟩, h4⟩, h5⟩, h6⟩, h7⟩, h8⟩, h9⟩ := hm
    have L : Lc2P C X c elt tg kk its tg2 k2 its2 own own2 _ _ _ _ _ _ := ⟨h1, h2, ⟨_, h3⟩, h4, ⟨_, h5⟩, ⟨_, h6⟩, fun i hi => by
      rw [List.all_eq_true] at h7
      simpa using h7 i hi, h8, h9⟩
    exact ⟨_, _, _, _, _, _, _, rfl, L, MI.free h3 _, fun env => MI.free h5 env, fun {Q} k => lc2_ok L ok sit sv si s he k⟩
  · cases hm
theorem lc2_pe {elt : E} {tg tg2 : Tg} {kk k2 : ItK} {its its2 : List E} {own own2 : List Nat} {y t it t2 it2 : Expr} {scope : Scope} {pos : Pos} (ok : XOk C X c) (L : Lc2P C X c elt tg kk its tg2 k2 its2 own own2 y t it t2 it2 scope) (hf : ∀ v, foldedSetIterable it X.env v = pure v) (hf2 : ∀ env v, foldedSetIterable it2 env v = pure v) :
    PE X (.ListComp y [⟨t, it, [], 0⟩, ⟨t2, it2, [], 0⟩] scope pos) (lcT2 X own own2 y t it t2 it2 scope) := by
  have := pe_lc2 (X := X) (pos := pos) (elt := y) (tg := t) (tg1 := t2) (ifs := []) (ifs1 := []) (g := aG X scope t) (g1 := aG X scope t2) (tt := aTs X scope []) (tt1 := aTs X scope []) (wi1 := aI X scope t2 it2) (te := aE X scope y) (vs1 := own2) ok.calm ok.nd pi_tW (L.ok ok) (fun i hi => by rw [ownP_map]; exact L.sub i hi)
    (fun s H C cl fp => pg_aG s H C cl fp) (fun s H C cl fp => pts_aTs s H C cl fp) (fun s H C cl fp => pi_aI s H C cl fp) (fun s H C cl fp => pg_aG s H C cl fp) (fun s H C cl fp => pts_aTs s H C cl fp) (fun s H C cl fp => pe_aE s H C cl fp) hf hf2
  rw [ownP_map] at this
  exact this
theorem e_lc2E {elt : E} {tg tg2 : Tg} {kk k2 : ItK} {its its2 : List E} {own own2 : List Nat} {x : Expr} {σ : L2.St} {δ δ' : Dl} {F H : Hp} {W : Fp} {a : A} {Q : VK} (ok : XOk C X c) (sit : SIt C n) (sv : SV C n) (si : SIfs C n) (hm : mE (m + 1) c (.lc2 elt tg kk its tg2 k2 its2 own own2) x = true)
    (s : SOk X.K F H σ δ W) (he : evE C (n + 1) (.lc2 elt tg kk its tg2 k2 its2 own own2) δ = some (a, δ')) (k : HandsOn X F H W σ δ' a Q) : tW X x σ H Q := by
  obtain ⟨y, t, it, t2, it2, scope, pos, rfl, L, hf, hf2, go⟩ := e_lc2 ok sit sv si hm s he
  exact tW_of (lc2_pe ok L hf hf2) (go k)
end
end Ev

set_option linter.all false
set_option maxRecDepth 100000
set_option maxHeartbeats 4000000
/-! Ev: statements -/
namespace Ev
open PySem PySem.Spec PyProof.Rows L2
/-- how a statement's end meets what is wanted -/
def Fin (X : Cx) (lock : List Nat) (F H : Hp) (W : Fp) (σ : L2.St) (D : Ends) : Fl → Prop
  | .nx δ' => ∀ σ' F' H' W', Post X.K F H W F' H' σ' δ' W' No → LockEq lock σ σ' → D.nx σ' H'
  | .ct δ' => ∀ σ' F' H' W', Post X.K F H W F' H' σ' δ' W' No → LockEq lock σ σ' → D.ct σ' H'
  | .bk δ' => ∀ σ' F' H' W', Post X.K F H W F' H' σ' δ' W' No → LockEq lock σ σ' → D.bk σ' H'
  | .rt d δ' => ∀ v σ' F' H' W' Wt, Post X.K F H W F' H' σ' δ' W' Wt → Ow X.K F' H' v d Wt → LockEq lock σ σ' → D.rt v H'
def SS (C : Ctx) (n : Nat) : Prop := ∀ {X : Cx} {c : Cxt}, XOk C X c → ∀ {m : Nat} {st : S} {x : Stmt} {σ : L2.St} {δ : Dl} {F H : Hp} {W : Fp} {fl : Fl} {D : Ends}, mS m c st x = true → SOk X.K F H σ δ W → evS C n st δ = some fl → Fin X C.lock F H W σ D fl → tWS X x D σ H
def SSs (C : Ctx) (n : Nat) : Prop := ∀ {X : Cx} {c : Cxt}, XOk C X c → ∀ {m : Nat} {ss : List S} {xs : List Stmt} {σ : L2.St} {δ : Dl} {F H : Hp} {W : Fp} {fl : Fl} {D : Ends}, mSs m c ss xs = true → SOk X.K F H σ δ W → evSs C n ss δ = some fl → Fin X C.lock F H W σ D fl → tWSs X xs D σ H
section
variable {C : Ctx} {X : Cx} {c : Cxt} {n m : Nat} {σ σ1 : L2.St} {δ δ' δ1 : Dl} {F H F1 H1 : Hp} {W W1 : Fp} {D : Ends} {lock : List Nat}
theorem Fin.after {fl : Fl} (h : Fin X lock F H W σ D fl) (p : Post X.K F H W F1 H1 σ1 δ1 W1 No) (lk : LockEq lock σ σ1) : Fin X lock F1 H1 W1 σ1 D fl := by
  cases fl with
  | nx δ' => exact fun σ' F' H' W' q l => h σ' F' H' W' (p.trans0 q) (lk.trans l)
  | ct δ' => exact fun σ' F' H' W' q l => h σ' F' H' W' (p.trans0 q) (lk.trans l)
  | bk δ' => exact fun σ' F' H' W' q l => h σ' F' H' W' (p.trans0 q) (lk.trans l)
  | rt d δ' => exact fun v σ' F' H' W' Wt q o l => h v σ' F' H' W' Wt (p.trans0 q) o (lk.trans l)
theorem s_ss (ihs : SS C n) (ih : SSs C n) : SSs C (n + 1) := by
  intro X c ok m ss xs σ δ F H W fl D hm s he k
  cases m with
  | zero => simp [mSs] at hm
  | succ m =>
  cases ss with
  | nil =>
    cases xs with
    | cons _ _ => simp [mSs] at hm
    | nil =>
      simp only [evSs] at he
      cases he
      exact tWSs_of pss_nil (k _ _ _ _ (.refl s) .refl)
  | cons st ss =>
    cases xs with
    | nil => simp [mSs] at hm
    | cons x xs =>
      simp only [mSs, Bool.and_eq_true] at hm
      simp only [evSs] at he
      refine tWSs_of (pss_cons ps_tW pss_tW) ?_
      split at he
      · rename_i δ1 e1
        exact ihs ok hm.1 s e1 fun σ' F' H' W' p lk => ih ok hm.2 p.ok he (k.after p lk)
      · rename_i hne
        refine ihs ok hm.1 s he ?_
        cases fl with
        | nx δ1 => exact absurd he (hne δ1)
        | ct δ1 => exact k
        | bk δ1 => exact k
        | rt d δ1 => exact k
theorem noSw {y : Expr} (h : isComp y = false) (t : Option Expr) (l : Nat) (env : Env) : swapsWith y t l env = pure false := by
  cases y <;> first | rfl | simp [isComp] at h
theorem noSwC {nm : Str} {y : Expr} {p : Pos} {env : Env} (l : Nat) (h : env.scope.names.lookup nm = some .cell) : swapsWith y (some (.Name nm p)) l env = pure false := by
  have ky : (env.kindOf nm == some NameKind.local) = false := by
    have : env.kindOf nm = some .cell := h
    rw [this]
    rfl
  unfold swapsWith
  cases y <;> first
    | rfl
    | (show pure (env.blockKind == .function && env.kindOf nm == some .local && _ && _) = _
       rw [ky, Bool.and_false, Bool.false_and, Bool.false_and])
theorem noSwT {y : Expr} {ts : List Expr} {k : Nat} {p : Pos} (l : Nat) (env : Env) : swapsWith y (some (.Tuple ts k p)) l env = pure false := by
  cases y <;> rfl
theorem noSwS {y o i : Expr} {p : Pos} (l : Nat) (env : Env) : swapsWith y (some (.Subscript o i p)) l env = pure false := by
  cases y <;> rfl
theorem st_ret (ihe : SE C n) (ok : XOk C X c) {e : E} {x : Stmt} {fl : Fl} (hm : mS (m + 1) c (.ret e) x = true) (s : SOk X.K F H σ δ W) (he : evS C (n + 1) (.ret e) δ = some fl) (k : Fin X C.lock F H W σ D fl) : tWS X x D σ H := by
  unfold mS at hm
  simp only at hm
  split at hm
  · unfold evS at he
    simp only at he
    split at he
    · rename_i d δ1 e1
      cases he
      refine tWS_of (ps_ret pe_tW) (ihe ok hm s e1 fun v F' H' W' Wt p h => ?_)
      cases h with
      | tmp o => exact k v σ F' H' W' Wt p o .refl
    · rename_i i δ1 e1
      split at he
      · rename_i d e2
        split at he
        · cases he
        · cases he
          refine tWS_of (ps_ret pe_tW) (ihe ok hm s e1 fun v F' H' W' Wt p h => ?_)
          cases h with
          | @bor v0 _ _ _ _ g q =>
            cases q
            obtain ⟨v0', U, R, g', o, s1, s2, dj, st, _⟩ := p.ok.st.zip (slot_some e2)
            rw [g] at g'
            cases g'
            refine k _ σ F' H' R U ⟨⟨p.ok.sub, st, fun b z => p.ok.lv b (s2 b z)⟩, dj, fun b z => p.ok.lv b (s1 b z), p.ext.mono (fun _ z => z) fun b z => .inl ?_⟩ o .refl
            rcases z with z | z
            · exact .inr (s1 b z)
            · exact .inr (s2 b z)
      · cases he
    · rename_i i p0 δ1 _ e1
      split at he
      · rename_i d δ2 e2
        cases he
        refine tWS_of (ps_ret pe_tW) (ihe ok hm s e1 fun v F' H' W' Wt p h => ?_)
        obtain ⟨F2, p2, o⟩ := p.toV h e2
        exact k v σ F2 H' W' Wt p2 o .refl
      · cases he
    · cases he
  · cases hm
theorem st_expr (ihe : SE C n) (ok : XOk C X c) {e : E} {x : Stmt} {fl : Fl} (hm : mS (m + 1) c (.expr e) x = true) (s : SOk X.K F H σ δ W) (he : evS C (n + 1) (.expr e) δ = some fl) (k : Fin X C.lock F H W σ D fl) : tWS X x D σ H := by
  unfold mS at hm
  simp only at hm
  split at hm
  · rw [Bool.and_eq_true, Bool.not_eq_true'] at hm
    unfold evS at he
    simp only at he
    split at he
    · rename_i a δ1 e1
      cases he
      exact tWS_of (ps_expr pe_tW (noSw hm.2 _ _ _)) (ihe ok hm.1 s e1 fun v F' H' W' Wt p h => k σ F' H' W' p.drop .refl)
    · cases he
  · cases hm
theorem st_if (iht : ST C n) (ih : SSs C n) (ok : XOk C X c) {e : E} {a b : List S} {x : Stmt} {fl : Fl} (hm : mS (m + 1) c (.ifs e a b) x = true) (s : SOk X.K F H σ δ W) (he : evS C (n + 1) (.ifs e a b) δ = some fl) (k : Fin X C.lock F H W σ D fl) : tWS X x D σ H := by
  unfold mS at hm
  simp only at hm
  split at hm
  · simp only [Bool.and_eq_true] at hm
    obtain ⟨⟨h1, h2⟩, h3⟩ := hm
    unfold evS at he
    simp only at he
    split at he
    · rename_i δ1 e1
      refine tWS_of (ps_if pt_tW pss_tW pss_tW) (iht ok h1 s e1 fun F' H' W' p => ?_)
      rw [if_pos rfl]
      exact ih ok h2 p.ok he (k.after p .refl)
    · rename_i δ1 e1
      refine tWS_of (ps_if pt_tW pss_tW pss_tW) (iht ok h1 s e1 fun F' H' W' p => ?_)
      rw [if_neg Bool.false_ne_true]
      exact ih ok h3 p.ok he (k.after p .refl)
    · cases he
  · cases hm
theorem st_aug (ihe : SE C n) (ok : XOk C X c) {i : Nat} {op : Op} {e : E} {x : Stmt} {fl : Fl} (hm : mS (m + 1) c (.aug i op e) x = true) (s : SOk X.K F H σ δ W) (he : evS C (n + 1) (.aug i op e) δ = some fl) (k : Fin X C.lock F H W σ D fl) : tWS X x D σ H := by
  unfold mS at hm
  simp only at hm
  split at hm
  · rename_i nm p1 o1 y1 p2
    simp only [Bool.and_eq_true] at hm
    obtain ⟨⟨⟨h1, h2⟩, h3⟩, h4⟩ := hm
    unfold evS at he
    simp only at he
    split at he
    · rename_i x0 e0
      split at he
      · rename_i y0 δ1 e1
        split at he
        · rename_i z ez
          split at he
          · rename_i δ2 e2
            cases he
            cases opB_eq h3
            obtain ⟨l, f⟩ := ok.st h2
            obtain ⟨v0, U, R, g, o, _⟩ := s.st.zip (slot_some e0)
            cases (Vw.int ⟨_, o⟩)
            have go : ∀ {ti : TIp}, PIp X (opO op) ti → (∀ H1, (∀ σ' : L2.St, True) → ∀ F' W' Wt, Post X.K F H W F' H1 σ δ1 W' Wt → ti (.int x0) (.int y0) H1 fun z' H2 => D.nx (σ.set i (some z')) H2) → tWS X (.AugAssign (.Name nm p1) (opO op) y1 p2) D σ H := fun {ti} hp q => tWS_of (ps_aug ok.nd (ok.nm h1) l pe_tW hp f) ⟨_, g, ihe ok h4 s e1 fun v F' H' W' Wt p h => by
              cases (h.look p.ok rfl).int
              exact q H' (fun _ => trivial) F' W' Wt p⟩
            have fin : ∀ {H1 F' : Hp} {W' Wt : Fp}, Post X.K F H W F' H1 σ δ1 W' Wt → D.nx (σ.set i (some (.int z))) H1 := fun {H1 F' W' Wt} p => by
              obtain ⟨q, lk, _⟩ := p.drop.put (v := .int z) (U := No) (.frz (.int z)) (fun _ z => z) e2
              exact k _ _ _ _ q lk
            cases op with
            | add => cases ez; exact go ip_add fun H1 _ F' W' Wt p => ⟨x0, y0, rfl, rfl, fin p⟩
            | sub => cases ez; exact go ip_sub fun H1 _ F' W' Wt p => ⟨x0, y0, rfl, rfl, fin p⟩
            | mul =>
              simp only [augI] at ez
              split at ez
              · rename_i cm
                cases ez
                exact go (ti := rI CMul fun i j => .int (i * j)) (fun pins s σ H x y v u Q I r1 r2 h => iop_mul pins s σ H x y v u Q I r1 r2 h) fun H1 _ F' W' Wt p => ⟨x0, y0, rfl, rfl, small_mul cm, fin p⟩
              · cases ez
            | _ => simp [augI] at ez
          · cases he
        · cases he
      · cases he
    · cases he
  · cases hm
theorem pure_none {ts ys : List Expr} {k k2 : Nat} {p p2 : Pos} {env : Env} (h : (ts.length == 2 || ts.length == 3) = false) : swappedStores [.Tuple ts k p] (.Tuple ys k2 p2) env = pure none := by
  unfold swappedStores
  simp [h]
def swNames (env : Env) (l : Nat) (ts : List Expr) : List Str := ts.filterMap fun
    | .Name id pos => if env.kindOf id == some .local && pos.line == l then some id else none
    | _ => none
theorem pure_folded {ts ys : List Expr} {k k2 : Nat} {p p2 : Pos} {env : Env} (h : ys.all (foldedForSure 8) = true) : swappedStores [.Tuple ts k p] (.Tuple ys k2 p2) env = pure none := by
  unfold swappedStores
  simp only [h]
  simp
theorem fm_len {α β : Type} (f : α → Option β) : ∀ l : List α, (l.filterMap f).length = l.length → l.all (fun x => (f x).isSome) = true
  | [], _ => rfl
  | x :: l, h => by
    have le := List.length_filterMap_le f l
    cases e : f x with
    | none =>
      rw [List.filterMap_cons_none e, List.length_cons] at h
      omega
    | some y =>
      rw [List.filterMap_cons_some e, List.length_cons, List.length_cons] at h
      rw [List.all_cons, e, fm_len f l (by omega)]
      rfl
theorem pure_off (ok : XOk C X c) {ts ys : List Expr} {k k2 : Nat} {p p2 : Pos} (h : ts.all (swNm c (lineOf ts)) = false) : swappedStores [.Tuple ts k p] (.Tuple ys k2 p2) X.env = pure none := by
  have hl : (ts.head?.map (·.pos.line)).getD 0 = lineOf ts := by cases ts <;> rfl
  unfold swappedStores
  simp only [hl]
  simp
  intro _ _ _ _ hall
  exfalso
  rw [List.all_eq_false] at h
  obtain ⟨x, hx, hn⟩ := h
  have q2 := hall x hx
  apply hn
  unfold swNm
  cases x with
  | Name id pos =>
    simp only at q2 ⊢
    split at q2
    · rename_i cc
      have c1 : c.sc.names.lookup id = some .local := by
        have := cc.1
        rw [show X.env.kindOf id = c.sc.names.lookup id by show X.env.scope.names.lookup id = _; rw [ok.sc]] at this
        exact this
      rw [Bool.and_eq_true]
      exact ⟨by unfold loB; rw [c1], by simpa using cc.2⟩
    · simp at q2
  | _ => simp at q2
theorem pure_two {x y : Str} {px py p p2 : Pos} {a b : Expr} {k k2 : Nat} {env : Env} (hk : env.scope.kind = .function) (hx : env.scope.names.lookup x = some .local) (hy : env.scope.names.lookup y = some .local) (hl : (py.line == px.line) = true) (ne : x ≠ y) (ns : noStar [a, b] = true) (hf : swOk [a, b] = true) :
    swappedStores [.Tuple [.Name x px, .Name y py] k p] (.Tuple [a, b] k2 p2) env = pure (some [x, y]) := by
  have kx : (env.kindOf x == some .local) = true := by show (env.scope.names.lookup x == some .local) = true; rw [hx]; rfl
  have ky : (env.kindOf y == some .local) = true := by show (env.scope.names.lookup y == some .local) = true; rw [hy]; rfl
  have hb : (env.blockKind != .function) = false := by unfold Env.blockKind; rw [hk]; rfl
  unfold swOk at hf
  rw [Bool.and_eq_true, Bool.not_eq_true', Bool.not_eq_true'] at hf
  have st : ([a, b].any fun | .Starred .. => true | _ => false) = false := by
    cases a <;> first | (cases b <;> first | rfl | simp [noStar] at ns) | simp [noStar] at ns
  have dd : [x, y].eraseDups = [x, y] := by
    have : (y == x) = false := by rw [beq_eq_false_iff_ne]; exact fun e => ne e.symm
    simp [List.eraseDups_cons, this]
  unfold swappedStores
  simp only [List.head?_cons, Option.map_some, Option.getD_some, Expr.pos, List.filterMap_cons, kx, ky, hl, hb, hf.1, hf.2, st, dd]
  simp [dd]
  intro h
  exfalso
  rcases h with h | h
  · cases a <;> simp_all [noStar]
  · cases b <;> first | (simp at h; done) | (cases a <;> simp [noStar] at ns)
theorem pure_three {x y z : Str} {px py pz p p2 : Pos} {a b d : Expr} {k k2 : Nat} {env : Env} (hk : env.scope.kind = .function) (hx : env.scope.names.lookup x = some .local) (hy : env.scope.names.lookup y = some .local) (hz : env.scope.names.lookup z = some .local) (hl : (py.line == px.line) = true) (hl2 : (pz.line == px.line) = true)
    (ne : x ≠ y) (ne2 : x ≠ z) (ne3 : y ≠ z) (ns : noStar [a, b, d] = true) (hf : swOk [a, b, d] = true) :
    swappedStores [.Tuple [.Name x px, .Name y py, .Name z pz] k p] (.Tuple [a, b, d] k2 p2) env = pure (some [x, y, z]) := by
  have kx : (env.kindOf x == some .local) = true := by show (env.scope.names.lookup x == some .local) = true; rw [hx]; rfl
  have ky : (env.kindOf y == some .local) = true := by show (env.scope.names.lookup y == some .local) = true; rw [hy]; rfl
  have kz : (env.kindOf z == some .local) = true := by show (env.scope.names.lookup z == some .local) = true; rw [hz]; rfl
  have hb : (env.blockKind != .function) = false := by unfold Env.blockKind; rw [hk]; rfl
  unfold swOk at hf
  rw [Bool.and_eq_true, Bool.not_eq_true', Bool.not_eq_true'] at hf
  have dd : [x, y, z].eraseDups = [x, y, z] := by
    have e1 : (y == x) = false := by rw [beq_eq_false_iff_ne]; exact fun e => ne e.symm
    have e2 : (z == x) = false := by rw [beq_eq_false_iff_ne]; exact fun e => ne2 e.symm
    have e3 : (z == y) = false := by rw [beq_eq_false_iff_ne]; exact fun e => ne3 e.symm
    simp [List.eraseDups_cons, e1, e2, e3]
  unfold swappedStores
  simp only [List.head?_cons, Option.map_some, Option.getD_some, Expr.pos, List.filterMap_cons, kx, ky, kz, hl, hl2, hb, hf.1, hf.2, dd]
  simp [dd]
  intro h
  exfalso
  rcases h with h | h | h
  · cases a <;> simp_all [noStar]
  · cases b <;> first | (simp at h; done) | (cases a <;> simp [noStar] at ns)
  · cases d <;> first | (simp at h; done) | (cases a <;> cases b <;> simp [noStar] at ns)
theorem dist_nd : ∀ {is : List Nat}, dist is = true → is.Nodup
  | [], _ => .nil
  | i :: is, h => by
    unfold dist at h
    rw [Bool.and_eq_true, Bool.not_eq_true'] at h
    refine List.nodup_cons.mpr ⟨fun q => ?_, dist_nd h.2⟩
    have : is.contains i = true := by simpa using q
    rw [this] at h
    cases h.1
theorem swNm_of {l : Nat} {x : Expr} (h : swNm c l x = true) : ∃ n p, x = .Name n p ∧ loB c n = true ∧ (p.line == l) = true := by
  unfold swNm at h
  split at h
  · rw [Bool.and_eq_true] at h
    exact ⟨_, _, rfl, h.1, h.2⟩
  · cases h
theorem mNm_of {i : Nat} {n : Str} {p : Pos} (h : mNm c i (.Name n p) = true) : nmB c i n = true ∧ stB c n = true := by
  simpa [mNm] using h
theorem st_par (ih : SAs C n) (ok : XOk C X c) {is : List Nat} {es : List E} {x : Stmt} {fl : Fl} (hm : mS (m + 1) c (.par is es) x = true) (s : SOk X.K F H σ δ W) (he : evS C (n + 1) (.par is es) δ = some fl) (k : Fin X C.lock F H W σ D fl) : tWS X x D σ H := by
  unfold mS at hm
  simp only at hm
  split at hm
  · rename_i ts k1 p1 ys k2 p2 pos
    rw [Bool.and_eq_true, Bool.and_eq_true, Bool.and_eq_true, Bool.and_eq_true, Bool.and_eq_true] at hm
    obtain ⟨⟨⟨⟨⟨h1, h2⟩, h3⟩, h4⟩, h5⟩, h6⟩ := hm
    have h4 := beq_iff_eq.mp h4
    have h5 := of_decide_eq_true h5
    unfold evS at he
    simp only at he
    split at he
    · rename_i as δ1 e1
      split at he
      · rename_i ds δ2 e2
        split at he
        · rename_i δ3 e3
          cases he
          have lis : ts.length = is.length := by
            have : ∀ {is : List Nat} {ts : List Expr}, mNms c is ts = true → ts.length = is.length := by
              intro is
              induction is with
              | nil => intro ts h; cases ts <;> simp_all [mNms]
              | cons i is ih =>
                intro ts h
                cases ts with
                | nil => simp [mNms] at h
                | cons t ts =>
                  simp only [mNms, Bool.and_eq_true] at h
                  rw [List.length_cons, List.length_cons, ih h.2]
            exact this h3
          -- the pair is made and taken apart
          have viaTup : swappedStores [.Tuple ts k1 p1] (.Tuple ys k2 p2) X.env = pure none → tWS X (.Assign [.Tuple ts k1 p1] (.Tuple ys k2 p2) pos) D σ H := fun hw => by
            obtain ⟨n1, n2⟩ := nms_plain X.env h3
            refine tWS_of (ps_asg (pe_tup (pa_nest h2)) (pg_tup ok.calm (pgs_nms ok h3) n1 n2) rfl hw rfl) (ih ok h1 s e1 fun vs F' H' W' Wt p h => ?_)
            obtain ⟨F2, p2', o⟩ := p.toVs h e2
            have l2 := o.length
            have l3 := toVs_len e2
            have l4 := evAs_len e1
            have l5 := mEs_len h1
            have := cap_line
            have : (10 : Nat) ≤ cap := by decide
            refine ⟨by omega, fun q hq => ⟨q, vs, rfl, SqT.of upd_same, by omega, ?_⟩⟩
            have nw := New.tuple (vs := vs) p2'.ok.sub hq
            obtain ⟨dj, p3⟩ := p2'.newT nw
            have o3 := o.keep (F' := upd F2 q (.tup vs)) (H' := upd H' q (.tup vs)) nw.ext.fsub (nw.ext.apart fun _ _ z => z)
            exact nms_run (p3.weakT fun b z => .inl z) o3 e3 fun σ' W'' p' lk _ => k _ _ _ _ p' lk
          simp only [Bool.or_eq_true, Bool.and_eq_true, Bool.not_eq_true', decide_eq_true_eq] at h6
          rcases h6 with ((h6 | h6) | h6) | h6
          · obtain ⟨⟨⟨a1, a2⟩, a3⟩, a4⟩ := h6
            have nd := dist_nd a3
            rw [List.all_eq_true] at a1
            rcases a4 with a4 | a4
            · match is, ts, ys, lis, a4, h4, a1, h3, h2, h1, nd, e3, a2 with
              | [i, j], [t1, t2], [y1, y2], _, _, _, a1, h3, h2, h1, nd, e3, a2 =>
                obtain ⟨x1, q1, rfl, lo1, _⟩ := swNm_of (a1 t1 (by simp))
                obtain ⟨x2, q2, rfl, lo2, ln⟩ := swNm_of (a1 t2 (by simp))
                simp only [mNms, Bool.and_eq_true] at h3
                obtain ⟨m1, _⟩ := mNm_of h3.1
                obtain ⟨m2, _⟩ := mNm_of h3.2.1
                have nij : i ≠ j := by
                  have := nd
                  simp at this
                  exact this
                have nx : x1 ≠ x2 := fun e => by
                  have g1 := ok.nm m1
                  have g2 := ok.nm m2
                  rw [e] at g1
                  exact nij ((List.getElem?_inj (List.getElem?_eq_some_iff.mp g1).1 ok.nd).mp (g1.trans g2.symm))
                refine tWS_of (ps_par ok.calm ok.nd (ok.nm m1) (ok.nm m2) nij (ok.lo lo1) (ok.lo lo2) (pa_nest h2) (pure_two (by rw [ok.sc]; exact ok.kind) (ok.lo lo1) (ok.lo lo2) ln nx h2 a2)) (ih ok h1 s e1 fun vs F' H' W' Wt p h => ?_)
                obtain ⟨F2, p2', o⟩ := p.toVs h e2
                obtain ⟨v, r, rfl, w, r2, rfl, rfl, q⟩ := nms_run (Q := D.nx) p2' o e3 fun σ' W'' p' lk _ => k _ _ _ _ p' lk
                exact ⟨v, w, rfl, q⟩
            · match is, ts, ys, lis, a4, h4, a1, h3, h2, h1, nd, e3, a2 with
              | [i, j, l], [t1, t2, t3], [y1, y2, y3], _, _, _, a1, h3, h2, h1, nd, e3, a2 =>
                obtain ⟨x1, q1, rfl, lo1, _⟩ := swNm_of (a1 t1 (by simp))
                obtain ⟨x2, q2, rfl, lo2, ln⟩ := swNm_of (a1 t2 (by simp))
                obtain ⟨x3, q3, rfl, lo3, ln3⟩ := swNm_of (a1 t3 (by simp))
                simp only [mNms, Bool.and_eq_true] at h3
                obtain ⟨m1, _⟩ := mNm_of h3.1
                obtain ⟨m2, _⟩ := mNm_of h3.2.1
                obtain ⟨m3, _⟩ := mNm_of h3.2.2.1
                have nijl : i ≠ j ∧ i ≠ l ∧ j ≠ l := by
                  have := nd
                  simp at this
                  exact ⟨this.1.1, this.1.2, this.2⟩
                have dif : ∀ {i j : Nat} {x1 x2 : Str}, i ≠ j → nmB c i x1 = true → nmB c j x2 = true → x1 ≠ x2 := fun nij m1 m2 e => by
                  have g1 := ok.nm m1
                  have g2 := ok.nm m2
                  rw [e] at g1
                  exact nij ((List.getElem?_inj (List.getElem?_eq_some_iff.mp g1).1 ok.nd).mp (g1.trans g2.symm))
                refine tWS_of (ps_par3 ok.calm ok.nd (ok.nm m1) (ok.nm m2) (ok.nm m3) nijl.1 nijl.2.1 nijl.2.2 (ok.lo lo1) (ok.lo lo2) (ok.lo lo3) (pa_nest h2)
                  (pure_three (by rw [ok.sc]; exact ok.kind) (ok.lo lo1) (ok.lo lo2) (ok.lo lo3) ln ln3 (dif nijl.1 m1 m2) (dif nijl.2.1 m1 m3) (dif nijl.2.2 m2 m3) h2 a2)) (ih ok h1 s e1 fun vs F' H' W' Wt p h => ?_)
                obtain ⟨F2, p2', o⟩ := p.toVs h e2
                obtain ⟨v, r, rfl, w, r2, rfl, u, r3, rfl, rfl, q⟩ := nms_run (Q := D.nx) p2' o e3 fun σ' W'' p' lk _ => k _ _ _ _ p' lk
                exact ⟨v, w, u, rfl, q⟩
          · exact viaTup (pure_none (by simp; omega))
          · exact viaTup (pure_folded h6)
          · exact viaTup (pure_off ok h6)
        · cases he
      · cases he
    · cases he
  · cases hm
theorem st_asg (ihv : SV C n) (ok : XOk C X c) {t : Tg} {e : E} {tx y : Expr} {pos : Pos} {m1 : Nat} {d : Ev.D} {δ2 : Dl} (h1 : mE m1 c e y = true) (h2 : mTg c t tx = true) (hs : swapsWithSole [tx] y pos.line X.env = pure false) (hw : swappedStores [tx] y X.env = pure none) (h3 : (assignEach [tx] X.env).map (·.2) = [assign tx X.env])
    (s : SOk X.K F H σ δ W) (e1 : evV C n e δ = some (d, δ1)) (e2 : setT C.lock t d δ1 = some δ2) (k : Fin X C.lock F H W σ D (.nx δ2)) : tWS X (.Assign [tx] y pos) D σ H :=
  tWS_of (ps_asg pe_tW pg_tWG hs hw h3) (ihv ok h1 s e1 fun v F' H' W' Wt p o => tg_ok ok h2 p o e2 fun σ' W'' q lk _ => k _ _ _ _ q lk)
def NxF (C : Ctx) (X : Cx) (n : Nat) (F H : Hp) (W : Fp) (σ : L2.St) (F1 : Hp) (tg : Tg) (body : List S) (xs : List Ev.D) (fl : Fl) : L2.St → Hp → Prop := fun σ' H' => ∃ Fc Wc δc, Post X.K F H W Fc H' σ' δc Wc No ∧ LockEq C.lock σ σ' ∧ Same F1 Fc ∧ forL (setT C.lock tg) (evSs C n body) xs δc = some fl
theorem forL_ok (ihss : SSs C n) (ok : XOk C X c) (hn : PassesOwn (model X.prog X.w) X.A X.env X.xe) {m1 m2 m3 : Nat} {tg : Tg} {kk : ItK} {its : List E} {body : List S} {t it : Expr} {l : List Stmt} {pos : Pos} {xs : List Ev.D} {fl : Fl} (sit : SIt C n) (h1 : mTg c tg t = true) (h2 : mI m1 c t kk its it = true) (h3 : mSs m2 c body l = true)
    (s : SOk X.K F H σ δ W) (e1 : evIt C n kk its δ = some (xs, δ1)) (e2 : forL (setT C.lock tg) (evSs C n body) xs δ1 = some fl) (k : Fin X C.lock F H W σ D fl) : tWS X (.For t it l [] pos) D σ H := by
  refine tWS_of (ps_for hn ok.calm pi_tW pg_tWG pss_tW (MI.free h2 X.env)) (sit ok h2 s e1 fun F1 H1 W1 J p w => ?_)
  refine ⟨fun i m σc Hc => m = xs.length - i ∧ i ≤ xs.length ∧ ∃ Fc Wc δc, Post X.K F H W Fc Hc σc δc Wc No ∧ LockEq C.lock σ σc ∧ Same F1 Fc ∧ forL (setT C.lock tg) (evSs C n body) (xs.drop i) δc = some fl,
    ⟨_, rfl, Nat.zero_le _, F1, W1, δ1, p, .refl, fun _ _ z => z, e2⟩, ?_⟩
  rintro i m σc Hc ⟨rfl, hi, Fc, Wc, δc, q, lk, sm, e⟩
  by_cases hlt : i < xs.length
  · refine .inr ⟨w.goes i Fc Hc sm q.ok.sub hlt, NxF C X n F H W σ F1 tg body (xs.drop (i + 1)) fl,
      fun σ' H' nx => ⟨xs.length - (i + 1), by omega, rfl, hlt, nx⟩, fun x H' yl => ?_⟩
    obtain ⟨F', rx, nw⟩ := w.yields i Fc Hc x H' (xs[i]) sm q.ok.sub (by simp [hlt]) yl
    have q1 := q.newW nw
    have sm1 := sm.trans nw.ext.fsub
    rw [List.drop_eq_getElem_cons hlt] at e
    unfold forL at e
    split at e
    · cases e
    · rename_i δ2 e3
      refine tg_ok ok h1 (.refl q1.ok) (.frz rx) e3 fun σ2 W2 r1 lk1 _ => ?_
      have lk2 := lk.trans lk1
      have qr := q1.trans0 r1
      have go : ∀ {fl0 : Fl} {D' : Ends}, evSs C n body δ2 = some fl0 → Fin X C.lock F' H' W2 σ2 D' fl0 → tWSs X l D' σ2 H' := fun {fl0 D'} e4 kf => ihss ok h3 r1.ok e4 kf
      split at e
      · rename_i δ3 e4
        exact go e4 fun σ' F3 H3 W3 r2 lk3 => ⟨F3, W3, δ3, qr.trans0 r2, lk2.trans lk3, sm1.trans r2.ext.fsub, e⟩
      · rename_i δ3 e4
        exact go e4 fun σ' F3 H3 W3 r2 lk3 => ⟨F3, W3, δ3, qr.trans0 r2, lk2.trans lk3, sm1.trans r2.ext.fsub, e⟩
      · rename_i δ3 e4
        cases e
        exact go e4 fun σ' F3 H3 W3 r2 lk3 => k _ _ _ _ (qr.trans0 r2) (lk2.trans lk3)
      · rename_i d δ3 e4
        cases e
        exact go e4 fun v σ' F3 H3 W3 Wt r2 o lk3 => k _ _ _ _ _ _ (qr.trans0 r2) o (lk2.trans lk3)
      · cases e
  · have ei : i = xs.length := by omega
    subst ei
    rw [List.drop_length] at e
    simp only [forL] at e
    cases e
    exact .inl ⟨w.stops Fc Hc sm q.ok.sub, k _ _ _ _ q lk⟩
theorem whileL_ok (iht : ST C n) (ihss : SSs C n) (ok : XOk C X c) (hn : PassesOwn (model X.prog X.w) X.A X.env X.xe) {m1 m2 f : Nat} {e : E} {body : List S} {t : Expr} {l : List Stmt} {pos : Pos} {fl : Fl} (h1 : mT m1 c e t = true) (h2 : mSs m2 c body l = true)
    (s : SOk X.K F H σ δ W) (e1 : whileL (evT C n e) (evSs C n body) f δ = some fl) (k : Fin X C.lock F H W σ D fl) : tWS X (.While t l [] pos) D σ H := by
  refine tWS_of (ps_while hn pt_tW pss_tW) ?_
  refine ⟨fun i σc Hc => ∃ Fc Wc δc, Post X.K F H W Fc Hc σc δc Wc No ∧ LockEq C.lock σ σc ∧ whileL (evT C n e) (evSs C n body) i δc = some fl, ⟨f, F, W, δ, .refl s, .refl, e1⟩, ?_⟩
  rintro i σc Hc ⟨Fc, Wc, δc, q, lk, e2⟩
  cases i with
  | zero => simp [whileL] at e2
  | succ i =>
    unfold whileL at e2
    split at e2
    · cases e2
    · rename_i δ2 e3
      cases e2
      refine iht ok h1 q.ok e3 fun F2 H2 W2 r => ?_
      rw [if_neg Bool.false_ne_true]
      exact k _ _ _ _ (q.trans0 r) lk
    · rename_i δ2 e3
      refine iht ok h1 q.ok e3 fun F2 H2 W2 r => ?_
      rw [if_pos rfl]
      have qr := q.trans0 r
      refine ⟨fun σ' H' => ∃ Fc Wc δc, Post X.K F H W Fc H' σ' δc Wc No ∧ LockEq C.lock σ σ' ∧ whileL (evT C n e) (evSs C n body) i δc = some fl, fun σ' H' nx => ⟨i, Nat.lt_succ_self _, nx⟩, ?_⟩
      split at e2
      · rename_i δ3 e4
        exact ihss ok h2 r.ok e4 fun σ' F3 H3 W3 r2 lk3 => ⟨F3, W3, δ3, qr.trans0 r2, lk.trans lk3, e2⟩
      · rename_i δ3 e4
        exact ihss ok h2 r.ok e4 fun σ' F3 H3 W3 r2 lk3 => ⟨F3, W3, δ3, qr.trans0 r2, lk.trans lk3, e2⟩
      · rename_i δ3 e4
        cases e2
        exact ihss ok h2 r.ok e4 fun σ' F3 H3 W3 r2 lk3 => k _ _ _ _ (qr.trans0 r2) (lk.trans lk3)
      · rename_i d δ3 e4
        cases e2
        exact ihss ok h2 r.ok e4 fun v σ' F3 H3 W3 Wt r2 o lk3 => k _ _ _ _ _ _ (qr.trans0 r2) o (lk.trans lk3)
      · cases e2
end
end Ev

set_option linter.all false
set_option maxRecDepth 100000
set_option maxHeartbeats 4000000
/-! Ev: all together -/
namespace Ev
open PySem PySem.Spec PyProof.Rows L2
/-- name = [..] -/
def SEC (C : Ctx) (n : Nat) : Prop := ∀ {X : Cx} {c : Cxt}, XOk C X c → ∀ {m : Nat} {e : E} {x : Expr} {σ : L2.St} {δ : Dl} {F H : Hp} {W : Fp} {a : A} {δ' : Dl} {nm : Str} {p : Pos} {spos : Pos} {i : Nat} {D : Ends}, mE m c e x = true → swB c nm p.line x = true → nmB c i nm = true → SOk X.K F H σ δ W → evE C n e δ = some (a, δ') →
  HandsOn X F H W σ δ' a (fun v H1 => D.nx (σ.set i (some v)) H1) → tWS X (.Assign [.Name nm p] x spos) D σ H
def SVC (C : Ctx) (n : Nat) : Prop := ∀ {X : Cx} {c : Cxt}, XOk C X c → ∀ {m : Nat} {e : E} {x : Expr} {σ : L2.St} {δ : Dl} {F H : Hp} {W : Fp} {d : D} {δ' : Dl} {nm : Str} {p : Pos} {spos : Pos} {i : Nat} {D : Ends}, mE m c e x = true → swB c nm p.line x = true → nmB c i nm = true → SOk X.K F H σ δ W → evV C n e δ = some (d, δ') →
  HandsD X F H W σ δ' d (fun v H1 => D.nx (σ.set i (some v)) H1) → tWS X (.Assign [.Name nm p] x spos) D σ H
section
variable {C : Ctx} {n m : Nat}
theorem swB_of {c : Cxt} {nm : Str} {l : Nat} {x : Expr} (h : swB c nm l x = true) : ∃ y gs s p, x = .ListComp y gs s p ∧ loB c nm = true ∧ (l == p.line) = true ∧ (s.names.any fun (n, k) => n == nm && (k == .local || k == .cell)) = false := by
  unfold swB at h
  split at h
  · simp only [Bool.and_eq_true, Bool.not_eq_true'] at h
    exact ⟨_, _, _, _, rfl, h.1.1, h.1.2, h.2⟩
  · cases h
theorem s_ec (sit : SIt C n) (sv : SV C n) (si : SIfs C n) : SEC C (n + 1) := by
  intro X c ok m e x σ δ F H W a δ' nm p spos i D hm hs hi s he k
  obtain ⟨y, gs, sc, lp, rfl, lo, ln, na⟩ := swB_of hs
  have hsw : swapsWith (.ListComp y gs sc lp) (some (.Name nm p)) spos.line X.env = pure true := sw_true (by rw [ok.sc]; exact ok.kind) (ok.lo lo) ln na
  cases m with
  | zero => simp [mE] at hm
  | succ m =>
  cases e with
  | lc elt tg kk its ifs own =>
    obtain ⟨y', t, it, fs, scope, pos, ex, L, hf, go⟩ := e_lc ok sit sv si hm s he
    cases ex
    have := ps_setLc (X := X) (spos := spos) (py := p) (pos := lp) (elt := y) (tg := t) (ifs := fs) (g := aG X sc t) (tt := aTs X sc fs) (te := aE X sc y) (own := ownP c own) ok.calm ok.nd (ok.nm hi) (ok.lo lo) hsw pi_tW (L.ok ok) (fun s H C cl fp => pg_aG s H C cl fp) (fun s H C cl fp => pts_aTs s H C cl fp) (fun s H C cl fp => pe_aE s H C cl fp) hf
    rw [ownP_map] at this
    exact tWS_of this (go (Q := fun v H1 => D.nx (σ.set i (some v)) H1) k)
  | lc2 elt tg kk its tg2 k2 its2 own own2 =>
    obtain ⟨y', t, it, t2, it2, scope, pos, ex, L, hf, hf2, go⟩ := e_lc2 ok sit sv si hm s he
    cases ex
    have := ps_setLc2 (X := X) (spos := spos) (py := p) (pos := lp) (elt := y) (tg := t) (tg1 := t2) (ifs := []) (ifs1 := []) (g := aG X sc t) (g1 := aG X sc t2) (tt := aTs X sc []) (tt1 := aTs X sc []) (wi1 := aI X sc t2 it2) (te := aE X sc y) (vs1 := own2) (own := ownP c own) ok.calm ok.nd (ok.nm hi) (ok.lo lo) hsw pi_tW (L.ok ok) (fun i hi => by rw [ownP_map]; exact L.sub i hi)
      (fun s H C cl fp => pg_aG s H C cl fp) (fun s H C cl fp => pts_aTs s H C cl fp) (fun s H C cl fp => pi_aI s H C cl fp) (fun s H C cl fp => pg_aG s H C cl fp) (fun s H C cl fp => pts_aTs s H C cl fp) (fun s H C cl fp => pe_aE s H C cl fp) hf hf2
    rw [ownP_map] at this
    exact tWS_of this (go (Q := fun v H1 => D.nx (σ.set i (some v)) H1) k)
  | bi b es => cases b <;> simp [mE] at hm
  | disS l pre st post => cases l <;> simp [mE] at hm
  | _ => simp [mE] at hm
theorem s_vc (ih : SEC C n) : SVC C (n + 1) := by
  intro X c ok m e x σ δ F H W d δ' nm p spos i D hm hs hi s he k
  unfold evV at he
  split at he
  · rename_i a δ1 e1
    refine ih ok hm hs hi s e1 fun v F' H' W' Wt q h => ?_
    obtain ⟨F2, q2, o⟩ := q.toV h he
    exact k _ _ _ _ _ q2 o
  · cases he
theorem upAt_at : ∀ {p : List Nat} {d d' : Ev.D} {f : Ev.D → Option Ev.D}, d.upAt p f = some d' → ∃ x y, d.at p = some x ∧ f x = some y
  | [], d, d', f, h => ⟨d, d', rfl, h⟩
  | k :: p, d, d', f, h => by
    cases d with
    | lst o xs =>
      cases o with
      | true =>
        simp only [Ev.D.upAt] at h
        split at h
        · rename_i x ex
          split at h
          · rename_i y ey
            obtain ⟨u, v, h1, h2⟩ := upAt_at ey
            exact ⟨u, v, by simp only [Ev.D.at, ex]; exact h1, h2⟩
          · cases h
        · cases h
      | false => simp [Ev.D.upAt] at h
    | _ => simp [Ev.D.upAt] at h
theorem OwL.set {K : PySem.W.Frag} {F H : Hp} : ∀ {vs : List V} {ds : List Ev.D} {U V2 Z : Fp} {v : V} {d : Ev.D} (j : Nat), OwL K F H vs ds U → Ow K F H v d V2 → Dj U V2 → (∀ b, U b → Z b) → (∀ b, V2 b → Z b) → OwL K F H (vs.set j v) (ds.set j d) Z
  | _, _, U, V2, Z, v, d, j, .nil, o, dj, s1, s2 => by simpa using OwL.nil
  | _, _, U, V2, Z, v, d, 0, .cons h1 h2 h3 h4 h5, o, dj, s1, s2 => by
    simp only [List.set_cons_zero]
    exact .cons o h2 (fun b q t => dj b (h5 b t) q) s2 fun b q => s1 b (h5 b q)
  | _, _, U, V2, Z, v, d, j + 1, .cons (W1 := W1) (W2 := W2) h1 h2 h3 h4 h5, o, dj, s1, s2 => by
    simp only [List.set_cons_succ]
    refine .cons (W2 := Un2 W2 V2) h1 (OwL.set j h2 o (fun b q => dj b (h5 b q)) (fun b q => .inl q) fun b q => .inr q) (fun b q t => ?_) (fun b q => s1 b (h4 b q)) fun b q => ?_
    · rcases t with t | t
      · exact h3 b q t
      · exact dj b (h4 b q) t
    · rcases q with q | q
      · exact s1 b (h5 b q)
      · exact s2 b q
theorem asgSub {o i : Expr} {pos : Pos} {env : Env} (h : isSlice i = false) : ∀ v, assign (.Subscript o i pos) env v = (do
      let ov ← holding [v] (eval o env)
      let iv ← holding [v, ov] (eval i env)
      standAt pos
      holding [v, ov, iv] (setItem ov iv v)
      release [v, ov, iv] []) := fun v => by cases i <;> first | rfl | simp [isSlice] at h
theorem st_setIx {X : Cx} {c : Cxt} {σ : L2.St} {δ : Dl} {F H : Hp} {W : Fp} {D : Ends} (ih : SAs C n) (ok : XOk C X c) {o i e : E} {x : Stmt} {fl : Fl} (hm : mS (m + 1) c (.setIx o i e) x = true) (s : SOk X.K F H σ δ W) (he : evS C (n + 1) (.setIx o i e) δ = some fl) (k : Fin X C.lock F H W σ D fl) : tWS X x D σ H := by
  unfold mS at hm
  simp only at hm
  split at hm
  · rename_i l r p1 y pos
    rw [Bool.and_eq_true, Bool.not_eq_true'] at hm
    unfold evS at he
    simp only at he
    split at he
    · rename_i va sl pa ki δ1 e1
      split at he
      · rename_i d δ2 e2
        split at he
        · rename_i δ3 e3
          cases he
          refine tWS_of (ps_asg pe_tW (pg_sub pe_tW pe_tW set_list (asgSub hm.2)) (show swapsWithSole [.Subscript l r p1] y pos.line X.env = pure false from noSwS (o := l) (i := r) (p := p1) pos.line X.env) (show swappedStores [.Subscript l r p1] y X.env = pure none by cases y <;> rfl) (by rfl)) ?_
          refine nest3 (R := fun xv ov iv H3 => rSetL ov iv xv H3 fun H4 => D.nx σ H4) (ih ok hm.1 s e1 fun vs F' H' W' Wt p h => ?_)
          rintro xv ov iv rfl
          cases h with
          | @cons _ _ _ _ _ V1 V2 a1 a2 a3 a4 a5 =>
            cases a2 with
            | cons b1 b2 b3 b4 b5 =>
              cases b2 with
              | cons c1 c2 c3 c4 c5 =>
                cases c2
                cases (c1.look p.ok rfl).int
                obtain ⟨F2, p2, ov1⟩ := (p.weakT a4).toV a1 e2
                cases b1 with
                | @bor v0 _ _ _ _ gs pt =>
                  have e3' := e3
                  unfold upSlot at e3'
                  split at e3'
                  · rename_i d1 es
                    split at e3'
                    · rename_i d2 eu
                      obtain ⟨z, z', ea, ez⟩ := upAt_at eu
                      split at ez
                      · rename_i xs
                        split at ez
                        · rename_i j ej
                          cases ez
                          obtain ⟨ad, vs, U, rfl, h1, oL, dj, fin⟩ := place_ok p2 es ea gs pt
                          refine ⟨ad, vs, ki, j, rfl, rfl, h1, by rw [oL.length]; exact ej, ?_⟩
                          obtain ⟨W3, p3⟩ := fin (vs' := vs.set j xv) (ds' := xs.set j d) (oL.set j ov1 dj (fun b q => .inl q) fun b q => .inr q) (by simp only [ej]) e3
                          exact k _ _ _ _ p3 .refl
                        · cases ez
                      · cases ez
                    · cases e3'
                  · cases e3'
        · cases he
      · cases he
    · cases he
  · cases hm
/-- a store at a place of an owned list, of what is shared -/
theorem sub_store {X : Cx} {c : Cxt} (ihs : SAs C n) (ok : XOk C X c) {o i : E} {l r : Expr} {m1 : Nat} {d : Ev.D} {xv : V} {σ : L2.St} {F H F1 H1 : Hp} {W W1 : Fp} {δ1 δ2 δ3 : Dl} {sl : Nat} {ki : Int} {Q : L2.St → Hp → Prop}
    (hm : mEs m1 c [o, i] [l, r] = true) (p0 : Post X.K F H W F1 H1 σ δ1 W1 No) (rp : Rp X.K F1 xv d) (e : evAs C n [o, i] δ1 = some ([.bor sl [], .tmp (.int ki)], δ2))
    (eu : upSlot δ2 sl [] (fun x => match x with
      | .lst true xs => match ixN xs.length ki with
        | some j => some (.lst true (xs.set j d))
        | none => none
      | _ => none) = some δ3) (k : ∀ F2 H2 W2, Post X.K F H W F2 H2 σ δ3 W2 No → Same F1 F2 → Q σ H2) : gSub (tW X l) (tW X r) rSetL xv σ H1 Q := by
  refine nest2 (R := fun ov iv H3 => rSetL ov iv xv H3 fun H4 => Q σ H4) (ihs ok hm p0.ok e fun vs F' H' W' Wt p h => ?_)
  rintro ov iv rfl
  cases h with
  | @cons _ _ _ _ _ V1 V2 b1 b2 b3 b4 b5 =>
    cases b2 with
    | cons c1 c2 c3 c4 c5 =>
      cases c2
      cases (c1.look p.ok rfl).int
      have p2 := (p0.trans0 p).drop
      have fs : Same F1 F' := p.ext.fsub
      have e3 := eu
      cases b1 with
      | @bor v0 _ _ _ _ gs pt =>
        unfold upSlot at e3
        split at e3
        · rename_i d1 es
          split at e3
          · rename_i d2 eu2
            obtain ⟨z, z', ea, ez⟩ := upAt_at eu2
            split at ez
            · rename_i xs
              split at ez
              · rename_i j ej
                cases ez
                obtain ⟨ad, vs, U, rfl, h1, oL, dj, fin⟩ := place_ok p2 es ea gs pt
                refine ⟨ad, vs, ki, j, rfl, rfl, h1, by rw [oL.length]; exact ej, ?_⟩
                obtain ⟨W3, p3⟩ := fin (vs' := vs.set j xv) (ds' := xs.set j d) (oL.set j (.frz (rp.mono fs) : Ow X.K F' H' xv d No) (fun _ _ q => q.elim) (fun b q => .inl q) fun b q => q.elim) (by simp only [ej]) eu
                exact k _ _ _ p3 fs
              · cases ez
            · cases ez
          · cases e3
        · cases e3
theorem noSw2 {l1 r1 l2 r2 : Expr} {q1 q2 p : Pos} {kt : Nat} {y : Expr} {env : Env} : swappedStores [.Tuple [.Subscript l1 r1 q1, .Subscript l2 r2 q2] kt p] y env = pure none := by
  cases y with
  | Tuple vs k2 p2 =>
    unfold swappedStores
    simp only
    split
    · rfl
    · split
      · rfl
      · simp
  | _ => rfl
theorem st_swapIx {X : Cx} {c : Cxt} {σ : L2.St} {δ : Dl} {F H : Hp} {W : Fp} {D : Ends} (ihv : SV C n) (ihs : SAs C n) (ok : XOk C X c) {o1 i1 o2 i2 e : E} {x : Stmt} {fl : Fl} (hm : mS (m + 1) c (.swapIx o1 i1 o2 i2 e) x = true) (s : SOk X.K F H σ δ W) (he : evS C (n + 1) (.swapIx o1 i1 o2 i2 e) δ = some fl) (k : Fin X C.lock F H W σ D fl) : tWS X x D σ H := by
  unfold mS at hm
  simp only at hm
  split at hm
  · rename_i l1 r1 q1 l2 r2 q2 kt pt y pos
    simp only [Bool.and_eq_true, Bool.not_eq_true'] at hm
    obtain ⟨⟨⟨⟨h1, h2⟩, h3⟩, h4⟩, h5⟩ := hm
    unfold evS at he
    simp only at he
    split at he
    · rename_i a b δ1 e1
      split at he
      · rename_i s1 k1 δ2 e2
        split at he
        · rename_i δ3 e3
          split at he
          · rename_i s2 k2 δ4 e4
            split at he
            · rename_i δ5 e5
              cases he
              refine tWS_of (ps_asg pe_tW (pg_tup (n := 2) ok.calm (pgs_cons (pg_sub pe_tW pe_tW set_list (asgSub h4)) (pgs_cons (pg_sub pe_tW pe_tW set_list (asgSub h5)) pgs_nil)) rfl rfl) (show swapsWithSole [.Tuple [.Subscript l1 r1 q1, .Subscript l2 r2 q2] kt pt] y pos.line X.env = pure false from noSwT (ts := [.Subscript l1 r1 q1, .Subscript l2 r2 q2]) (k := kt) (p := pt) pos.line X.env) noSw2 rfl) ?_
              refine ihv ok h1 s e1 fun v F' H' W' Wt p o => ?_
              obtain ⟨ad, xs, rfl, sq, r⟩ := Vw.tup ⟨_, o⟩
              cases r with
              | @cons x1 _ _ _ r1 r' =>
                cases r' with
                | @cons x2 _ _ _ r2 r'' =>
                  cases r''
                  refine ⟨ad, [x1, x2], rfl, sqt_mono p.ok.sub sq, rfl, ?_⟩
                  refine ⟨x1, [x2], rfl, ?_⟩
                  refine sub_store ihs ok h2 p.drop r1 e2 e3 fun F2 H2 W2 p2 fs => ?_
                  refine ⟨x2, [], rfl, ?_⟩
                  refine sub_store ihs ok h3 p2 (r2.mono fs) e4 e5 fun F3 H3 W3 p3 fs2 => ?_
                  exact ⟨rfl, k _ _ _ _ p3 .refl⟩
            · cases he
          · cases he
        · cases he
      · cases he
    · cases he
  · cases hm
theorem s_s (ihe : SE C n) (ihv : SV C n) (ihs : SAs C n) (iht : ST C n) (sit : SIt C n) (ivc : SVC C n) (ih : SSs C n) : SS C (n + 1) := by
  intro X c ok m st x σ δ F H W fl D hm s he k
  cases m with
  | zero => simp [mS] at hm
  | succ m =>
  have hn : PassesOwn (model X.prog X.w) X.A X.env X.xe := by rw [ok.never]; exact PassesOwn.never
  cases st with
  | expr e => exact st_expr ihe ok hm s he k
  | ret e => exact st_ret ihe ok hm s he k
  | retN =>
    unfold mS at hm
    simp only at hm
    split at hm
    · simp only [evS] at he
      cases he
      exact tWS_of ps_retN (k .non σ F H W No (.refl s) (.frz .non) .refl)
    · cases hm
  | asg t e =>
    unfold mS at hm
    simp only at hm
    split at hm
    · rename_i tx y pos
      simp only [Bool.and_eq_true] at hm
      obtain ⟨⟨h1, h2⟩, h3⟩ := hm
      simp only [evS] at he
      split at he
      · rename_i d δ1 e1
        split at he
        · rename_i δ2 e2
          cases he
          cases t with
          | nm i =>
            simp only at h3
            split at h3
            · rename_i nm p
              rw [Bool.or_eq_true, Bool.or_eq_true, Bool.not_eq_true'] at h3
              rcases h3 with (h3 | h3) | h3
              · exact st_asg ihv ok h1 h2 (show swapsWithSole [.Name nm p] y pos.line X.env = pure false from noSw h3 (some (.Name nm p)) pos.line X.env) rfl rfl s e1 e2 k
              · have hb : nmB c i nm = true := by
                  have : mNm c i (.Name nm p) = true := h2
                  exact (mNm_of this).1
                refine ivc ok h1 h3 hb s e1 fun v F' H' W' Wt q o => ?_
                obtain ⟨q2, lk, _⟩ := q.put o (fun _ z => z) (show setN C.lock i d δ1 = some δ2 from e2)
                exact k _ _ _ _ q2 lk
              · have lk : X.env.scope.names.lookup nm = some .cell := by
                  rw [ok.sc]
                  unfold ceB at h3
                  split at h3
                  · assumption
                  · cases h3
                exact st_asg ihv ok h1 h2 (show swapsWithSole [.Name nm p] y pos.line X.env = pure false from noSwC pos.line lk) rfl rfl s e1 e2 k
            · cases h3
          | tp is =>
            simp only [Bool.not_eq_true'] at h3
            have h2' := h2
            simp only [mTg] at h2'
            split at h2'
            · rename_i ts kt pt
              have hw : swappedStores [.Tuple ts kt pt] y X.env = pure none := by
                cases y <;> first | rfl | simp [isTup] at h3
              exact st_asg (pos := pos) ihv ok h1 h2 (show swapsWithSole [.Tuple ts kt pt] y pos.line X.env = pure false from noSwT (ts := ts) (k := kt) (p := pt) pos.line X.env) hw rfl s e1 e2 k
            · cases h2'
        · cases he
      · cases he
    · cases hm
  | par is es => exact st_par ihs ok hm s he k
  | setIx o i e => exact st_setIx ihs ok hm s he k
  | swapIx o1 i1 o2 i2 e => exact st_swapIx ihv ihs ok hm s he k
  | aug i op e => exact st_aug ihe ok hm s he k
  | ifs e a b => exact st_if iht ih ok hm s he k
  | for_ tg kk its body =>
    unfold mS at hm
    simp only at hm
    split at hm
    · simp only [Bool.and_eq_true] at hm
      obtain ⟨⟨h1, h2⟩, h3⟩ := hm
      simp only [evS] at he
      split at he
      · rename_i xs δ1 e1
        exact forL_ok (m3 := 0) ih ok hn sit h1 h2 h3 s e1 he k
      · cases he
    · cases hm
  | while_ e body =>
    unfold mS at hm
    simp only at hm
    split at hm
    · rw [Bool.and_eq_true] at hm
      simp only [evS] at he
      exact whileL_ok iht ih ok hn hm.1 hm.2 s he k
    · cases hm
  | pass =>
    unfold mS at hm
    simp only at hm
    split at hm
    · simp only [evS] at he
      cases he
      exact tWS_of ps_pass (k _ _ _ _ (.refl s) .refl)
    · cases hm
  | brk =>
    unfold mS at hm
    simp only at hm
    split at hm
    · simp only [evS] at he
      cases he
      exact tWS_of ps_break (k _ _ _ _ (.refl s) .refl)
    · cases hm
  | cont =>
    unfold mS at hm
    simp only at hm
    split at hm
    · simp only [evS] at he
      cases he
      exact tWS_of ps_continue (k _ _ _ _ (.refl s) .refl)
    · cases hm
  | bad => simp [evS] at he
structure All (C : Ctx) (n : Nat) : Prop where
  e : SE C n
  v : SV C n
  vs : SVs C n
  asI : SAI C n
  and : SAnd C n
  or : SOr C n
  t : ST C n
  tand : STAnd C n
  tor : STOr C n
  ct : SCT C n
  it : SIt C n
  ifs : SIfs C n
  ec : SEC C n
  vc : SVC C n
  s : SS C n
  ss : SSs C n
theorem all0 : All C 0 where
  e := by intro X c ok m e x σ δ F H W a δ' Q hm s he; simp [evE] at he
  v := by intro X c ok m e x σ δ F H W a δ' Q hm s he; simp [evV] at he
  vs := by intro X c ok m e x σ δ F H W a δ' Q hm s he; simp [evVs] at he
  asI := by intro X c ok m e x σ δ F H W a δ' Q hm s he; simp [evAs] at he
  and := by intro X c ok m e x p σ δ F H W a δ' Q hm s he; simp [evAnd] at he
  or := by intro X c ok m e x p σ δ F H W a δ' Q hm s he; simp [evOr] at he
  t := by intro X c ok m e x σ δ F H W a δ' Q hm s he; simp [evT] at he
  tand := by intro X c ok m e x p σ δ F H W a δ' Q hm s he; simp [evTAnd] at he
  tor := by intro X c ok m e x p σ δ F H W a δ' Q hm s he; simp [evTOr] at he
  ct := by intro X c ok m e l os rs p σ δ F H W a δ' hm s he; simp [evE] at he
  it := by intro X c ok m t k es x σ δ F H W a δ' Q hm s he; simp [evIt] at he
  ifs := by intro X c ok m e x σ δ F H W a δ' Q hm s he; simp [evIfs] at he
  ec := by intro X c ok m e x σ δ F H W a δ' nm p sp i D hm hs hi s he; simp [evE] at he
  vc := by intro X c ok m e x σ δ F H W a δ' nm p sp i D hm hs hi s he; simp [evV] at he
  s := by intro X c ok m e x σ δ F H W a D hm s he; simp [evS] at he
  ss := by intro X c ok m e x σ δ F H W a D hm s he; simp [evSs] at he
theorem s_e (h : All C n) : SE C (n + 1) := by
  intro X c ok m e x σ δ F H W a δ' Q hm s he k
  cases m with
  | zero => simp [mE] at hm
  | succ m =>
  have ihs : SAs C n := SAI.as h.asI
  cases e with
  | non => exact e_const ok (.inl rfl) hm s he k
  | bl b => exact e_const ok (.inr (.inl ⟨_, rfl⟩)) hm s he k
  | int i => exact e_const ok (.inr (.inr (.inl ⟨_, rfl⟩))) hm s he k
  | str i => exact e_const ok (.inr (.inr (.inr ⟨_, rfl⟩))) hm s he k
  | con q => exact e_con ok hm s he k
  | var i => exact e_var ok hm s he k
  | bin op a b => exact e_bin ihs ok hm s he k
  | neg a => exact e_neg h.e ok hm s he k
  | cmp op a b => exact e_cmpE ihs ok hm s he k
  | chain o1 o2 a b d => exact e_chainE ihs h.e ok hm s he k
  | band es =>
    unfold mE at hm
    simp only at hm
    split at hm
    · simp only [evE] at he
      exact h.and ok hm s he k
    · cases hm
  | bor es =>
    unfold mE at hm
    simp only at hm
    split at hm
    · simp only [evE] at he
      exact h.or ok hm s he k
    · cases hm
  | bnot a => exact e_bnot h.e ok hm s he k
  | ite d a b => exact e_ite h.t h.e ok hm s he k
  | tup es => exact e_tup ihs ok hm s he k
  | lst es => exact e_lst ihs ok hm s he k
  | disS l pre st post => exact e_disS h.v h.vs ok hm s he k
  | pur e => exact e_pur h.e ok hm s he k
  | sub a i => exact e_sub ihs ok hm s he k
  | slice a lo hi => exact e_slice h.asI ok hm s he k
  | rev a => exact e_rev h.e ok hm s he k
  | call f es => exact e_call ihs ok hm s he k
  | callK f es p => exact e_callK ihs ok hm s he k
  | bi b es => exact e_bi ihs ok hm s he k
  | isi a ts => exact e_isi h.e ok hm s he k
  | meth mt o es => exact e_meth h.e ihs ok hm s he k
  | lc elt tg kk its ifs own => exact e_lcE ok h.it h.v h.ifs hm s he k
  | lc2 elt tg kk its tg2 k2 its2 own own2 => exact e_lc2E ok h.it h.v h.ifs hm s he k
theorem all_ok : ∀ n, All C n
  | 0 => all0
  | n + 1 => by
    have h := all_ok n
    have ihs : SAs C n := SAI.as h.asI
    exact ⟨s_e h, s_v h.e, s_vs ihs, s_asI h.e h.asI, s_and h.e h.and, s_or h.e h.or, s_t h.e h.t h.tand h.tor h.ct, s_tand h.t h.tand, s_tor h.t h.tor, s_ct ihs h.e, s_it ihs, s_ifs h.t, s_ec h.it h.v h.ifs, s_vc h.ec, s_s h.e h.v ihs h.t h.it h.vc h.ss, s_ss h.s h.ss⟩
end
end Ev

set_option Elab.async false
set_option linter.all false
set_option maxRecDepth 100000
set_option maxHeartbeats 4000000
/-! OB: the methods of a class of rows -/
namespace Ob
open PySem PySem.Spec PyProof.Rows L2 Ev
section
variable {P : Program} {w : World} {K : PySem.W.Frag} {mg : Str → Option Value} {base : Heap} {C : Addr}
theorem vis_par {N ps : List Str} {sc : Scope} {x : Str} (S : FnScope N ps sc) (h : x ∈ ps) : sc.names.lookup x = some .local ∨ sc.names.lookup x = some .cell := S.par x h
/-- def __iter__(self): return iter(self.own_items) -/
theorem iter_ok {k : Nat} {x q : Str} {st : Stmt} {f : Addr} {fd : FuncData} {d : Addr} {p1 p2 p3 p4 p5 : Pos} (F : Fun K x q st f fd) (S : FnScope ["self"] ["self"] (defScope st))
    (hb : defBody st = [.Return (some (.Call (.Name "iter" p1) [.Attribute (.Name "self" p2) "own_items" p3] [] p4)) p5]) (hg : (defScope st).names.lookup ("iter" : Str) = some NameKind.globalImplicit) (hm : mg "iter" = none)
    (c : SlX.SCls K C) (s1 : SlX.Slot1 K C "own_items" d 0) : FnOk P w K mg base CX0 (k + 1) f fd ["self"] (spIt K C) := by
  refine F.ok S (fun vs H Q E h => ?_) fun cdv A outer s H vs Q E hr h => ?_
  · obtain ⟨a, dx, t, ws, rfl, _⟩ := h
    rfl
  · obtain ⟨a, dx, t, ws, rfl, hs, ht, hq⟩ := h
    rw [hb]
    have hv : Vis (cxOf CX0 P w K mg base ["self"] q (defScope st) f cdv A outer s H E).nox.env.scope "self" := (S.par "self" (by simp)).elim .inl fun z => .inr (.inl z)
    refine ⟨_, pss_one (ps_ret (pe_callB call_iterT hg hm (by decide +kernel) (pa_cons (SlX.pe_sl (pv 0 rfl hv)) pa_nil))), ?_⟩
    exact ⟨_, rfl, a, C, dx, d, _, 0, .ref t, rfl, hs, c, s1, rfl, t, ws, rfl, ht, hq⟩
theorem len_ok {k : Nat} {x q : Str} {st : Stmt} {f : Addr} {fd : FuncData} {d : Addr} {p1 p2 p3 p4 p5 : Pos} (F : Fun K x q st f fd) (S : FnScope ["self"] ["self"] (defScope st))
    (hb : defBody st = [.Return (some (.Call (.Name "len" p1) [.Attribute (.Name "self" p2) "own_items" p3] [] p4)) p5]) (hg : (defScope st).names.lookup ("len" : Str) = some NameKind.globalImplicit) (hm : mg "len" = none)
    (c : SlX.SCls K C) (s1 : SlX.Slot1 K C "own_items" d 0) : FnOk P w K mg base CX0 (k + 1) f fd ["self"] (spLn K C) := by
  refine F.ok S (fun vs H Q E h => ?_) fun cdv A outer s H vs Q E hr h => ?_
  · obtain ⟨a, dx, t, ws, rfl, _⟩ := h
    rfl
  · obtain ⟨a, dx, t, ws, rfl, hs, ht, hq⟩ := h
    rw [hb]
    have hv : Vis (cxOf CX0 P w K mg base ["self"] q (defScope st) f cdv A outer s H E).nox.env.scope "self" := (S.par "self" (by simp)).elim .inl fun z => .inr (.inl z)
    refine ⟨_, pss_one (ps_ret (pe_callB call_len_seq hg hm (by decide +kernel) (pa_cons (SlX.pe_sl (pv 0 rfl hv)) pa_nil))), ?_⟩
    exact ⟨_, rfl, a, C, dx, d, _, 0, .ref t, rfl, hs, c, s1, rfl, t, ws, rfl, .inr ht, hq⟩
/-! __init__ -/
theorem init_inv {d : D} {rs : List D} (h : initF d = some rs) : InitOk d rs := by
  unfold initF at h
  split at h
  · rename_i δ1 e1
    split at h
    · rename_i δ2 e2
      split at h
      · rename_i rs' e3
        split at h
        · rename_i fz
          cases h
          exact ⟨δ1, δ2, e1, e2, e3, fz⟩
        · cases h
      · cases h
    · cases h
  · cases h
theorem slt_keep {H H' : Hp} {a C dx : Addr} {vs : List (Option V)} {W : Fp} (h : SlX.Slt H a C dx vs) (k : ∀ b o, H b = some o → ¬ W b → H' b = some o) (h1 : ¬ W a) (h2 : ¬ W dx) : SlX.Slt H' a C dx vs := by
  rcases h with ⟨e1, e2⟩ | ⟨e1, e2⟩
  · exact .inl ⟨k _ _ e1 h1, e2⟩
  · exact .inr ⟨k _ _ e1 h1, k _ _ e2 h2⟩
abbrev NI : List Str := ["self", "items", "rows", "place", "item"]
def cxI (st : Stmt) : Cxt := ⟨NI, defScope st, fun _ => true, [], fun _ => [], [], none⟩
theorem init_ok {k : Nat} {q : Str} {st : Stmt} {f : Addr} {fd : FuncData} {d : Addr} {s1 s2 : Stmt} {p1 p2 p3 p4 : Pos} (F : Fun K "__init__" q st f fd) (S : FnScope NI ["self", "items"] (defScope st))
    (hb : defBody st = [s1, s2, .Assign [.Attribute (.Name "self" p1) "own_items" p2] (.Name "rows" p3) p4]) (m1 : mS 100 (cxI st) initA s1 = true) (m2 : mS 100 (cxI st) initB s2 = true) (hB : ∀ b ∈ blts, mg b = none) (hv2 : visB (cxI st) "rows" = true)
    (c : SlX.SCls K C) (sl : SlX.Slot1 K C "own_items" d 0) : FnOk P w K mg base CX0 (k + 1) f fd ["self", "items"] (spInit K C) := by
  refine F.ok S (fun vs H Q E h => ?_) fun cdv A outer s H vs Q E hr h => ?_
  · obtain ⟨_, _, x, dx, v, _, _, rfl, _⟩ := h
    rfl
  · obtain ⟨G, W, x, dx, v, da, rs, rfl, sb, ow, lv, ⟨δ1, δ2, e1, e2, e3, fz⟩, hs, nx, nd, cont⟩ := h
    rw [hb]
    let X := (cxOf CX0 P w K mg base NI q (defScope st) f cdv A outer s H E).nox
    have ok : XOk CI X (cxI st) := by
      refine ⟨rfl, S.nd, rfl, rfl, rfl, S.kind, rfl, ?_, hB, ⟨fun f x hx => by simp [cxI] at hx⟩, fun y kk h => by simp [cxI] at h, fun f cn h => by simp [cxI] at h⟩
      have := hr.un
      show (A.deeper (envOfC q (defScope st) s.heap.objs.size f cdv)).units + 65 < cLine
      omega
    have hv0 : Vis X.env.scope "self" := (S.par "self" (by simp)).elim .inl fun z => .inr (.inl z)
    have hvr : Vis X.env.scope "rows" := ok.vis hv2
    refine ⟨_, pss_cons ps_tW (pss_cons ps_tW (pss_one (SlX.ps_sl (pv 0 rfl hv0) (pv 2 rfl hvr) rfl))), ?_⟩
    have s0 : SOk K G H (L2.start NI [.ref x, v]) [none, some da, none, none, none] W := ⟨sb, .gap (.one (W1 := W) (W2 := No) ow (.gap (.gap (.gap .nil))) (fun _ _ z => z.elim) (fun _ z => z) fun _ z => z.elim), lv⟩
    refine (all_ok 99).s ok m1 s0 e1 fun σ1 F1 H1 W1 p1 l1 => ?_
    refine (all_ok 98).s ok m2 p1.ok e2 fun σ2 F2 H2 W2 p2 l2 => ?_
    have p := p1.trans0 p2
    have lk := l1.trans l2
    obtain ⟨v2, U, R, g2, o2, _⟩ := p.ok.st.zip (slot_some e3)
    have r2 := o2.fz (by rw [D.fz]; exact fz)
    cases r2 with
    | tup ht hr2 =>
    have g0 : σ2[0]? = some (some (V.ref x)) := (lk 0 rfl).trans rfl
    exact ⟨_, g2, .ref x, g0, x, C, dx, d, [], 0, rfl, slt_keep hs p.ext.keep nx nd, c, sl, cont F2 H2 _ _ _ p.ext p.ok.sub ht hr2⟩
end
end Ob

set_option Elab.async false
set_option linter.all false
set_option maxRecDepth 100000
set_option maxHeartbeats 4000000
/-! OC: a class's rows made by one of several defs -/
namespace Ob
open PySem PySem.Spec PyProof.Rows L2 Ev
section
variable {X : Cx} {CX : CXT} {k i : Nat} {f C : Addr} {fd : FuncData} {ps : List Str} {sp : Sp} {E : XK} {x : Str} {e : Expr} {es : List Expr} {t : TA} {p pos : Pos}
/-- C(e, ..), C in a local name -/
theorem pe_makeV (M : L2.Mk X.K C f) (F : FnOk X.prog X.w X.K X.mg X.base CX k f fd ps sp) (hr : Room (k + 1) X.A) (hb : Binds X.K fd ps []) (hx : Passes CX X E) (hN : X.N[i]? = some x) (hv : Vis X.env.scope x) (ha : PA X (e :: es) t)
    (hd : (x == ("__debug__" : Str)) = false := by decide) (hcd : (x == ("__classdict__" : Str)) = false := by decide)
    (he : starEach (e :: es) X.env = (false, eval e X.env) :: starEach es X.env := by rfl) (hpl : (backTo pos (starEach es X.env)).any (·.1) = false := by rfl) : PE X (.Call (.Name x p) (e :: es) [] pos) (fun σ H Q => σ[i]? = some (some (.ref C)) ∧ tMake C sp [] E t σ H Q) := by
  refine ⟨fun pins s σ H Q I h => ?_⟩
  obtain ⟨hs, h⟩ := h
  refine wpAny_Call_Name_kw (thn ((pe_var (pos := p) (i := i) hN hv hd hcd).run pins s σ H (fun v H1 => v = .ref C ∧ H1 = H) I ⟨.ref C, hs, rfl, rfl⟩) fun u s1 ⟨v, H1, I1, r1, ev, eH⟩ => ?_)
  subst ev
  rw [eH] at I1
  cases r1
  refine PySem.W.callWith_K (h₀ := X.base) I.ok.mod.kin M.kp (thn (ha.run pos pins s1 σ H _ I1 h) fun us s2 ⟨vs, H2, I2, r, q⟩ => ⟨I2.kIn, ?_⟩) he hpl
  exact run_make M F hr hb .nil hx I2 r q
end
theorem stl_gap {K : PySem.W.Frag} {F H : Hp} : ∀ {σ : L2.St} {δ : Dl} {W : Fp} {i : Nat} {v : V}, StL K F H σ δ W → δ[i]? = some none → StL K F H (σ.set i (some v)) δ W
  | _, _, _, i, _, .nil, e => by simp at e
  | _, _, _, 0, v, .gap h, e => by simpa using StL.gap h
  | _, _, _, i + 1, v, .gap h, e => by simpa using StL.gap (stl_gap h (by simpa using e))
  | _, _, _, 0, _, .one .., e => by simp at e
  | _, _, _, i + 1, v, .one h1 h2 h3 h4 h5, e => by simpa using StL.one h1 (stl_gap h2 (by simpa using e)) h3 h4 h5
abbrev NM : List Str := ["cls", "rule", "items", "lap", "parts", "made"]
theorem made_inv {C0 : Ev.Ctx} {it : Nat} {ways : List (Str × Nat)} {ds : List D} {rs : List D} (h : madeF C0 it ways ds = some rs) : ∃ rule items lap, ds = [rule, items, lap] ∧ MadeOk C0 it ways rule items lap rs := by
  unfold madeF at h
  split at h
  · rename_i rule items lap
    split at h
    · rename_i δ1 e1
      split at h
      · rename_i w δ2 e2
        split at h
        · rename_i f ew
          split at h
          · rename_i e5
            split at h
            · rename_i d δ3 e3
              exact ⟨rule, items, lap, rfl, w, f, d, δ1, δ2, δ3, e1, e2, ew, e5, e3, init_inv h⟩
            · cases h
          · cases h
        · cases h
      · cases h
    · cases h
  · cases h
abbrev wP : Str := "plain"
abbrev wK : Str := "keys"
abbrev wS : Str := "swaps"
abbrev wB : Str := "buffer"
abbrev kvs4 (a1 a2 a3 a4 : Addr) : List (L2.Key × V) := [(.inr wP, .ref a1), (.inr wK, .ref a2), (.inr wS, .ref a3), (.inr wB, .ref a4)]
theorem merge4 (a1 a2 a3 a4 : Addr) : mergeK [] (kvs4 a1 a2 a3 a4) = kvs4 a1 a2 a3 a4 := by
  with_unfolding_all rfl
theorem ways4 {w : Str} {f f1 f2 f3 f4 : Nat} {a1 a2 a3 a4 : Addr} (h : List.lookup w [(wP, f1), (wK, f2), (wS, f3), (wB, f4)] = some f) : ∃ a, valV (kvs4 a1 a2 a3 a4) (.inr w : L2.Key) = some (.ref a) ∧ ((f = f1 ∧ a = a1) ∨ (f = f2 ∧ a = a2) ∨ (f = f3 ∧ a = a3) ∨ (f = f4 ∧ a = a4)) := by
  simp only [List.lookup_cons, List.lookup_nil] at h
  by_cases h1 : w = wP
  · subst h1
    rw [beq_self_eq_true] at h
    cases h
    exact ⟨a1, by with_unfolding_all rfl, .inl ⟨rfl, rfl⟩⟩
  · rw [show (w == wP) = false from by simpa using h1] at h
    by_cases h2 : w = wK
    · subst h2
      rw [beq_self_eq_true] at h
      cases h
      exact ⟨a2, by with_unfolding_all rfl, .inr (.inl ⟨rfl, rfl⟩)⟩
    · rw [show (w == wK) = false from by simpa using h2] at h
      by_cases h3 : w = wS
      · subst h3
        rw [beq_self_eq_true] at h
        cases h
        exact ⟨a3, by with_unfolding_all rfl, .inr (.inr (.inl ⟨rfl, rfl⟩))⟩
      · rw [show (w == wS) = false from by simpa using h3] at h
        by_cases h4 : w = wB
        · subst h4
          rw [beq_self_eq_true] at h
          cases h
          exact ⟨a4, by with_unfolding_all rfl, .inr (.inr (.inr ⟨rfl, rfl⟩))⟩
        · rw [show (w == wB) = false from by simpa using h4] at h
          cases h
def cxM (st : Stmt) (tab : List Str) (kt : Nat → List KwP) : Cxt := ⟨NM, defScope st, fun _ => true, tab, kt, [], none⟩
/-- what the called defs promise -/
def CallsOk (P : Program) (w : World) (K : PySem.W.Frag) (mg : Str → Option Value) (base : Heap) (k : Nat) (C0 : Ev.Ctx) (tab : List Str) (kt : Nat → List KwP) : Prop :=
  ∀ f g, tab[f]? = some g → notDbg g = true → ∀ ds r outs, C0.call f ds = some (r, outs) → ∃ (a : Addr) (fd : FuncData) (ps : List Str) (sp : Sp), mg g = some (.ref a) ∧ PySem.W.keepIn K (.ref a) = true ∧ FnOk P w K mg base CX0 k a fd ps sp ∧ Binds K fd ps [] ∧ (∀ p ∈ kt f, KwOk K fd ps p) ∧
    ∀ vs H Q E, spEv K (C0.call f) (C0.io f) vs H Q → sp vs H Q E
section
variable {P : Program} {w : World} {K : PySem.W.Frag} {mg : Str → Option Value} {base : Heap} {C : Addr}
theorem made_ok {k kI : Nat} {q : Str} {st : Stmt} {g fI : Addr} {fd fdI : FuncData} {s1 : Stmt} {ix y : Expr} {ys : List Expr} {p1 p2 p3 p4 p5 p6 p7 p8 p9 c1 c2 c3 c4 b1 b2 b3 b4 : Pos} {j1 j2 j3 j4 : Nat} {g1 g2 g3 g4 : Str} {a1 a2 a3 a4 : Addr} {f1 f2 f3 f4 it : Nat} {C0 : Ev.Ctx} {tab : List Str} {kt : Nat → List KwP}
    (F : Fun K "made" q st g fd) (S : FnScope NM ["cls", "rule", "items", "lap"] (defScope st))
    (hb : defBody st = [s1, .Assign [.Name "made" p1] (.Subscript (.Dict [some (.Constant (.str wP) j1 c1), some (.Constant (.str wK) j2 c2), some (.Constant (.str wS) j3 c3), some (.Constant (.str wB) j4 c4)] [.Name g1 b1, .Name g2 b2, .Name g3 b3, .Name g4 b4] p2) ix p3) p4,
      .Return (some (.Call (.Name "cls" p5) [.Call (.Name "made" p6) (y :: ys) [] p7] [] p8)) p9])
    (m1 : mS 100 (cxM st tab kt) (.asg (.nm 4) (.call it [.var 1])) s1 = true) (m2 : mE 100 (cxM st tab kt) (.sub (.var 4) (.int 0)) ix = true) (m3 : mEs 100 (cxM st tab kt) [(.bi .tuple1 [.var 2]), .var 3, .var 4] (y :: ys) = true) (ns : noStar (y :: ys) = true) (nsl : Ev.isSlice ix = false)
    (hB : ∀ b ∈ blts, mg b = none) (lock : C0.lock = [0]) (hc : CallsOk P w K mg base k C0 tab kt) (vm : visB (cxM st tab kt) "made" = true) (sm : stB (cxM st tab kt) "made" = true)
    (nd : ∀ z ∈ [g1, g2, g3, g4], notDbg z = true) (gl : ∀ z ∈ [g1, g2, g3, g4], (defScope st).names.lookup z = some NameKind.globalImplicit ∧ (z == ("__debug__" : Str)) = false) (h1 : mg g1 = some (.ref a1)) (h2 : mg g2 = some (.ref a2)) (h3 : mg g3 = some (.ref a3)) (h4 : mg g4 = some (.ref a4))
    (t1 : tab[f1]? = some g1) (t2 : tab[f2]? = some g2) (t3 : tab[f3]? = some g3) (t4 : tab[f4]? = some g4)
    (M : L2.Mk K C fI) (FI : FnOk P w K mg base CX0 kI fI fdI ["self", "items"] (spInit K C)) (bI : Binds K fdI ["self", "items"] []) (hk : kI + 1 ≤ k) :
    FnOk P w K mg base CX0 (k + 1) g fd ["cls", "rule", "items", "lap"] (spMade K C C0 it [(wP, f1), (wK, f2), (wS, f3), (wB, f4)]) := by
  refine F.ok S (fun vs H Q E h => ?_) fun cdv A outer s H vs Q E hr h => ?_
  · obtain ⟨_, _, v1, v2, v3, _, _, _, _, rfl, _⟩ := h
    rfl
  · obtain ⟨G, W, v1, v2, v3, rule, items, lap, rs, rfl, sb, ow, lv, ⟨w0, f, d, δ1, δ2, δ3, e1, e2, ew, gap5, e3, eI⟩, cont⟩ := h
    rw [hb]
    let X := (cxOf CX0 P w K mg base NM q (defScope st) g cdv A outer s H E).nox
    have hu : X.A.units + 65 < cLine := by
      have := hr.un
      show (A.deeper (envOfC q (defScope st) s.heap.objs.size g cdv)).units + 65 < cLine
      omega
    have hu1 : X.A.units + 1 < cLine := by omega
    have ok : XOk C0 X (cxM st tab kt) := by
      refine ⟨rfl, S.nd, rfl, rfl, rfl, S.kind, rfl, hu, hB, ⟨fun f x hx nb ds r outs ec => ?_⟩, fun y kk h => by simp [cxM] at h, fun f cn h => by simp [cxM] at h⟩
      obtain ⟨a, fd, ps, sp, q1, q2, q3, q4, q5, q6⟩ := hc f x hx nb ds r outs ec
      exact ⟨a, fd, ps, sp, k, q1, q2, hr, q3, q4, q5, q6⟩
    obtain ⟨af, vv, hf⟩ := ways4 (a1 := a1) (a2 := a2) (a3 := a3) (a4 := a4) ew
    obtain ⟨gf, tf, mf⟩ : ∃ gf, tab[f]? = some gf ∧ mg gf = some (.ref af) := by
      rcases hf with ⟨rfl, rfl⟩ | ⟨rfl, rfl⟩ | ⟨rfl, rfl⟩ | ⟨rfl, rfl⟩
      · exact ⟨g1, t1, h1⟩
      · exact ⟨g2, t2, h2⟩
      · exact ⟨g3, t3, h3⟩
      · exact ⟨g4, t4, h4⟩
    -- the call of the chosen def
    have e3' := e3
    unfold evE at e3'
    simp only at e3'
    split at e3'
    · rename_i as δ4 e4
      obtain ⟨dsc, rc, outsc, ec⟩ := callD_some e3'
      obtain ⟨ad, fdc, psc, spc, mgc, kpc, fokc, bdc, _, impc⟩ := hc f gf tf (nd gf (by rcases hf with ⟨rfl, rfl⟩ | ⟨rfl, rfl⟩ | ⟨rfl, rfl⟩ | ⟨rfl, rfl⟩ <;> simp_all)) _ _ _ ec
      have ead : ad = af := by
        rw [mf] at mgc
        cases mgc
        rfl
      subst ead
      have hvM : Vis X.env.scope "made" := ok.vis vm
      have hv0 : Vis X.env.scope "cls" := (S.par "cls" (by simp)).elim .inl fun z => .inr (.inl z)
      have stM := ok.st sm
      have g1' := gl g1 (by simp)
      have g2' := gl g2 (by simp)
      have g3' := gl g3 (by simp)
      have g4' := gl g4 (by simp)
      refine ⟨_, pss_cons ps_tW (pss_cons (ps_set (i := 5) S.nd rfl stM.1 (pe_dget hu1 (pe_disp (pps_cons pe_str (pe_def g1'.1 h1 g1'.2) (pps_cons pe_str (pe_def g2'.1 h2 g2'.2) (pps_cons pe_str (pe_def g3'.1 h3 g3'.2) (pps_cons pe_str (pe_def g4'.1 h4 g4'.2) pps_nil)))) rfl rfl (fun z => by cases z) (by show 4 ≤ 15; decide)) pe_tW (plainIx nsl)) rfl (.inl rfl))
        (pss_one (ps_ret (pe_makeV M FI (hr.mono hk) bI pass0 (i := 0) rfl hv0 (pa_cons (ItX.pe_callV (i := 5) (fokc.raw bdc .nil) hr kpc pass0 rfl hvM (pa_nest ns) (by decide) (by decide) (star_cons _ ns) (star_plain _ _ (noStar_tail ns))) pa_nil))))), ?_⟩
      have s0 : SOk K G H (L2.start NM [.ref C, v1, v2, v3]) [none, some rule, some items, some lap, none, none] W := by
        refine ⟨sb, ?_, lv⟩
        cases ow with
        | cons o1 ow d1 u1 u1' =>
        cases ow with
        | cons o2 ow d2 u2 u2' =>
        cases ow with
        | cons o3 ow d3 u3 u3' =>
        exact .gap (.one o1 (.one o2 (.one (W2 := No) o3 (.gap (.gap .nil)) (fun _ _ z => z.elim) u3 fun _ z => z.elim) d2 u2 u2') d1 u1 u1')
      refine (all_ok 99).s ok m1 s0 e1 fun σ1 F1 H1 W1 p1 l1 => ?_
      have g0 : σ1[0]? = some (some (V.ref C)) := (l1 0 (by rw [lock]; rfl)).trans rfl
      intro pd hpd
      refine ⟨upd_same, kvs4 a1 a2 a3 a4, rfl, by show 4 ≤ 15; decide, ?_⟩
      rw [merge4, upd_upd]
      have nW1 : ¬ W1 pd := fun z => p1.ok.lv pd z hpd
      have pj : Post K F1 H1 W1 F1 (upd H1 pd (.dK (kvs4 a1 a2 a3 a4))) σ1 δ1 W1 No := Post.new p1.ok (New.junk p1.ok.sub hpd)
      refine (all_ok 97).e ok m2 pj.ok e2 fun v2 F2 H2 W2 Wt2 p2 a2' => ?_
      cases a2' with
      | tmp o2 =>
      have r2 := o2.fz rfl
      cases r2
      have hpd2 : H2 pd = some (.dK (kvs4 a1 a2 a3 a4)) := p2.ext.keep pd _ upd_same nW1
      have hlen : 5 < σ1.length := by
        rw [p2.ok.st.length]
        exact (List.getElem?_eq_some_iff.mp gap5).1
      refine ⟨pd, .ref ad, rfl, by rw [← vv]; exact DGet.k (k := .inr w0) hpd2, ?_⟩
      have st3 : SOk K F2 H2 (σ1.set 5 (some (.ref ad))) δ2 W2 := ⟨p2.ok.sub, stl_gap p2.ok.st gap5, p2.ok.lv⟩
      refine ⟨by rw [List.getElem?_set_ne (by decide)]; exact g0, ?_, ?_⟩
      · rw [List.getElem?_set_self hlen]
      refine (SAI.as (all_ok 95).asI) ok m3 st3 e4 fun vs F3 H3 W3 Wt3 p3 h3 => ?_
      show spc (vs ++ []) H3 _ _
      rw [List.append_nil]
      refine impc _ _ _ _ (call_ok p3 h3 e3' fun v F4 H4 W4 Wu p4 a4' => ?_).2
      cases a4' with
      | tmp o4 =>
      intro x dx hx hdx hne
      have PP := ((p1.trans0 pj).trans0 p2).trans0 p4
      have n1 : New F4 H4 F4 (upd H4 dx (.own x)) No := New.junk p4.ok.sub hdx
      have hx1 : upd H4 dx (.own x) x = none := by rw [upd_ne (fun z => hne z.symm)]; exact hx
      have n2 : New F4 (upd H4 dx (.own x)) F4 (upd (upd H4 dx (.own x)) x (.ins C dx [])) No := New.junk n1.sub hx1
      have nx : ¬ Wu x := fun z => p4.lt x z hx
      have ndx : ¬ Wu dx := fun z => p4.lt dx z hdx
      have o5 : Ow K F4 (upd (upd H4 dx (.own x)) x (.ins C dx [])) v d Wu := o4.keep (fun _ _ z => z) fun b wb o eo fo => by
        have b1 : b ≠ x := fun z => nx (by rw [← z]; exact wb)
        have b2 : b ≠ dx := fun z => ndx (by rw [← z]; exact wb)
        exact ⟨by rw [upd_ne b1, upd_ne b2]; exact eo, fo⟩
      refine ⟨F4, Wu, x, dx, v, d, rs, rfl, n2.sub, o5, fun b wb z => ?_, eI, .inl ⟨upd_same, rfl⟩, nx, ndx, fun F' H' W' t ws ext sub ht hr' => ⟨rfl, ?_⟩⟩
      · have b1 : b ≠ x := fun z => nx (by rw [← z]; exact wb)
        have b2 : b ≠ dx := fun z => ndx (by rw [← z]; exact wb)
        rw [upd_ne b1, upd_ne b2] at z
        exact p4.lt b wb z
      have fx : ∀ z, (z = x ∨ z = dx) → F' z = none := fun z hz => by
        cases e : F' z with
        | none => rfl
        | some o =>
          rcases ext.fnew z o e with h | h | h
          · have := p4.ok.sub _ _ h
            rcases hz with rfl | rfl
            · rw [hx] at this; cases this
            · rw [hdx] at this; cases this
          · rcases hz with rfl | rfl
            · exact absurd h nx
            · exact absurd h ndx
          · rcases hz with rfl | rfl
            · rw [upd_same] at h; cases h
            · rw [upd_ne hne, upd_same] at h; cases h
      obtain ⟨δi1, δi2, _, _, _, fzr⟩ := eI
      refine cont F' (SlX.slH H' x C dx [some (.ref t)]) W' x dx t ws ?_ (fun b o e => ?_) ht hr' fzr (SlX.slH_slt hne)
      · have E2 : Ext F4 H4 (Un2 Wu W4) F4 (upd (upd H4 dx (.own x)) x (.ins C dx [])) (Un2 Wu W4) := (n1.ext.trans n2.ext).mono (fun _ q => q.elim) fun b q => .inr q
        have E3 : Ext F4 (upd (upd H4 dx (.own x)) x (.ins C dx [])) (Un2 Wu W4) F' H' W' := ext.mono (fun b q => .inl q) fun b q => .inl q
        have EE := (PP.ext.trans E2).trans E3
        have hx0 := PP.ext.live x hx
        have hdx0 := PP.ext.live dx hdx
        refine ⟨EE.fsub, EE.fnew, fun b o e n => ?_, fun b e => ?_, EE.wnew⟩
        · have b1 : b ≠ x := fun z => by rw [z, hx0] at e; cases e
          have b2 : b ≠ dx := fun z => by rw [z, hdx0] at e; cases e
          rw [SlX.slH_ne b1 b2]
          exact EE.keep b o e n
        · by_cases b1 : b = x
          · rw [b1]; exact hx0
          · by_cases b2 : b = dx
            · rw [b2]; exact hdx0
            · rw [SlX.slH_ne b1 b2] at e
              exact EE.live b e
      · have b1 : b ≠ x := fun z => by rw [z, fx x (.inl rfl)] at e; cases e
        have b2 : b ≠ dx := fun z => by rw [z, fx dx (.inr rfl)] at e; cases e
        rw [SlX.slH_ne b1 b2]
        exact sub _ _ e
    · cases e3'
end
end Ob

set_option linter.all false
set_option maxRecDepth 100000
set_option maxHeartbeats 4000000
/-! Ev: defs and laws -/
namespace Ev
open PySem PySem.Spec PyProof.Rows L2
/-- a def of the text: its name, its statement, its names (the parameters first), its core -/
structure Def where
  name : Str
  st : Stmt
  N : List Str
  ps : List Str
  f : Fn
  kw : List KwP := []
  gc : List (Str × Kc) := []
  cn : Str := ""
abbrev tabOf (ds : List Def) : List Str := ds.map (·.name)
abbrev fnsOf (ds : List Def) : List Fn := ds.map (·.f)
abbrev kwsOf (ds : List Def) : Nat → List KwP := fun i => ((ds[i]?).map (·.kw)).getD []
/-- the place and the class of list(C.made(..)) -/
def vmAt : Nat → List Def → Option (Nat × Str)
  | _, [] => none
  | i, d :: ds => if d.f.vt.isSome then some (i, d.cn) else vmAt (i + 1) ds
def Def.cxt (d : Def) (ds : List Def) : Cxt := ⟨d.N, L2.defScope d.st, fun _ => true, tabOf ds, kwsOf ds, d.gc, vmAt 0 ds⟩
def Def.chk (d : Def) (ds : List Def) : Bool := if d.f.vt.isSome then same d.name "__debug__" && decide (d.f.io = []) else mSs 200 (d.cxt ds) d.f.body (L2.defBody d.st) && decide (d.N.length = d.f.n) && decide (d.ps.length = d.f.ps) && decide (d.ps.length ≤ d.N.length)
structure DefAt (K : PySem.W.Frag) (mg : Str → Option Value) (d : Def) : Prop where
  ex : ∃ (a : Addr) (fd : FuncData), L2.Fun K d.name d.name d.st a fd ∧ mg d.name = some (.ref a) ∧ PySem.W.keepIn K (.ref a) = true ∧ Binds K fd d.ps [] ∧ ∀ p ∈ d.kw, KwOk K fd d.ps p
  sc : FnScope d.N d.ps (L2.defScope d.st)
  con : ∀ y k, d.gc.lookup y = some k → ConAt K mg y k
theorem kw_mk {K : PySem.W.Frag} {x qual : Str} {st : Stmt} {f : Addr} {fd : FuncData} {ps : List Str} (F : L2.Fun K x qual st f fd) (p : KwP)
    (h : ∀ (kV doc pm : Value) (an : Option Addr) (cdv ct : Value) (us ws : List Value), us.length = p.n → ws.length = p.ks.length → bindArgs (PySem.W.fnOf x qual (L2.defArgs st) (L2.defBody st) (L2.defScope st) .none kV doc pm an cdv ct) ⟨us, p.ks.zip ws⟩ = pure (ps.zip (permL p.perm .none (us ++ ws))))
    (nd : p.perm.Nodup) (lt : ∀ i ∈ p.perm, i < p.n + p.ks.length) : KwOk K fd ps p := by
  obtain ⟨oc, od, kV, doc, pm, an, cdv, ct, osl, rfl, lk, hcd⟩ := F.ex
  exact ⟨fun s us ws h1 h2 => .of_eq (h kV doc pm an cdv ct us ws h1 h2), nd, lt⟩
theorem kw_nil {K : PySem.W.Frag} {fd : FuncData} {ps : List Str} : ∀ p ∈ ([] : List KwP), KwOk K fd ps p := fun p hp => by cases hp
theorem kw_cons {K : PySem.W.Frag} {fd : FuncData} {ps : List Str} {p : KwP} {l : List KwP} (h : KwOk K fd ps p) (t : ∀ q ∈ l, KwOk K fd ps q) : ∀ q ∈ p :: l, KwOk K fd ps q := fun q hq => by
  rcases List.mem_cons.mp hq with e | e
  · rw [e]; exact h
  · exact t q e
theorem con_int {K : PySem.W.Frag} {mg : Str → Option Value} {y : Str} {i : Int} {u : Value} (h : mg y = some u) (e : ∃ t, u = Value.int i t) : ConAt K mg y (.int i) := ⟨u, .int i, h, e, fun _ => .int i⟩
theorem con_str {K : PySem.W.Frag} {mg : Str → Option Value} {y : Str} {s : Str} {u : Value} (h : mg y = some u) (e : ∃ t, u = Value.str s t) : ConAt K mg y (.str s) := ⟨u, .str s, h, e, fun _ => .str s⟩
theorem con_strs {K : PySem.W.Frag} {mg : Str → Option Value} {y : Str} {l : List Str} {a : Addr} {o : Obj} {its : Array Value} {n : Nat} (h : mg y = some (.ref a)) (lk : K.lookup a = some o) (ec : o.cls = .type "tuple") (ed : o.data = .seq its n) (sz : its.size ≤ sizeLine) (vs : Vals (l.map V.str) its.toList) : ConAt K mg y (.strs l) :=
  ⟨.ref a, .ref a, h, rfl, fun F => .tup (.inr ⟨o, its, n, lk, ec, ed, sz, vs⟩) (by
    clear vs
    induction l with
    | nil => exact .nil
    | cons s l ih => exact .cons (.str s) ih)⟩
theorem con_nil {K : PySem.W.Frag} {mg : Str → Option Value} : ∀ y k, ([] : List (Str × Kc)).lookup y = some k → ConAt K mg y k := fun y k h => by cases h
theorem con_cons {K : PySem.W.Frag} {mg : Str → Option Value} {x : Str} {q : Kc} {l : List (Str × Kc)} (h : ConAt K mg x q) (t : ∀ y k, l.lookup y = some k → ConAt K mg y k) : ∀ y k, ((x, q) :: l).lookup y = some k → ConAt K mg y k := fun y k e => by
  rw [List.lookup_cons] at e
  split at e
  · rename_i b
    cases e
    cases (beq_iff_eq.mp b)
    exact h
  · exact t y k e
section
variable {K : PySem.W.Frag} {F H : Hp}
theorem start_ok : ∀ {vs : List V} {ds : List D} {W : Fp} (k : Nat), OwL K F H vs ds W → StL K F H (vs.map some ++ List.replicate k none) (ds.map some ++ List.replicate k none) W
  | [], _, _, 0, .nil => .nil
  | [], _, _, k + 1, .nil => by
    have := start_ok (vs := []) (ds := []) (W := No) k (OwL.nil (K := K) (F := F) (H := H))
    simp only [List.map_nil, List.nil_append, List.replicate_succ] at this ⊢
    exact .gap (this.weak fun _ q => q.elim)
  | _ :: _, _, _, k, .cons h1 h2 h3 h4 h5 => .one h1 (start_ok k h2) h3 h4 h5
theorem outs_ok {io : List Nat} {σ : L2.St} {δ : Dl} : ∀ {vs : List V} {j : Nat} {outs : List D} {δ2 : Dl} {W2 : Fp}, outsOf δ io j vs.length = some outs → (∀ i, j ≤ i → δ2[i]? = δ[i]?) → StL K F H σ δ2 W2 → (∀ i v, vs[i]? = some v → io.contains (j + i) = true → σ[j + i]? = some (some v)) → OutL K F H io j vs outs W2
  | [], j, outs, δ2, W2, e, ag, st, hv => by
    simp only [List.length_nil, outsOf] at e
    cases e
    exact .nil
  | v :: vs, j, outs, δ2, W2, e, ag, st, hv => by
    simp only [List.length_cons, outsOf] at e
    have hv' : ∀ i w, vs[i]? = some w → io.contains (j + 1 + i) = true → σ[j + 1 + i]? = some (some w) := fun i w h1 h2 => by
      have := hv (i + 1) w (by simpa using h1) (by rw [show j + (i + 1) = j + 1 + i by omega]; exact h2)
      rw [show j + (i + 1) = j + 1 + i by omega] at this
      exact this
    split at e
    · rename_i hj
      split at e
      · rename_i d ds e1 e2
        split at e
        · rename_i fo
          cases e
          have g2 : δ2[j]? = some (some d) := by rw [ag j (Nat.le_refl _)]; exact slot_some e1
          obtain ⟨v', U, R, g, o, s1, s2, dj, st', _⟩ := st.zip g2
          have g0 := hv 0 v rfl (by simpa using hj)
          rw [Nat.add_zero, g] at g0
          cases g0
          exact .one hj fo o (outs_ok e2 (fun i hi => by rw [List.getElem?_set_ne (by omega)]; exact ag i (by omega)) st' hv') dj s1 s2
        · cases e
      · cases e
    · rename_i hj
      exact .skip (by simpa using hj) (outs_ok e (fun i hi => ag i (by omega)) st hv')
end
section
variable {P : Program} {w : World} {K : PySem.W.Frag} {mg : Str → Option Value} {base : Heap} {ds : List Def}
theorem vmAt_get : ∀ (i : Nat) (l : List Def) (f : Nat) (cn : Str), vmAt i l = some (f, cn) → ∃ j d, f = i + j ∧ l[j]? = some d ∧ d.f.vt.isSome = true ∧ d.cn = cn
  | i, [], f, cn, h => by simp [vmAt] at h
  | i, d :: l, f, cn, h => by
    unfold vmAt at h
    split at h
    · rename_i hv
      cases h
      exact ⟨0, d, rfl, rfl, hv, rfl⟩
    · obtain ⟨j, d', e1, e2, e3, e4⟩ := vmAt_get (i + 1) l f cn h
      exact ⟨j + 1, d', by omega, by simpa using e2, e3, e4⟩
def spDef (K : PySem.W.Frag) (ds : List Def) (k g : Nat) (io : List Nat) : Sp := fun vs H Q _ => spEv K (evF (fnsOf ds) k g) io vs H Q
theorem evF_some {T : List Fn} {k g : Nat} {xs : List D} {r : D × List D} {f : Fn} (ef : T[g]? = some f) (hv : f.vt = none) (e : evF T k g xs = some r) : ∃ k', k = k' + 1 ∧ xs.length = f.ps := by
  cases k with
  | zero => simp [evF] at e
  | succ k =>
    simp only [evF, ef, hv] at e
    split at e
    · rename_i hl
      exact ⟨k, rfl, hl⟩
    · cases e
theorem evF_virt {T : List Fn} {k g it : Nat} {ways : List (Str × Nat)} {xs : List D} {r : D × List D} {f : Fn} (ef : T[g]? = some f) (hv : f.vt = some (it, ways)) (e : evF T k g xs = some r) :
    ∃ k' rs, k = k' + 9 ∧ madeF ⟨evF T k', fun h => ((T[h]?).map (·.io)).getD [], [0]⟩ it ways xs = some rs ∧ r = (.lst true rs, []) := by
  cases k with
  | zero => simp [evF] at e
  | succ k =>
    by_cases hk : k < 8
    · have : evF T (k + 1) g xs = none := by
        rcases k with _ | _ | _ | _ | _ | _ | _ | _ | k <;> first | omega | simp only [evF, ef, hv]
      rw [this] at e
      cases e
    · obtain ⟨k', rfl⟩ : ∃ k', k = k' + 8 := ⟨k - 8, by omega⟩
      simp only [evF, ef, hv] at e
      rw [Option.map_eq_some_iff] at e
      obtain ⟨rs, e1, e2⟩ := e
      exact ⟨k', rs, rfl, e1, e2.symm⟩
theorem fns_get {g : Nat} {f : Fn} (e : (fnsOf ds)[g]? = some f) : ∃ d, ds[g]? = some d ∧ d.f = f := by
  rw [List.getElem?_map] at e
  cases h : ds[g]? with
  | none => rw [h] at e; cases e
  | some d => rw [h] at e; exact ⟨d, rfl, by simpa using e⟩
theorem tab_get {g : Nat} {x : Str} (e : (tabOf ds)[g]? = some x) : ∃ d, ds[g]? = some d ∧ d.name = x := by
  rw [List.getElem?_map] at e
  cases h : ds[g]? with
  | none => rw [h] at e; cases e
  | some d => rw [h] at e; exact ⟨d, rfl, by simpa using e⟩
abbrev ctxAt (ds : List Def) (k : Nat) (lock : List Nat) : Ctx := ⟨evF (fnsOf ds) k, fun h => (((fnsOf ds)[h]?).map (·.io)).getD [], lock⟩
/-- what the virtual def needs of the program -/
def VirtOk (P : Program) (w : World) (K : PySem.W.Frag) (mg : Str → Option Value) (base : Heap) (ds : List Def) : Prop :=
  ∀ (gv : Nat) (dv : Def) (it : Nat) (ways : List (Str × Nat)), ds[gv]? = some dv → dv.f.vt = some (it, ways) → ∀ k', Ob.CallsOk P w K mg base (k' + 2) (ctxAt ds k' [0]) (tabOf ds) (kwsOf ds) → ∃ Ca, Ob.ClsOk P w K mg base dv.cn Ca (k' + 3) (ctxAt ds k' [0]) it ways
theorem virt_none (h : ∀ d ∈ ds, d.f.vt = none) : VirtOk P w K mg base ds := fun gv dv it ways hd hv => by
  rw [h dv (List.mem_of_getElem? hd)] at hv
  cases hv
theorem fns_at {g : Nat} {d : Def} (hd : ds[g]? = some d) : (fnsOf ds)[g]? = some d.f := by rw [List.getElem?_map, hd]; rfl
theorem chk_virt {d : Def} (h : d.chk ds = true) (v : d.f.vt ≠ none) : d.name = "__debug__" ∧ d.f.io = [] := by
  unfold Def.chk at h
  rw [if_pos (by cases e : d.f.vt with
    | none => exact absurd e v
    | some _ => rfl)] at h
  simp only [Bool.and_eq_true, decide_eq_true_eq] at h
  exact ⟨same_eq h.1, h.2⟩
theorem nd_none (hC : ∀ d ∈ ds, d.chk ds = true) {d : Def} (hm : d ∈ ds) (nb : notDbg d.name = true) : d.f.vt = none := by
  cases e : d.f.vt with
  | none => rfl
  | some _ =>
    rw [(chk_virt (hC d hm) (by rw [e]; exact fun z => by cases z)).1] at nb
    exact absurd nb (by decide)
/-- what the calls of a text promise, by those before -/
theorem calls_at {j k : Nat} (hjk : j ≤ k) (hT : ∀ d ∈ ds, d.f.vt = none → DefAt K mg d) (hC : ∀ d ∈ ds, d.chk ds = true)
    (ih : ∀ (g : Nat) (d : Def), ds[g]? = some d → d.f.vt = none → ∀ (a : Addr) (fd : FuncData), L2.Fun K d.name d.name d.st a fd → FnOk P w K mg base CX0 j a fd d.ps (spDef K ds j g d.f.io)) (lock : List Nat) : Ob.CallsOk P w K mg base k (ctxAt ds j lock) (tabOf ds) (kwsOf ds) := by
  intro f x hx nb xs r outs ec
  obtain ⟨d', hd', rfl⟩ := tab_get hx
  have hmem := List.mem_of_getElem? hd'
  have hv := nd_none hC hmem nb
  obtain ⟨a', fd', hf', hm', hk', hb', hkw'⟩ := (hT d' hmem hv).ex
  refine ⟨a', fd', d'.ps, spDef K ds j f d'.f.io, hm', hk', (ih f d' hd' hv a' fd' hf').mono hjk, hb', fun p hp => hkw' p (by
    have hp' : p ∈ kwsOf ds f := hp
    unfold kwsOf at hp'
    rw [hd'] at hp'
    exact hp'), fun vs H Q E h => ?_⟩
  have eio : (ctxAt ds j lock).io f = d'.f.io := by
    show (((fnsOf ds)[f]?).map (·.io)).getD [] = d'.f.io
    rw [List.getElem?_map, hd']
    rfl
  rw [eio] at h
  exact h
theorem fn_step (hT : ∀ d ∈ ds, d.f.vt = none → DefAt K mg d) (hC : ∀ d ∈ ds, d.chk ds = true) (hB : ∀ b ∈ blts, mg b = none) (hV : VirtOk P w K mg base ds) (k : Nat)
    (ih : ∀ j ≤ k, ∀ (g : Nat) (d : Def), ds[g]? = some d → d.f.vt = none → ∀ (a : Addr) (fd : FuncData), L2.Fun K d.name d.name d.st a fd → FnOk P w K mg base CX0 j a fd d.ps (spDef K ds j g d.f.io))
    (g : Nat) (d : Def) (hd : ds[g]? = some d) (hn : d.f.vt = none) (a : Addr) (fd : FuncData) (hf : L2.Fun K d.name d.name d.st a fd) : FnOk P w K mg base CX0 (k + 1) a fd d.ps (spDef K ds (k + 1) g d.f.io) := by
  have hmem : d ∈ ds := List.mem_of_getElem? hd
  have hsc := (hT d hmem hn).sc
  have hchk := hC d hmem
  unfold Def.chk at hchk
  rw [if_neg (by rw [hn]; exact fun z => by cases z)] at hchk
  simp only [Bool.and_eq_true, decide_eq_true_eq] at hchk
  obtain ⟨⟨⟨c1, c2⟩, c3⟩, c4⟩ := hchk
  have gT : (fnsOf ds)[g]? = some d.f := fns_at hd
  have lens : ∀ vs H Q E, spDef K ds (k + 1) g d.f.io vs H Q E → vs.length = d.ps.length := fun vs H Q E h => by
    obtain ⟨F, W, xs, r, outs, _, o, _, e, _⟩ := h
    obtain ⟨k', _, hl⟩ := evF_some gT hn e
    rw [o.length, hl, c3]
  refine hf.ok hsc lens fun cdv A outer s H vs Q E hr hsp => ⟨_, pss_tW, ?_⟩
  obtain ⟨F, W, xs, r, outs, sb, o, lv, e, cont⟩ := hsp
  have hlv := lens vs H Q E ⟨F, W, xs, r, outs, sb, o, lv, e, cont⟩
  let X := (cxOf CX0 P w K mg base d.N d.name (L2.defScope d.st) a cdv A outer s H E).nox
  let C : Ctx := ctxAt ds k d.f.io
  have ok : XOk C X (d.cxt ds) := by
    refine ⟨rfl, hsc.nd, rfl, rfl, rfl, hsc.kind, rfl, ?_, hB, ⟨fun f x hx nb xs r outs ec => ?_⟩, (hT d hmem hn).con, fun f cn hvm => ?_⟩
    · have := hr.un
      show (A.deeper (envOfC d.name (L2.defScope d.st) s.heap.objs.size a cdv)).units + 65 < cLine
      omega
    · obtain ⟨a, fd, ps, sp, q1, q2, q3, q4, q5, q6⟩ := calls_at (Nat.le_refl k) hT hC (ih k (Nat.le_refl k)) d.f.io f x hx nb xs r outs ec
      exact ⟨a, fd, ps, sp, k, q1, q2, hr, q3, q4, q5, q6⟩
    · obtain ⟨j, dv, e1, e2, e3, e4⟩ := vmAt_get 0 ds f cn hvm
      rw [Nat.zero_add] at e1
      subst e1
      subst e4
      cases hv : dv.f.vt with
      | none => rw [hv] at e3; cases e3
      | some iw =>
        obtain ⟨it, ways⟩ := iw
        by_cases hk : k < 9
        · refine .inl fun xs => ?_
          cases ec : C.call f xs with
          | none => rfl
          | some r =>
            obtain ⟨k', rs, ek, _⟩ := evF_virt (fns_at e2) hv ec
            omega
        · obtain ⟨k', ek⟩ : ∃ k', k = k' + 9 := ⟨k - 9, by omega⟩
          obtain ⟨Ca, O⟩ := hV f dv it ways e2 hv k' (calls_at (by omega) hT hC (ih k' (by omega)) [0])
          refine .inr ⟨Ca, k' + 3, it, ctxAt ds k' [0], ways, O, hr.mono (by omega), ?_, fun xs r outs ec => ?_⟩
          · show (((fnsOf ds)[f]?).map (·.io)).getD [] = []
            rw [fns_at e2]
            exact (chk_virt (hC dv (List.mem_of_getElem? e2)) (by rw [hv]; exact fun z => by cases z)).2
          · obtain ⟨k2, rs, ek2, em, er⟩ := evF_virt (fns_at e2) hv ec
            obtain rfl : k2 = k' := by omega
            cases er
            obtain ⟨rule, items, lap, ed, mo⟩ := Ob.made_inv em
            exact ⟨rule, items, lap, rs, ed, rfl, rfl, mo⟩
  simp only [evF, gT, hn] at e
  split at e
  · rename_i hl
    have hst : SOk K F H (start d.N vs) (startD d.f xs) W := by
      refine ⟨sb, ?_, lv⟩
      unfold L2.start startD
      rw [c2, hlv, hl, c3]
      exact start_ok _ o
    have io_slot : ∀ i v, vs[i]? = some v → (start d.N vs)[0 + i]? = some (some v) := fun i v hv => by
      unfold L2.start
      rw [Nat.zero_add, List.getElem?_append_left (by rw [List.length_map]; exact (List.getElem?_eq_some_iff.mp hv).1), List.getElem?_map, hv]
      rfl
    have fin : ∀ {σ' : L2.St} {δ' : Dl} {F' H' : Hp} {W' Wt : Fp} {v : V} {outs' : List D} {r' : D}, outsOf δ' d.f.io 0 d.f.ps = some outs' → (r', outs') = (r, outs) → Post K F H W F' H' σ' δ' W' Wt → Ow K F' H' v r' Wt → LockEq d.f.io (start d.N vs) σ' → Q v H' := fun {σ' δ' F' H' W' Wt v outs' r'} eo er p ov lk => by
      cases er
      refine cont v F' H' Wt W' ov ?_ p.dj p.ok.sub (fun b q => q.elim (p.lt b) (p.ok.lv b)) p.ext
      rw [← c3, ← hlv] at eo
      exact outs_ok eo (fun _ _ => rfl) p.ok.st fun i v hv hio => by rw [lk _ hio]; exact io_slot i v hv
    split at e
    · rename_i r1 δ1 e1
      rw [Option.map_eq_some_iff] at e
      obtain ⟨o1, eo, er⟩ := e
      exact (all_ok 100).ss ok c1 hst e1 fun v σ' F' H' W' Wt p ov lk => fin eo er p ov lk
    · rename_i δ1 e1
      rw [Option.map_eq_some_iff] at e
      obtain ⟨o1, eo, er⟩ := e
      exact (all_ok 100).ss ok c1 hst e1 fun σ' F' H' W' p lk => fin eo er p (.frz .non) lk
    · cases e
  · cases e
/-- every def keeps its promise -/
theorem fn_okV (hT : ∀ d ∈ ds, d.f.vt = none → DefAt K mg d) (hC : ∀ d ∈ ds, d.chk ds = true) (hB : ∀ b ∈ blts, mg b = none) (hV : VirtOk P w K mg base ds) (k : Nat) : ∀ (g : Nat) (d : Def), ds[g]? = some d → d.f.vt = none → ∀ (a : Addr) (fd : FuncData), L2.Fun K d.name d.name d.st a fd → FnOk P w K mg base CX0 k a fd d.ps (spDef K ds k g d.f.io) := by
  induction k using Nat.strongRecOn with
  | _ k ih =>
    cases k with
    | zero =>
      intro g d hd hn a fd hf
      have no : ∀ vs H Q E, ¬ spDef K ds 0 g d.f.io vs H Q E := fun vs H Q E h => by
        obtain ⟨_, _, _, _, _, _, _, _, e, _⟩ := h
        simp [evF] at e
      exact ⟨fun vs H Q E h => absurd h (no _ _ _ _), fun A outer s H args us vs Q E _ _ _ _ h => absurd h (no _ _ _ _)⟩
    | succ k => exact fn_step hT hC hB hV k fun j hj => ih j (by omega)
/-- the promise of the law -/
def spLaw (K : PySem.W.Frag) (most : Nat) : Sp := fun vs H Q _ => ∃ (a : Addr) (ns : List Int), vs = [.ref a] ∧ SqL K H a (ns.map V.int) ∧ ns.length ≤ most ∧ (∀ z ∈ ns, Builtin.Int.intBits z ≤ 1048576) ∧ ∀ H', Q (.bl true) H'
theorem law_okV (hT : ∀ d ∈ ds, d.f.vt = none → DefAt K mg d) (hC : ∀ d ∈ ds, d.chk ds = true) (hB : ∀ b ∈ blts, mg b = none) (hV : VirtOk P w K mg base ds) {k g most : Nat} {d : Def} (hd : ds[g]? = some d) (hn : d.f.vt = none) (hio : d.f.io = [])
    (law : ∀ ns : List Int, ns.length ≤ most → (∀ z ∈ ns, Builtin.Int.intBits z ≤ 1048576) → evF (fnsOf ds) k g [.scr ns] = some (.bl true, [])) {a : Addr} {fd : FuncData} (hf : L2.Fun K d.name d.name d.st a fd) : FnOk P w K mg base CX0 k a fd d.ps (spLaw K most) := by
  refine (fn_okV hT hC hB hV k g d hd hn a fd hf).imp fun vs H Q E ⟨ad, ns, ev, sq, hl, hb, q⟩ => ?_
  subst ev
  refine ⟨H, No, [.scr ns], .bl true, [], fun _ _ e => e, .cons (W1 := No) (W2 := No) (.frz (.scr sq)) .nil (fun _ q => q.elim) (fun _ q => q.elim) (fun _ q => q.elim), fun _ q => q.elim, law ns hl hb, fun v F' H' Wr Wo ov _ _ _ _ _ => ?_⟩
  cases (Vw.bl ⟨_, ov⟩)
  exact q H'
theorem law_ok (hT : ∀ d ∈ ds, DefAt K mg d) (hC : ∀ d ∈ ds, d.chk ds = true) (hB : ∀ b ∈ blts, mg b = none) (hZ : ∀ d ∈ ds, d.f.vt = none) {k g most : Nat} {d : Def} (hd : ds[g]? = some d) (hio : d.f.io = [])
    (law : ∀ ns : List Int, ns.length ≤ most → (∀ z ∈ ns, Builtin.Int.intBits z ≤ 1048576) → evF (fnsOf ds) k g [.scr ns] = some (.bl true, [])) {a : Addr} {fd : FuncData} (hf : L2.Fun K d.name d.name d.st a fd) : FnOk P w K mg base CX0 k a fd d.ps (spLaw K most) :=
  law_okV (fun d hd _ => hT d hd) hC hB (virt_none hZ) hd (hZ d (List.mem_of_getElem? hd)) hio law hf
end
end Ev

set_option linter.all false
set_option maxRecDepth 100000
set_option maxHeartbeats 4000000
/-! Ev: the draws -/
namespace Ev
open PySem
def f_law_take : Fn := { n := 6, ps := 2, io := [0], body := [.ifs (.cmp .gt (.sub (.var 0) (.int 0)) (.int 0)) [.asg (.nm 5) (.bin .mod (.bi .int1 [(.sub (.var 0) (.int 0))]) (.var 1)),
    .setIx (.var 0) (.int 0) (.bin .fdiv (.sub (.var 0) (.int 0)) (.var 1)),
    .ret (.var 5)] [],
    .setIx (.var 0) (.int 2) (.bin .add (.sub (.var 0) (.int 2)) (.int 1)),
    .asg (.nm 2) (.bin .mod (.bi .int1 [(.bin .mul (.bin .add (.sub (.var 0) (.int 1)) (.bin .mul (.int 48271) (.sub (.var 0) (.int 2)))) (.bin .add (.int 39373) (.sub (.var 0) (.int 2))))]) (.int 2147483647)),
    .asg (.nm 3) (.bin .add (.bin .mod (.bi .int1 [(.var 2)]) (.int 40009)) (.int 7)),
    .asg (.nm 4) (.bin .mod (.bi .int1 [(.bin .mul (.bin .add (.bin .add (.var 2) (.sub (.var 0) (.int 2))) (.bin .fdiv (.sub (.var 0) (.int 1)) (.int 1000003))) (.var 3))]) (.int 2147483629)),
    .ret (.bin .mod (.bi .int1 [(.bin .fdiv (.bin .mod (.bi .int1 [(.bin .add (.bin .mul (.var 4) (.int 48271)) (.var 2))]) (.int 2147483587)) (.int 64))]) (.var 1))] }
def bx (x0 x1 x2 : Int) : D := .lst true [.int x0, .int x1, .int x2]
/-- the call of a def -/
def runF (C : Ctx) (f : Fn) (ds : List D) : Option (D × List D) := if ds.length = f.ps then match evSs C 100 f.body (startD f ds) with
        | some (.rt d δ) => (outsOf δ f.io 0 f.ps).map fun o => (d, o)
        | some (.nx δ) => (outsOf δ f.io 0 f.ps).map fun o => (.non, o)
        | _ => none
      else none
theorem evF_run {T : List Fn} {k g : Nat} {f : Fn} (h : T[g]? = some f) (ds : List D) (hv : f.vt = none := by rfl) : evF T (k + 1) g ds = runF ⟨evF T k, fun h => ((T[h]?).map (·.io)).getD [], f.io⟩ f ds := by
  simp only [evF, h, hv, runF]
  all_goals rfl
/-- guards made plain -/
theorem ite_tt {α : Type} {b : Bool} {x y : α} (h : b = true) : (if b = true then x else y) = x := if_pos h
theorem take1 {call : Nat → List D → Option (D × List D)} {io : Nat → List Nat} {x0 x1 x2 b : Int} (h0 : 0 < x0) (hb : 0 < b) (hb2 : b < 1073741824) : runF ⟨call, io, [0]⟩ f_law_take [bx x0 x1 x2, .int b] = some (.int (x0 % b), [bx (x0 / b) x1 x2]) := by
  have e0 : decide (0 < x0) = true := decide_eq_true h0
  have e1 : decide (0 < b) = true := decide_eq_true hb
  have e2 : decide (b < 1073741824) = true := decide_eq_true hb2
  simp [runF, f_law_take, bx, startD, evSs, evS, evT, evE, evAs, evV, slot, look, looks, settle, toV, upSlot, D.at, D.upAt, D.fz, fzs, cmpD, binD, biD, ixN, setT, setN, outsOf, flatOwn, flats, D.flat, truD, e0, e1, e2, h0, hb, hb2]
theorem sm {a : Int} (h0 : -18446744073709551616 < a) (h1 : a < 18446744073709551616) : small64 a = true := by
  rw [small64_eq]
  rw [decide_eq_true h0, decide_eq_true h1]
  rfl
def once (x1 y : Int) : Int := (x1 + 48271 * y) * (39373 + y) % 2147483647
def far (x1 y : Int) : Int := once x1 y % 40009 + 7
def twice (x1 y : Int) : Int := (once x1 y + y + x1 / 1000003) * far x1 y % 2147483629
def rnd (x1 y b : Int) : Int := (twice x1 y * 48271 + once x1 y) % 2147483587 / 64 % b
theorem take2 {call : Nat → List D → Option (D × List D)} {io : Nat → List Nat} {x0 x1 x2 b : Int} (h0 : ¬ 0 < x0) (hb : 0 < b) (hy0 : 0 ≤ x2) (hy : x2 < 1000000000000) : runF ⟨call, io, [0]⟩ f_law_take [bx x0 x1 x2, .int b] = some (.int (rnd x1 (x2 + 1) b), [bx x0 x1 (x2 + 1)]) := by
  have e0 : decide (0 < x0) = false := decide_eq_false h0
  have e1 : decide (0 < b) = true := decide_eq_true hb
  have g1 : small64 (39373 + (x2 + 1)) = true := sm (by omega) (by omega)
  have m1 : 0 ≤ once x1 (x2 + 1) % 40009 := Int.emod_nonneg _ (by decide)
  have m2 : once x1 (x2 + 1) % 40009 < 40009 := Int.emod_lt_of_pos _ (by decide)
  have g2 : small64 (far x1 (x2 + 1)) = true := by unfold far; exact sm (by omega) (by omega)
  have g3 : small64 48271 = true := by decide
  have d1 : ∀ y : Int, (x1 + 48271 * y) * (39373 + y) % 2147483647 = once x1 y := fun _ => rfl
  have d2 : ∀ y : Int, once x1 y % 40009 + 7 = far x1 y := fun _ => rfl
  have d3 : ∀ y : Int, (once x1 y + y + x1 / 1000003) * far x1 y % 2147483629 = twice x1 y := fun _ => rfl
  have d4 : ∀ y : Int, (twice x1 y * 48271 + once x1 y) % 2147483587 / 64 % b = rnd x1 y b := fun _ => rfl
  simp [runF, f_law_take, bx, startD, evSs, evS, evT, evE, evAs, evV, slot, look, looks, settle, toV, upSlot, D.at, D.upAt, D.fz, fzs, cmpD, binD, biD, ixN, setT, setN, outsOf, flatOwn, flats, D.flat, truD, e0, e1, h0, hb, g1, g2, g3, d1, d2, d3, d4]
/-- a box of draws, of which at most c were made by its own numbers -/
def Box (c : Int) (d : D) : Prop := ∃ x0 x1 x2, d = bx x0 x1 x2 ∧ 0 ≤ x2 ∧ x2 ≤ c
theorem Box.mono {c e : Int} {d : D} (h : Box c d) (l : c ≤ e) : Box e d := by
  obtain ⟨x0, x1, x2, rfl, h1, h2⟩ := h
  exact ⟨x0, x1, x2, rfl, h1, by omega⟩
theorem take_ok {call : Nat → List D → Option (D × List D)} {io : Nat → List Nat} {d : D} {c b : Int} (h : Box c d) (hc : c < 1000000000000) (hb : 0 < b) (hb2 : b < 1073741824) :
    ∃ r d', runF ⟨call, io, [0]⟩ f_law_take [d, .int b] = some (.int r, [d']) ∧ 0 ≤ r ∧ r < b ∧ Box (c + 1) d' := by
  obtain ⟨x0, x1, x2, rfl, h1, h2⟩ := h
  by_cases h0 : 0 < x0
  · exact ⟨_, _, take1 h0 hb hb2, Int.emod_nonneg _ (by omega), Int.emod_lt_of_pos _ hb, _, _, _, rfl, h1, by omega⟩
  · exact ⟨_, _, take2 h0 hb h1 (by omega), Int.emod_nonneg _ (by omega), Int.emod_lt_of_pos _ hb, _, _, _, rfl, by omega, by omega⟩
theorem at_nil (d : D) : d.at [] = some d := by unfold D.at; rfl
def f_law_of (t : Nat) : Fn := { n := 2, ps := 2, io := [0], body := [.ret (.sub (.var 1) (.call t [(.var 0), (.bi .len [(.var 1)])]))] }
theorem strs_fz : ∀ xs : List Str, fzs (xs.map .str) = true
  | [] => rfl
  | x :: xs => by simp only [List.map_cons, fzs, D.fz, strs_fz xs, Bool.and_self]
theorem ixN_of {n : Nat} {r : Int} (h0 : 0 ≤ r) (h1 : r < n) : ixN n r = some r.toNat := by
  unfold ixN
  rw [if_pos h0, if_pos h1]
theorem of_ok {call : Nat → List D → Option (D × List D)} {io : Nat → List Nat} {t : Nat} (hio : io t = [0]) {d d' : D} {c : Int} (hd : Box c d) {e : Int} (hd' : Box e d') {o : Bool} {xs : List D} {r : Int} {y : D} (h0 : 0 ≤ r) (h1 : r < xs.length) (hy : xs[r.toNat]? = some y) (fy : y.fz = true)
    (hc : call t [d, .int xs.length] = some (.int r, [d'])) : runF ⟨call, io, [0]⟩ (f_law_of t) [d, .lst o xs] = some (y, [d']) := by
  obtain ⟨x0, x1, x2, rfl, _⟩ := hd
  obtain ⟨y0, y1, y2, rfl, _⟩ := hd'
  have e1 := ixN_of h0 h1
  cases o with
  | true => simp [runF, f_law_of, bx, startD, evSs, evS, evE, evAs, slot, look, looks, settle, at_nil, D.fz, fzs, biD, callD, ioOf, valOf, toV, backOf, isAtom, hio, outsOf, flatOwn, flats, D.flat] at hc ⊢; simp [hc, e1, hy, fy, at_nil, look, backOf, isAtom, hio, outsOf, flatOwn, flats, D.flat, slot]
  | false =>
    by_cases f : fzs xs = true
    · simp [runF, f_law_of, bx, startD, evSs, evS, evE, evAs, slot, look, looks, settle, at_nil, D.fz, fzs, biD, callD, ioOf, valOf, toV, backOf, isAtom, hio, outsOf, flatOwn, flats, D.flat, f] at hc ⊢; simp [hc, e1, hy, fy, at_nil, look, backOf, isAtom, hio, outsOf, flatOwn, flats, D.flat, slot]
    · simp [runF, f_law_of, bx, startD, evSs, evS, evE, evAs, slot, look, looks, settle, at_nil, D.fz, fzs, biD, callD, ioOf, valOf, toV, backOf, isAtom, hio, outsOf, flatOwn, flats, D.flat, f] at hc ⊢; simp [hc, e1, hy, fy, at_nil, look, backOf, isAtom, hio, outsOf, flatOwn, flats, D.flat, slot]
def f_law_box : Fn := { n := 3, ps := 2, io := [], body := [.asg (.nm 2) (.ite (.cmp .lt (.var 1) (.bi .len [(.var 0)])) (.sub (.var 0) (.var 1)) (.int 0)),
    .ret (.lst [(.bin .mul (.bi .abs [(.var 2)]) (.bi .int1 [(.cmp .ge (.bi .abs [(.var 2)]) (.bin .pow (.int 10) (.int 18)))])), (.bin .add (.bin .add (.bin .mod (.bi .int1 [(.var 2)]) (.int 2305843009213693951)) (.bin .mul (.int 39373) (.var 1))) (.int 241)), (.int 0)])] }
theorem ints_fz : ∀ cs : List Int, fzs (cs.map .int) = true
  | [] => rfl
  | c :: cs => by simp only [List.map_cons, fzs, D.fz, ints_fz cs, Bool.and_self]
theorem box_ok {call : Nat → List D → Option (D × List D)} {io : Nat → List Nat} {cs : List Int} {k : Nat} {c : Int} (hk : cs[k]? = some c) : ∃ d, runF ⟨call, io, []⟩ f_law_box [.lst false (cs.map .int), .int k] = some (d, []) ∧ Box 0 d := by
  have hl : (k : Int) < ((cs.map D.int).length : Nat) := by
    have := (List.getElem?_eq_some_iff.mp hk).1
    rw [List.length_map]
    omega
  have e1 := ixN_of (Int.natCast_nonneg k) hl
  have hg : (cs.map D.int)[k]? = some (.int c) := by rw [List.getElem?_map, hk]; rfl
  have f := ints_fz cs
  have g3 : small64 39373 = true := by decide
  have g4 : small64 10 = true := by decide
  have e2 : decide ((k : Int) < ((cs.map D.int).length : Nat)) = true := decide_eq_true hl
  simp only [List.length_map, Int.toNat_natCast] at e1 e2
  have hk2 : k < cs.length := (List.getElem?_eq_some_iff.mp hk).1
  have hk3 : cs[k]'hk2 = c := (List.getElem?_eq_some_iff.mp hk).2
  by_cases h : (1000000000000000000 : Int) ≤ (if c < 0 then -c else c)
  · refine ⟨bx ((if c < 0 then -c else c) * 1) (c % 2305843009213693951 + 39373 * k + 241) 0, ?_, _, _, _, rfl, by omega, by omega⟩
    have g5 : small64 1 = true := by decide
    simp [runF, f_law_box, bx, startD, evSs, evS, evE, evT, evAs, evV, slot, look, looks, settle, at_nil, D.fz, fzs, biD, binD, cmpD, toV, toVs, setT, setN, f, e1, hk2, hk, hk3, g3, g4, h, g5, outsOf, truD, cap]
  · refine ⟨bx ((if c < 0 then -c else c) * 0) (c % 2305843009213693951 + 39373 * k + 241) 0, ?_, _, _, _, rfl, by omega, by omega⟩
    have g5 : small64 0 = true := by decide
    simp [runF, f_law_box, bx, startD, evSs, evS, evE, evT, evAs, evV, slot, look, looks, settle, at_nil, D.fz, fzs, biD, binD, cmpD, toV, toVs, setT, setN, f, e1, hk2, hk, hk3, g3, g4, h, g5, outsOf, truD, cap]
end Ev

set_option linter.all false
set_option maxRecDepth 100000
set_option maxHeartbeats 4000000
/-! Ev: the cells of the script -/
namespace Ev
open PySem
def cellBody : List S := [.asg (.nm 5) (.bin .mod (.bi .int1 [(.var 3)]) (.var 1)),
    .setIx (.var 2) (.var 5) (.bin .add (.sub (.var 2) (.var 5)) (.bin .mul (.var 4) (.bin .add (.var 3) (.int 2))))]
def f_law_cells : Fn := { n := 6, ps := 2, io := [], body := [.asg (.nm 2) (.bor [(.bi .list1 [(.slice (.var 0) none (some (.var 1)))]), (.lst [(.int 0)])]),
    .for_ (.tp [3, 4]) .enum [(.slice (.var 0) (some (.var 1)) (some (.int 63)))] cellBody,
    .ret (.var 2)] }
theorem cut1 (ns : List Int) (m : Nat) : cutD (ns.map D.int) none (some (m : Int)) = (ns.take m).map D.int := by
  unfold cutD sIx
  have : ¬ ((m : Int) < 0) := by omega
  simp only [if_neg this, List.length_map, List.drop_zero, Nat.sub_zero]
  rw [← List.map_take]
  congr 1
  rw [show (min (m : Int) (ns.length : Int)).toNat = min m ns.length by omega]
  by_cases h : m ≤ ns.length
  · rw [Nat.min_eq_left h]
  · rw [Nat.min_eq_right (by omega), List.take_length, List.take_of_length_le (by omega)]
theorem cut2 (ns : List Int) (m : Nat) : ∃ rs : List Int, cutD (ns.map D.int) (some (m : Int)) (some 63) = rs.map D.int ∧ rs.length ≤ 63 ∧ (rs ≠ [] → m < ns.length) := by
  unfold cutD sIx
  have : ¬ ((m : Int) < 0) := by omega
  simp only [if_neg this, List.length_map]
  refine ⟨(ns.drop (min (m : Int) (ns.length : Int)).toNat).take ((if (63 : Int) < 0 then max (63 + (ns.length : Int)) 0 else min 63 (ns.length : Int)).toNat - (min (m : Int) (ns.length : Int)).toNat), ?_, ?_, fun h => ?_⟩
  · rw [List.map_take, List.map_drop]
  · rw [List.length_take]
    omega
  · cases Nat.lt_or_ge m ns.length with
    | inl q => exact q
    | inr q =>
      exfalso
      apply h
      rw [List.drop_of_length_le (by omega), List.take_nil]
theorem cell_turn {C : Ctx} (hl : C.lock = []) {ns cs : List Int} {m k : Nat} {c : Int} {a5 : Option D} (hm : 0 < m) (hc : cs.length = m) (hk : k ≤ 63) :
    ∃ (cs' : List Int) (a5' : Option D), cs'.length = m ∧ evSs C 97 cellBody [some (.scr ns), some (.int m), some (.lst true (cs.map .int)), some (.int k), some (.int c), a5] =
      some (.nx [some (.scr ns), some (.int m), some (.lst true (cs'.map .int)), some (.int k), some (.int c), a5']) := by
  obtain ⟨j, em, hj⟩ : ∃ j : Nat, (k : Int) % (m : Int) = (j : Int) ∧ j < cs.length := ⟨k % m, by simp, by rw [hc]; exact Nat.mod_lt _ hm⟩
  obtain ⟨y, hy⟩ : ∃ y, cs[j]? = some y := ⟨_, List.getElem?_eq_getElem hj⟩
  refine ⟨cs.set j (y + c * ((k : Int) + 2)), some (.int j), by rw [List.length_set]; exact hc, ?_⟩
  have e1 := ixN_of (n := cs.length) (Int.natCast_nonneg j) (by omega)
  simp only [Int.toNat_natCast] at e1
  have hk3 : cs[j]'hj = y := (List.getElem?_eq_some_iff.mp hy).2
  have g : small64 ((k : Int) + 2) = true := sm (by omega) (by omega)
  have f := ints_fz cs
  simp [cellBody, evSs, evS, evE, evAs, evV, slot, look, looks, settle, at_nil, D.fz, fzs, biD, binD, toV, upSlot, D.upAt, setT, setN, hl, em, e1, hy, hj, hk3, g, f, hm]
theorem cell_loop {C : Ctx} (hl : C.lock = []) {ns : List Int} {m : Nat} (hm : 0 < m) : ∀ (rs cs : List Int) (k : Nat) (a3 a4 a5 : Option D), cs.length = m → k + rs.length ≤ 63 →
    ∃ (cs' : List Int) (a3' a4' a5' : Option D), cs'.length = m ∧ forL (setT [] (.tp [3, 4])) (evSs C 97 cellBody) (enumD k (rs.map .int)) [some (.scr ns), some (.int m), some (.lst true (cs.map .int)), a3, a4, a5] =
      some (.nx [some (.scr ns), some (.int m), some (.lst true (cs'.map .int)), a3', a4', a5'])
  | [], cs, k, a3, a4, a5, hc, _ => ⟨cs, a3, a4, a5, hc, by simp [enumD, forL]⟩
  | c :: rs, cs, k, a3, a4, a5, hc, hk => by
    simp only [List.length_cons] at hk
    obtain ⟨cs1, b5, h1, h2⟩ := cell_turn (C := C) hl (ns := ns) (c := c) (a5 := a5) hm hc (k := k) (by omega)
    obtain ⟨cs2, d3, d4, d5, h3, h4⟩ := cell_loop (ns := ns) hl hm rs cs1 (k + 1) (some (.int k)) (some (.int c)) b5 h1 (by omega)
    refine ⟨cs2, d3, d4, d5, h3, ?_⟩
    simp [enumD, forL, setT, setNs, setN, fzs, D.fz, h2, h4]
theorem cells_ok {call : Nat → List D → Option (D × List D)} {io : Nat → List Nat} {ns : List Int} {m : Nat} (hm : 0 < m) (hm2 : m ≤ 63) :
    ∃ cs : List Int, 1 ≤ cs.length ∧ cs.length ≤ m ∧ runF ⟨call, io, []⟩ f_law_cells [.scr ns, .int m] = some (.lst true (cs.map .int), []) := by
  have c1 := cut1 ns m
  obtain ⟨rs, c2, lr, ne⟩ := cut2 ns m
  have f1 := ints_fz (ns.take m)
  have f2 := ints_fz rs
  have z2 : frzs (rs.map D.int) = rs.map D.int := by
    have : ∀ l : List Int, frzs (l.map D.int) = l.map D.int := fun l => by
      induction l with
      | nil => rfl
      | cons x l ih => simp only [List.map_cons, frzs, D.frz, ih]
    exact this rs
  by_cases h0 : ns.take m = []
  · have hrs : rs = [] := by
      cases rs with
      | nil => rfl
      | cons r rs =>
        have := ne (by simp)
        have h := congrArg List.length h0
        rw [List.length_take, List.length_nil] at h
        omega
    subst hrs
    refine ⟨[0], by simp, by simp; omega, ?_⟩
    rw [h0] at c1
    simp only [List.map_nil] at c1 c2
    simp [runF, f_law_cells, startD, evSs, evS, evE, evT, evOr, evAs, evV, evIt, slot, look, looks, settle, at_nil, D.fz, fzs, biD, items, slD, partsOf, c1, c2, truD, toV, toVs, setT, setN, itD, itEnum, enumD, forL, D.frz, frzs, outsOf, cap]
  · have ne0 : (List.map D.int (ns.take m)).isEmpty = false := by
      cases h : ns.take m with
      | nil => exact absurd h h0
      | cons _ _ => rfl
    have ln : (ns.take m).length ≤ m := by rw [List.length_take]; omega
    have l1 : 1 ≤ (ns.take m).length := by
      cases h : ns.take m with
      | nil => exact absurd h h0
      | cons _ _ => simp
    have l2 : rs = [] ∨ (ns.take m).length = m := by
      cases rs with
      | nil => exact .inl rfl
      | cons r rs =>
        have := ne (by simp)
        exact .inr (by rw [List.length_take]; omega)
    generalize ns.take m = cs0 at c1 f1 ne0 ln l1 l2 h0
    obtain ⟨cs, a3, a4, a5, h1, h2, h3⟩ : ∃ (cs : List Int) (a3 a4 a5 : Option D), 1 ≤ cs.length ∧ cs.length ≤ m ∧ forL (setT [] (.tp [3, 4])) (evSs ⟨call, io, []⟩ 97 cellBody) (enumD 0 (rs.map .int)) [some (.scr ns), some (.int m), some (.lst true (cs0.map .int)), none, none, none] =
        some (.nx [some (.scr ns), some (.int m), some (.lst true (cs.map .int)), a3, a4, a5]) := by
      rcases l2 with l2 | l2
      · subst l2
        exact ⟨cs0, none, none, none, l1, ln, by simp [enumD, forL]⟩
      · obtain ⟨cs, a3, a4, a5, g1, g2⟩ := cell_loop (C := ⟨call, io, []⟩) (ns := ns) rfl hm rs cs0 0 none none none l2 (by omega)
        exact ⟨cs, a3, a4, a5, by omega, by omega, g2⟩
    refine ⟨cs, h1, h2, ?_⟩
    have f3 := ints_fz cs
    have ne1 : cs0.isEmpty = false := by
      cases cs0 with
      | nil => exact absurd rfl h0
      | cons _ _ => rfl
    simp [runF, f_law_cells, startD, evSs, evS, evE, evT, evOr, evAs, evV, evIt, slot, look, looks, settle, at_nil, D.fz, fzs, biD, items, slD, partsOf, c1, c2, f1, f2, z2, ne0, ne1, h0, truD, toV, toVs, setT, setN, itD, itEnum, D.frz, frzs, outsOf, cap]
    simp [h3, slot, f3, D.fz, outsOf]
end Ev

set_option linter.all false
set_option maxRecDepth 100000
set_option maxHeartbeats 4000000
/-! Ev: the law's own loops -/
namespace Ev
open PySem
/-- a def that ends with True at every box -/
def Right (call : Nat → List D → Option (D × List D)) (ir : Nat) (s lim : Int) : Prop := ∀ d c, Box c d → c ≤ lim → ∃ d', call ir [d] = some (.bl true, [d']) ∧ Box (c + s) d'
def f_law12 (ic ib ir : Nat) (m t : Nat) : Fn := { n := 5, ps := 1, io := [], body := [.asg (.nm 1) (.call ic [(.var 0), (.int m)]),
    .for_ (.nm 2) .range [(.bi .len [(.var 1)])] [.asg (.nm 3) (.call ib [(.var 1), (.var 2)]),
    .ifs (.bnot (.bi .all1 [(.lc (.call ir [(.var 3)]) (.nm 4) .range [(.int t)] [] [4])])) [.ret (.bl false)] []],
    .ret (.bl true)] }
section
variable {call : Nat → List D → Option (D × List D)} {io : Nat → List Nat} {ic ib ir : Nat}
theorem turns_ok (hio : io ir = [0]) {s lim : Int} (hr : Right call ir s lim) (hs : 0 ≤ s) {a0 a1 a2 : Option D} : ∀ (xs acc : List D) (c : Int) (d : D), Box c d → c + s * xs.length ≤ lim → acc.length + xs.length ≤ 1000 →
    ∃ d', lcL (setT [] (.nm 4)) (evIfs ⟨call, io, []⟩ 89 []) (evV ⟨call, io, []⟩ 89 (.call ir [(.var 3)])) [4] xs acc [a0, a1, a2, some d, none] = some (acc ++ xs.map (fun _ => .bl true), [a0, a1, a2, some d', none])
  | [], acc, c, d, _, _, _ => ⟨d, by simp [lcL]⟩
  | x :: xs, acc, c, d, hb, hl, ha => by
    have hl2 : c + s * (xs.length + 1 : Nat) ≤ lim := by simpa using hl
    rw [Int.natCast_succ, Int.mul_add] at hl2
    have h0 : 0 ≤ s * (xs.length : Int) := Int.mul_nonneg hs (by omega)
    obtain ⟨d', h1, h2⟩ := hr d c hb (by omega)
    simp only [List.length_cons] at ha
    obtain ⟨d2, h3⟩ := turns_ok hio hr hs (a0 := a0) (a1 := a1) (a2 := a2) xs (acc ++ [.bl true]) (c + s) d' h2 (by omega) (by simp; omega)
    obtain ⟨x0, x1, x2, rfl, _⟩ := hb
    obtain ⟨y0, y1, y2, rfl, _⟩ := h2
    have la : acc.length < cap := by unfold cap; omega
    refine ⟨d2, ?_⟩
    simp [lcL, setT, setN, evIfs, evV, evE, evAs, slot, settle, bx, D.fz, callD, ioOf, valOf, hio, backOf, isAtom, toV, wipeD] at h1 h3 ⊢
    simp [h1, h3, la, hio, backOf, isAtom, toV, wipeD, lcL, setT, setN, evIfs, evV, evE, evAs, slot, settle, bx, D.fz, callD, ioOf, valOf]
theorem bools_true : ∀ xs : List D, boolsOf (xs.map fun _ => .bl true) = some (xs.map fun _ => true)
  | [] => rfl
  | x :: xs => by simp only [List.map_cons, boolsOf, bools_true xs, Option.map_some]
theorem rd_len : ∀ (n : Nat) (lo st : Int), (rangeD lo st n).length = n
  | 0, _, _ => rfl
  | n + 1, lo, st => by simp only [rangeD, List.length_cons, rd_len n]
theorem ints_frz : ∀ l : List Int, frzs (l.map D.int) = l.map D.int
  | [] => rfl
  | x :: l => by simp only [List.map_cons, frzs, D.frz, ints_frz l]
theorem all_true : ∀ xs : List D, ((xs.map fun _ => true).all id) = true
  | [] => rfl
  | x :: xs => by simp only [List.map_cons, List.all_cons, all_true xs]; rfl
theorem sm62 {t : Nat} (h : t ≤ 1000000) : small62 t = true := by
  rw [small62_eq]
  rw [decide_eq_true (by omega), decide_eq_true (by omega)]
  rfl
theorem turnA {cs : List Int} {ns : List Int} {k : Nat} {o : Bool} {x0 x1 x2 : Int} {a3 : Option D} (hib : io ib = [])
    (h1 : call ib [.lst false (cs.map .int), .int k] = some (bx x0 x1 x2, [])) : evS ⟨call, io, []⟩ 96 (.asg (.nm 3) (.call ib [(.var 1), (.var 2)])) [some (.scr ns), some (.lst o (cs.map .int)), some (.int k), a3, none] = some (.nx [some (.scr ns), some (.lst false (cs.map .int)), some (.int k), some (bx x0 x1 x2), none]) := by
  have f := ints_fz cs
  have z := ints_frz cs
  cases o <;> simp [evS, evV, evE, evAs, slot, look, settle, at_nil, D.upAt, upSlot, setT, setN, callD, ioOf, valOf, toV, hib, backOf, isAtom, D.fz, D.frz, f, z, h1, bx]
theorem evE_lc (C : Ctx) (n : Nat) (elt : E) (tg : Tg) (k : ItK) (its ifs : List E) (own : List Nat) (δ : Dl) {xs ys : List D} {δ1 δ2 : Dl} (h1 : evIt C n k its δ = some (xs, δ1)) (h2 : ownFz δ1 own = true) (h3 : lcL (setT C.lock tg) (evIfs C n ifs) (evV C n elt) own xs [] (wipeD δ1 own) = some (ys, δ2)) :
    evE C (n + 1) (.lc elt tg k its ifs own) δ = some (.tmp (.lst true ys), restD δ1 δ2 own) := by
  simp only [evE, h1, h2, h3, if_true]
theorem evIt_eq (C : Ctx) (n : Nat) (k : ItK) (es : List E) (δ : Dl) {as : List A} {ds xs : List D} {δ1 δ2 : Dl} (h1 : evAs C n es δ = some (as, δ1)) (h2 : toVs δ1 as = some (ds, δ2)) (h3 : itD k (frzs ds) = some xs) : evIt C (n + 1) k es δ = some (xs, δ2) := by
  simp only [evIt, h1, h2, h3]
theorem rangeOf1 {t : Nat} (h : t ≤ 1000000) : rangeOf [.int t] = some (rangeD 0 1 t) := by
  have e : rangeOf [.int t] = if small62 t = true then some (rangeD 0 1 (t : Int).toNat) else none := by unfold rangeOf; rfl
  rw [e, if_pos (sm62 h), Int.toNat_natCast]
theorem itD_range (ds : List D) : itD .range ds = rangeOf ds := rfl
theorem frz_int (i : Int) : frzs [D.int i] = [D.int i] := rfl
theorem itR (C : Ctx) (n : Nat) (es : List E) (δ : Dl) {t : Nat} (h : t ≤ 1000000) (h1 : evAs C n es δ = some ([.tmp (.int t)], δ)) : evIt C (n + 1) .range es δ = some (rangeD 0 1 t, δ) :=
  evIt_eq C n .range es δ h1 (ds := [.int t]) (δ2 := δ) (by simp only [toVs, toV]) (by rw [frz_int, itD_range]; exact rangeOf1 h)
theorem turnB {n t : Nat} (ht2 : t ≤ 100) {cs : List Int} {ns : List Int} {k : Nat} {d d2 : D}
    (h3 : lcL (setT [] (.nm 4)) (evIfs ⟨call, io, []⟩ (n + 3) []) (evV ⟨call, io, []⟩ (n + 3) (.call ir [(.var 3)])) [4] (rangeD 0 1 t) [] [some (.scr ns), some (.lst false (cs.map .int)), some (.int k), some d, none] = some ((rangeD 0 1 t).map (fun _ => .bl true), [some (.scr ns), some (.lst false (cs.map .int)), some (.int k), some d2, none])) :
    evE ⟨call, io, []⟩ (n + 4) (.lc (.call ir [(.var 3)]) (.nm 4) .range [(.int t)] [] [4]) [some (.scr ns), some (.lst false (cs.map .int)), some (.int k), some d, none] = some (.tmp (.lst true ((rangeD 0 1 t).map (fun _ => .bl true))), [some (.scr ns), some (.lst false (cs.map .int)), some (.int k), some d2, none]) :=
  evE_lc ⟨call, io, []⟩ (n + 3) _ _ _ _ _ _ _ (itR ⟨call, io, []⟩ (n + 2) [(.int t)] [some (.scr ns), some (.lst false (cs.map .int)), some (.int k), some d, none] (t := t) (by omega) (by simp only [evAs, evE, settle])) rfl h3
theorem turnC {n t : Nat} {δ δ2 : Dl} {e : E} (h : evE ⟨call, io, []⟩ (n + 1) e δ = some (.tmp (.lst true ((rangeD 0 1 t).map (fun _ => .bl true))), δ2)) : evT ⟨call, io, []⟩ (n + 5) (.bnot (.bi .all1 [e])) δ = some (false, δ2) := by
  have hb := bools_true (rangeD 0 1 t)
  have ha := all_true (rangeD 0 1 t)
  have a1 : evAs ⟨call, io, []⟩ (n + 2) [e] δ = some ([.tmp (.lst true ((rangeD 0 1 t).map (fun _ => .bl true)))], δ2) := by simp only [evAs, h, settle]
  have a2 : evE ⟨call, io, []⟩ (n + 3) (.bi .all1 [e]) δ = some (.tmp (.bl true), δ2) := by simp only [evE, a1, looks, look, biD, hb, ha]
  have a3 : evT ⟨call, io, []⟩ (n + 4) (.bi .all1 [e]) δ = some (true, δ2) := by simp only [evT, a2, look, truD]
  have a4 : evT ⟨call, io, []⟩ (n + 5) (.bnot (.bi .all1 [e])) δ = match evT ⟨call, io, []⟩ (n + 4) (.bi .all1 [e]) δ with
      | some (b, δ1) => some (!b, δ1)
      | none => none := rfl
  rw [a4, a3]
  rfl
theorem evSs_nx (C : Ctx) (n : Nat) (s : S) (ss : List S) (δ : Dl) {δ1 : Dl} (h : evS C n s δ = some (.nx δ1)) : evSs C (n + 1) (s :: ss) δ = evSs C n ss δ1 := by simp only [evSs, h]
theorem evS_if0 (C : Ctx) (n : Nat) (c : E) (a : List S) (δ : Dl) {δ1 : Dl} (hn : True) (h : evT C (n + 1) c δ = some (false, δ1)) : evS C (n + 2) (.ifs c a []) δ = some (.nx δ1) := by simp only [evS, h, evSs]
theorem turn12 {t : Nat} (hib : io ib = []) (ht2 : t ≤ 100) {cs : List Int} {ns : List Int} {k : Nat} {o : Bool} {x0 x1 x2 : Int} {d2 : D} {a3 : Option D}
    (h1 : call ib [.lst false (cs.map .int), .int k] = some (bx x0 x1 x2, []))
    (h3 : lcL (setT [] (.nm 4)) (evIfs ⟨call, io, []⟩ 89 []) (evV ⟨call, io, []⟩ 89 (.call ir [(.var 3)])) [4] (rangeD 0 1 t) [] [some (.scr ns), some (.lst false (cs.map .int)), some (.int k), some (bx x0 x1 x2), none] = some ((rangeD 0 1 t).map (fun _ => .bl true), [some (.scr ns), some (.lst false (cs.map .int)), some (.int k), some d2, none])) :
    evSs ⟨call, io, []⟩ 97 [.asg (.nm 3) (.call ib [(.var 1), (.var 2)]),
    .ifs (.bnot (.bi .all1 [(.lc (.call ir [(.var 3)]) (.nm 4) .range [(.int t)] [] [4])])) [.ret (.bl false)] []] [some (.scr ns), some (.lst o (cs.map .int)), some (.int k), a3, none] =
      some (.nx [some (.scr ns), some (.lst false (cs.map .int)), some (.int k), some d2, none]) := by
  have e1 := turnA (o := o) (ns := ns) (a3 := a3) hib h1
  have e2 : evT ⟨call, io, []⟩ 94 (.bnot (.bi .all1 [(.lc (.call ir [(.var 3)]) (.nm 4) .range [(.int t)] [] [4])])) [some (.scr ns), some (.lst false (cs.map .int)), some (.int k), some (bx x0 x1 x2), none] = some (false, [some (.scr ns), some (.lst false (cs.map .int)), some (.int k), some d2, none]) := turnC (n := 89) (turnB (n := 86) ht2 h3)
  refine (evSs_nx _ 96 _ _ _ e1).trans ((evSs_nx _ 95 _ _ _ (evS_if0 _ 93 _ _ _ trivial e2)).trans rfl)
theorem forL_nx (set : D → Dl → Option Dl) (body : Dl → Option Fl) (x : D) (xs : List D) (δ : Dl) {δ1 δ2 : Dl} (h1 : set x δ = some δ1) (h2 : body δ1 = some (.nx δ2)) : forL set body (x :: xs) δ = forL set body xs δ2 := by simp only [forL, h1, h2]
theorem law12_loop {t : Nat} (hio : io ir = [0]) (hib : io ib = []) {s lim : Int} (hr : Right call ir s lim) (hs : 0 ≤ s) (ht : s * t ≤ lim) (ht2 : t ≤ 100) {cs : List Int} {ns : List Int}
    (hbox : ∀ (k : Nat) (c : Int), cs[k]? = some c → ∃ d, call ib [.lst false (cs.map .int), .int k] = some (d, []) ∧ Box 0 d) :
    ∀ (n k : Nat) (o : Bool) (a2 a3 : Option D), k + n ≤ cs.length → ∃ o' a2' a3', forL (setT [] (.nm 2)) (evSs ⟨call, io, []⟩ 97 [.asg (.nm 3) (.call ib [(.var 1), (.var 2)]),
    .ifs (.bnot (.bi .all1 [(.lc (.call ir [(.var 3)]) (.nm 4) .range [(.int t)] [] [4])])) [.ret (.bl false)] []]) (rangeD k 1 n) [some (.scr ns), some (.lst o (cs.map .int)), a2, a3, none] =
      some (.nx [some (.scr ns), some (.lst o' (cs.map .int)), a2', a3', none])
  | 0, k, o, a2, a3, _ => ⟨o, a2, a3, by simp [rangeD, forL]⟩
  | n + 1, k, o, a2, a3, hk => by
    obtain ⟨c, hc⟩ : ∃ c, cs[k]? = some c := ⟨_, List.getElem?_eq_getElem (by omega)⟩
    obtain ⟨d, h1, h2⟩ := hbox k c hc
    have hlt : (0 : Int) + s * ((rangeD 0 1 t).length : Nat) ≤ lim := by rw [rd_len]; omega
    obtain ⟨d2, h3⟩ := turns_ok hio hr hs (a0 := some (.scr ns)) (a1 := some (.lst false (cs.map .int))) (a2 := some (.int k)) (rangeD 0 1 t) [] 0 d h2 hlt (by rw [rd_len]; simp; omega)
    obtain ⟨x0, x1, x2, rfl, _⟩ := h2
    obtain ⟨o', a2', a3', h4⟩ := law12_loop hio hib hr hs ht ht2 (ns := ns) hbox n (k + 1) false (some (.int k)) (some d2) (by omega)
    refine ⟨o', a2', a3', ?_⟩
    have e := turn12 (ir := ir) (o := o) (a3 := a3) hib ht2 h1 (by simpa using h3)
    have e4 : ((k : Int) + 1) = ((k + 1 : Nat) : Int) := by omega
    rw [← e4] at h4
    exact (forL_nx (setT [] (.nm 2)) _ (.int k) (rangeD ((k : Int) + 1) 1 n) _ (δ1 := [some (.scr ns), some (.lst o (cs.map .int)), some (.int k), a3, none]) (by simp [setT, setN]) e).trans h4
theorem evS_for (C : Ctx) (n : Nat) (tg : Tg) (k : ItK) (its : List E) (body : List S) (δ : Dl) {xs : List D} {δ1 : Dl} {r : Option Fl} (h1 : evIt C n k its δ = some (xs, δ1)) (h2 : forL (setT C.lock tg) (evSs C n body) xs δ1 = r) : evS C (n + 1) (.for_ tg k its body) δ = r := by
  simp only [evS, h1]
  exact h2
theorem law12_ok {m t : Nat} (hio : io ir = [0]) (hib : io ib = []) (hic : io ic = []) {s lim : Int} (hr : Right call ir s lim) (hs : 0 ≤ s) (ht : s * t ≤ lim) (ht2 : t ≤ 100) (hm : m ≤ 63)
    (hbox : ∀ (cs : List Int) (k : Nat) (c : Int), cs[k]? = some c → ∃ d, call ib [.lst false (cs.map .int), .int k] = some (d, []) ∧ Box 0 d)
    (hcells : ∀ ns : List Int, ∃ cs : List Int, 1 ≤ cs.length ∧ cs.length ≤ m ∧ call ic [.scr ns, .int m] = some (.lst true (cs.map .int), [])) (ns : List Int) :
    runF ⟨call, io, []⟩ (f_law12 ic ib ir m t) [.scr ns] = some (.bl true, []) := by
  obtain ⟨cs, l1, l2, h1⟩ := hcells ns
  obtain ⟨o', a2', a3', h2⟩ := law12_loop hio hib hr hs ht ht2 (ns := ns) (hbox cs) cs.length 0 true none none (by omega)
  have f := ints_fz cs
  have e1 : evS ⟨call, io, []⟩ 99 (.asg (.nm 1) (.call ic [(.var 0), (.int m)])) [some (.scr ns), none, none, none, none] = some (.nx [some (.scr ns), some (.lst true (cs.map .int)), none, none, none]) := by
    simp [evS, evV, evE, evAs, slot, look, settle, setT, setN, callD, ioOf, valOf, toV, hic, backOf, isAtom, D.fz, h1]
  have e2 : evIt ⟨call, io, []⟩ 97 .range [(.bi .len [(.var 1)])] [some (.scr ns), some (.lst true (cs.map .int)), none, none, none] = some (rangeD 0 1 cs.length, [some (.scr ns), some (.lst true (cs.map .int)), none, none, none]) := by
    refine itR _ 96 _ _ (t := cs.length) (by omega) ?_
    have e0 : evE ⟨call, io, []⟩ 95 (.bi .len [(.var 1)]) [some (.scr ns), some (.lst true (cs.map .int)), none, none, none] = some (.tmp (.int cs.length), [some (.scr ns), some (.lst true (cs.map .int)), none, none, none]) := by
      simp [evE, evAs, slot, look, looks, settle, at_nil, D.fz, biD]
    simp only [evAs, e0, settle]
  have h2' := h2
  simp only [Int.natCast_zero] at h2'
  have e3 : evS ⟨call, io, []⟩ 98 (.for_ (.nm 2) .range [(.bi .len [(.var 1)])] [.asg (.nm 3) (.call ib [(.var 1), (.var 2)]),
    .ifs (.bnot (.bi .all1 [(.lc (.call ir [(.var 3)]) (.nm 4) .range [(.int t)] [] [4])])) [.ret (.bl false)] []]) [some (.scr ns), some (.lst true (cs.map .int)), none, none, none] = some (.nx [some (.scr ns), some (.lst o' (cs.map .int)), a2', a3', none]) := by
    exact evS_for _ 97 _ _ _ _ _ e2 h2'
  have e4 : evSs ⟨call, io, []⟩ 98 [.ret (.bl true)] [some (.scr ns), some (.lst o' (cs.map .int)), a2', a3', none] = some (.rt (.bl true) [some (.scr ns), some (.lst o' (cs.map .int)), a2', a3', none]) := rfl
  have e5 : evSs ⟨call, io, []⟩ 100 (f_law12 ic ib ir m t).body [some (.scr ns), none, none, none, none] = some (.rt (.bl true) [some (.scr ns), some (.lst o' (cs.map .int)), a2', a3', none]) :=
    (evSs_nx _ 99 _ _ _ e1).trans ((evSs_nx _ 98 _ _ _ e3).trans e4)
  unfold runF
  rw [if_pos (show [D.scr ns].length = (f_law12 ic ib ir m t).ps from rfl), show startD (f_law12 ic ib ir m t) [.scr ns] = [some (.scr ns), none, none, none, none] from rfl, e5]
  rfl
end
end Ev

set_option linter.all false
set_option maxRecDepth 100000
/-! EvX: the evaluator's equations, one by one -/
namespace Ev
open PySem
theorem eqOf {α : Sort _} {a b : α} (h : a = b) : a = b := h
@[simp] theorem qevE_non (C : Ctx) (n : Nat) (δ : Dl) : evE C (n + 1) .non δ = (some (.tmp .non, δ)) := eqOf rfl
@[simp] theorem qevE_bl (C : Ctx) (n : Nat) {b} (δ : Dl) : evE C (n + 1) (.bl b) δ = (some (.tmp (.bl b), δ)) := eqOf rfl
@[simp] theorem qevE_int (C : Ctx) (n : Nat) {i} (δ : Dl) : evE C (n + 1) (.int i) δ = (some (.tmp (.int i), δ)) := eqOf rfl
@[simp] theorem qevE_str (C : Ctx) (n : Nat) {s} (δ : Dl) : evE C (n + 1) (.str s) δ = (some (.tmp (.str s), δ)) := eqOf rfl
@[simp] theorem qevE_con (C : Ctx) (n : Nat) {k} (δ : Dl) : evE C (n + 1) (.con k) δ = (some (.tmp k.toD, δ)) := eqOf rfl
@[simp] theorem qevE_var (C : Ctx) (n : Nat) {i} (δ : Dl) : evE C (n + 1) (.var i) δ = (match slot δ i with
      | some d => if d.fz then some (.tmp d, δ) else some (.bor i [], δ)
      | none => none) := eqOf rfl
@[simp] theorem qevE_bin (C : Ctx) (n : Nat) {op} {a} {b} (δ : Dl) : evE C (n + 1) (.bin op a b) δ = (match evAs C n [a, b] δ with
      | some (as, δ1) => match looks δ1 as with
        | some [x, y] => match binD op x y with
          | some d => some (.tmp d, δ1)
          | none => match toVs δ1 as with
            | some ([x, y], δ2) => match binD op x.frz y.frz with
              | some d => some (.tmp d, δ2)
              | none => none
            | _ => none
        | _ => none
      | none => none) := eqOf rfl
@[simp] theorem qevE_neg (C : Ctx) (n : Nat) {a} (δ : Dl) : evE C (n + 1) (.neg a) δ = (match evE C n a δ with
      | some (.tmp (.int i), δ1) => some (.tmp (.int (-i)), δ1)
      | _ => none) := eqOf rfl
@[simp] theorem qevE_cmp (C : Ctx) (n : Nat) {op} {a} {b} (δ : Dl) : evE C (n + 1) (.cmp op a b) δ = (match evAs C n [a, b] δ with
      | some (as, δ1) => match looks δ1 as with
        | some [x, y] => match cmpD op x y with
          | some t => some (.tmp (.bl t), δ1)
          | none => none
        | _ => none
      | none => none) := eqOf rfl
@[simp] theorem qevE_chain (C : Ctx) (n : Nat) {o1} {o2} {a} {b} {c} (δ : Dl) : evE C (n + 1) (.chain o1 o2 a b c) δ = (match evAs C n [a, b] δ with
      | some ([.tmp x, .tmp y], δ1) => match cmpD o1 x y with
        | some false => some (.tmp (.bl false), δ1)
        | some true => match evE C n c δ1 with
          | some (.tmp z, δ2) => match cmpD o2 y z with
            | some t => some (.tmp (.bl t), δ2)
            | none => none
          | _ => none
        | none => none
      | _ => none) := eqOf rfl
@[simp] theorem qevE_band (C : Ctx) (n : Nat) {es} (δ : Dl) : evE C (n + 1) (.band es) δ = (evAnd C n es δ) := eqOf rfl
@[simp] theorem qevE_bor (C : Ctx) (n : Nat) {es} (δ : Dl) : evE C (n + 1) (.bor es) δ = (evOr C n es δ) := eqOf rfl
@[simp] theorem qevE_bnot (C : Ctx) (n : Nat) {a} (δ : Dl) : evE C (n + 1) (.bnot a) δ = (match evE C n a δ with
      | some (x, δ1) => match look δ1 x with
        | some d => match truD d with
          | some b => some (.tmp (.bl (!b)), δ1)
          | none => none
        | none => none
      | none => none) := eqOf rfl
@[simp] theorem qevE_ite (C : Ctx) (n : Nat) {c} {a} {b} (δ : Dl) : evE C (n + 1) (.ite c a b) δ = (match evT C n c δ with
      | some (true, δ1) => evE C n a δ1
      | some (false, δ1) => evE C n b δ1
      | none => none) := eqOf rfl
@[simp] theorem qevE_tup (C : Ctx) (n : Nat) {es} (δ : Dl) : evE C (n + 1) (.tup es) δ = (match evAs C n es δ with
      | some (as, δ1) => match toVs δ1 as with
        | some (ds, δ2) => if decide (ds.length ≤ cap) then some (.tmp (.tup (frzs ds)), δ2) else none
        | none => none
      | none => none) := eqOf rfl
@[simp] theorem qevE_lst (C : Ctx) (n : Nat) {es} (δ : Dl) : evE C (n + 1) (.lst es) δ = (match evAs C n es δ with
      | some (as, δ1) => match toVs δ1 as with
        | some (ds, δ2) => if decide (ds.length ≤ cap) then some (.tmp (.lst true ds), δ2) else none
        | none => none
      | none => none) := eqOf rfl
@[simp] theorem qevE_disS (C : Ctx) (n : Nat) {l} {pre} {st} {post} (δ : Dl) : evE C (n + 1) (.disS l pre st post) δ = (match evVs C n pre δ with
      | some (ds, δ1) => match evV C n st δ1 with
        | some (d, δ2) => match items d.frz with
          | some xs => match evVs C n post δ2 with
            | some (bs, δ3) => if decide (ds.length + xs.length + bs.length ≤ cap) then some (.tmp (disD l (frzs ds ++ xs ++ frzs bs)), δ3) else none
            | none => none
          | none => none
        | none => none
      | none => none) := eqOf rfl
@[simp] theorem qevE_pur (C : Ctx) (n : Nat) {e} (δ : Dl) : evE C (n + 1) (.pur e) δ = (match evE C n e (frzA δ) with
      | some (.tmp d, _) => if isAtom d then some (.tmp d, δ) else none
      | _ => none) := eqOf rfl
@[simp] theorem qevE_sub (C : Ctx) (n : Nat) {a} {i} (δ : Dl) : evE C (n + 1) (.sub a i) δ = (match evAs C n [a, i] δ with
      | some ([x, .tmp (.int k)], δ1) => match look δ1 x with
        | some d => match d with
          | .lst _ xs => match ixN xs.length k with
            | some j => match xs[j]? with
              | some y => if y.fz then some (.tmp y, δ1) else match x with
                | .bor s p => some (.bor s (p ++ [j]), δ1)
                | .tmp _ => none
              | none => none
            | none => none
          | .tup xs => match ixN xs.length k with
            | some j => match xs[j]? with
              | some y => some (.tmp y, δ1)
              | none => none
            | none => none
          | _ => none
        | none => none
      | _ => none) := eqOf rfl
@[simp] theorem qevE_slice (C : Ctx) (n : Nat) {a} {lo} {hi} (δ : Dl) : evE C (n + 1) (.slice a lo hi) δ = (match evAs C n (a :: (lo.toList ++ hi.toList)) δ with
      | some (x :: as, δ1) => match look δ1 x, partsOf lo.isSome hi.isSome as with
        | some d, some (l, h) => match slD d l h with
          | some r => some (.tmp r, δ1)
          | none => match toVs δ1 (x :: as) with
            | some (d :: _, δ2) => match slD d.frz l h with
              | some r => some (.tmp r, δ2)
              | none => none
            | _ => none
        | _, _ => none
      | _ => none) := eqOf rfl
@[simp] theorem qevE_rev (C : Ctx) (n : Nat) {a} (δ : Dl) : evE C (n + 1) (.rev a) δ = (match evE C n a δ with
      | some (x, δ1) => match look δ1 x with
        | some d => match revD d with
          | some r => some (.tmp r, δ1)
          | none => none
        | none => none
      | none => none) := eqOf rfl
@[simp] theorem qevE_call (C : Ctx) (n : Nat) {f} {es} (δ : Dl) : evE C (n + 1) (.call f es) δ = (match evAs C n es δ with
      | some (as, δ1) => callD C f as δ1
      | none => none) := eqOf rfl
@[simp] theorem qevE_callK (C : Ctx) (n : Nat) {f} {es} {perm} (δ : Dl) : evE C (n + 1) (.callK f es perm) δ = (match evAs C n es δ with
      | some (as, δ1) => match permD perm as with
        | some as => callD C f as δ1
        | none => none
      | none => none) := eqOf rfl
@[simp] theorem qevE_bi (C : Ctx) (n : Nat) {b} {es} (δ : Dl) : evE C (n + 1) (.bi b es) δ = (match evAs C n es δ with
      | some (as, δ1) => match looks δ1 as with
        | some ds => match biD b ds with
          | some d => some (.tmp d, δ1)
          | none => none
        | none => none
      | none => none) := eqOf rfl
@[simp] theorem qevE_isi (C : Ctx) (n : Nat) {a} {ts} (δ : Dl) : evE C (n + 1) (.isi a ts) δ = (match evE C n a δ with
      | some (x, δ1) => match look δ1 x with
        | some d => some (.tmp (.bl (ts.any (isTy d))), δ1)
        | none => none
      | none => none) := eqOf rfl
@[simp] theorem qevE_lc (C : Ctx) (n : Nat) {elt} {tg} {k} {its} {ifs} {own} (δ : Dl) : evE C (n + 1) (.lc elt tg k its ifs own) δ = (match evIt C n k its δ with
      | some (xs, δ1) => if ownFz δ1 own then match lcL (setT C.lock tg) (evIfs C n ifs) (evV C n elt) own xs [] (wipeD δ1 own) with
          | some (ys, δ2) => some (.tmp (.lst true ys), restD δ1 δ2 own)
          | none => none
        else none
      | none => none) := eqOf rfl
@[simp] theorem qevE_lc2 (C : Ctx) (n : Nat) {elt} {tg} {k} {its} {tg2} {k2} {its2} {own} {own2} (δ : Dl) : evE C (n + 1) (.lc2 elt tg k its tg2 k2 its2 own own2) δ = (match evIt C n k its δ with
      | some (xs, δ1) => if ownFz δ1 own then match lc2L (setT C.lock tg) (evIt C n k2 its2) (lcL (setT C.lock tg2) (evIfs C n []) (evV C n elt) own2) own own2 xs [] (wipeD δ1 own) with
          | some (ys, δ2) => some (.tmp (.lst true ys), restD δ1 δ2 own)
          | none => none
        else none
      | none => none) := eqOf rfl
@[simp] theorem qevIfs_1 (C : Ctx) {n} {δ} : evIfs C (n + 1) [] δ = (some (true, δ)) := eqOf rfl
@[simp] theorem qevIfs_2 (C : Ctx) {n} {c} {δ} : evIfs C (n + 1) [c] δ = (evT C n c δ) := eqOf rfl
@[simp] theorem qevIfs_3 (C : Ctx) {n} {w1} {w2} {w3} {w4} : evIfs C (n + 1) (w1 :: w2 :: w3) w4 = (none) := eqOf rfl
@[simp] theorem qevV_1 (C : Ctx) {n} {e} {δ} : evV C (n + 1) e δ = (match evE C n e δ with
    | some (a, δ1) => toV δ1 a
    | none => none) := eqOf rfl
@[simp] theorem qevVs_1 (C : Ctx) {n} {es} {δ} : evVs C (n + 1) es δ = (match evAs C n es δ with
    | some (as, δ1) => toVs δ1 as
    | none => none) := eqOf rfl
@[simp] theorem qevAs_1 (C : Ctx) {n} {δ} : evAs C (n + 1) [] δ = (some ([], δ)) := eqOf rfl
@[simp] theorem qevAs_2 (C : Ctx) {n} {e} {es} {δ} : evAs C (n + 1) (e :: es) δ = (match evE C n e δ with
    | some (a, δ1) => match settle es δ1 a with
      | some (a, δ2) => match evAs C n es δ2 with
        | some (as, δ3) => some (a :: as, δ3)
        | none => none
      | none => none
    | none => none) := eqOf rfl
@[simp] theorem qevAnd_1 (C : Ctx) {n} {w1} : evAnd C (n + 1) [] w1 = (none) := eqOf rfl
@[simp] theorem qevAnd_2 (C : Ctx) {n} {e} {δ} : evAnd C (n + 1) [e] δ = (evE C n e δ) := eqOf rfl
@[simp] theorem qevAnd_3 (C : Ctx) {e2} {n} {e} {es} {δ} : evAnd C (n + 1) (e :: e2 :: es) δ = (match evE C n e δ with
    | some (a, δ1) => match look δ1 a with
      | some d => match truD d with
        | some true => evAnd C n (e2 :: es) δ1
        | some false => some (a, δ1)
        | none => none
      | none => none
    | none => none) := eqOf rfl
@[simp] theorem qevOr_1 (C : Ctx) {n} {w1} : evOr C (n + 1) [] w1 = (none) := eqOf rfl
@[simp] theorem qevOr_2 (C : Ctx) {n} {e} {δ} : evOr C (n + 1) [e] δ = (evE C n e δ) := eqOf rfl
@[simp] theorem qevOr_3 (C : Ctx) {e2} {n} {e} {es} {δ} : evOr C (n + 1) (e :: e2 :: es) δ = (match evE C n e δ with
    | some (a, δ1) => match look δ1 a with
      | some d => match truD d with
        | some false => evOr C n (e2 :: es) δ1
        | some true => some (a, δ1)
        | none => none
      | none => none
    | none => none) := eqOf rfl
@[simp] theorem qevT_band (C : Ctx) (n : Nat) {es} (δ : Dl) : evT C (n + 1) (.band es) δ = (evTAnd C n es δ) := eqOf rfl
@[simp] theorem qevT_bor (C : Ctx) (n : Nat) {es} (δ : Dl) : evT C (n + 1) (.bor es) δ = (evTOr C n es δ) := eqOf rfl
@[simp] theorem qevT_bnot (C : Ctx) (n : Nat) {a} (δ : Dl) : evT C (n + 1) (.bnot a) δ = (match evT C n a δ with
      | some (b, δ1) => some (!b, δ1)
      | none => none) := eqOf rfl
@[simp] theorem qevTAnd_1 (C : Ctx) {n} {w1} : evTAnd C (n + 1) [] w1 = (none) := eqOf rfl
@[simp] theorem qevTAnd_2 (C : Ctx) {n} {e} {δ} : evTAnd C (n + 1) [e] δ = (evT C n e δ) := eqOf rfl
@[simp] theorem qevTAnd_3 (C : Ctx) {e2} {n} {e} {es} {δ} : evTAnd C (n + 1) (e :: e2 :: es) δ = (match evT C n e δ with
    | some (true, δ1) => evTAnd C n (e2 :: es) δ1
    | some (false, δ1) => some (false, δ1)
    | none => none) := eqOf rfl
@[simp] theorem qevTOr_1 (C : Ctx) {n} {w1} : evTOr C (n + 1) [] w1 = (none) := eqOf rfl
@[simp] theorem qevTOr_2 (C : Ctx) {n} {e} {δ} : evTOr C (n + 1) [e] δ = (evT C n e δ) := eqOf rfl
@[simp] theorem qevTOr_3 (C : Ctx) {e2} {n} {e} {es} {δ} : evTOr C (n + 1) (e :: e2 :: es) δ = (match evT C n e δ with
    | some (false, δ1) => evTOr C n (e2 :: es) δ1
    | some (true, δ1) => some (true, δ1)
    | none => none) := eqOf rfl
@[simp] theorem qevIt_1 (C : Ctx) {n} {k} {es} {δ} : evIt C (n + 1) k es δ = (match evAs C n es δ with
    | some (as, δ1) => match toVs δ1 as with
      | some (ds, δ2) => match itD k (frzs ds) with
        | some xs => some (xs, δ2)
        | none => none
      | none => none
    | none => none) := eqOf rfl
@[simp] theorem qevS_expr (C : Ctx) (n : Nat) {e} (δ : Dl) : evS C (n + 1) (.expr e) δ = (match evE C n e δ with
      | some (_, δ1) => some (.nx δ1)
      | none => none) := eqOf rfl
@[simp] theorem qevS_ret (C : Ctx) (n : Nat) {e} (δ : Dl) : evS C (n + 1) (.ret e) δ = (match evE C n e δ with
      | some (.tmp d, δ1) => some (.rt d δ1)
      | some (.bor i [], δ1) => match slot δ1 i with
        | some d => if C.lock.contains i then none else some (.rt d (δ1.set i none))
        | none => none
      | some (.bor i p, δ1) => match toV δ1 (.bor i p) with
        | some (d, δ2) => some (.rt d δ2)
        | none => none
      | none => none) := eqOf rfl
@[simp] theorem qevS_retN (C : Ctx) (n : Nat) (δ : Dl) : evS C (n + 1) .retN δ = (some (.rt .non δ)) := eqOf rfl
@[simp] theorem qevS_asg (C : Ctx) (n : Nat) {t} {e} (δ : Dl) : evS C (n + 1) (.asg t e) δ = (match evV C n e δ with
      | some (d, δ1) => match setT C.lock t d δ1 with
        | some δ2 => some (.nx δ2)
        | none => none
      | none => none) := eqOf rfl
@[simp] theorem qevS_par (C : Ctx) (n : Nat) {is} {es} (δ : Dl) : evS C (n + 1) (.par is es) δ = (match evAs C n es δ with
      | some (as, δ1) => match toVs δ1 as with
        | some (ds, δ2) => match setNs C.lock is ds δ2 with
          | some δ3 => some (.nx δ3)
          | none => none
        | none => none
      | none => none) := eqOf rfl
@[simp] theorem qevS_setIx (C : Ctx) (n : Nat) {o} {i} {e} (δ : Dl) : evS C (n + 1) (.setIx o i e) δ = (match evAs C n [e, o, i] δ with
      | some ([v, .bor s p, .tmp (.int k)], δ1) => match toV δ1 v with
        | some (d, δ2) => match upSlot δ2 s p (fun x => match x with
            | .lst true xs => match ixN xs.length k with
              | some j => some (.lst true (xs.set j d))
              | none => none
            | _ => none) with
          | some δ3 => some (.nx δ3)
          | none => none
        | none => none
      | _ => none) := eqOf rfl
@[simp] theorem qevS_swapIx (C : Ctx) (n : Nat) {o1} {i1} {o2} {i2} {e} (δ : Dl) : evS C (n + 1) (.swapIx o1 i1 o2 i2 e) δ = (match evV C n e δ with
      | some (.tup [a, b], δ1) => match evAs C n [o1, i1] δ1 with
        | some ([.bor s1 [], .tmp (.int k1)], δ2) => match upSlot δ2 s1 [] (fun x => match x with
            | .lst true xs => match ixN xs.length k1 with
              | some j => some (.lst true (xs.set j a))
              | none => none
            | _ => none) with
          | some δ3 => match evAs C n [o2, i2] δ3 with
            | some ([.bor s2 [], .tmp (.int k2)], δ4) => match upSlot δ4 s2 [] (fun x => match x with
                | .lst true xs => match ixN xs.length k2 with
                  | some j => some (.lst true (xs.set j b))
                  | none => none
                | _ => none) with
              | some δ5 => some (.nx δ5)
              | none => none
            | _ => none
          | none => none
        | _ => none
      | _ => none) := eqOf rfl
@[simp] theorem qevS_aug (C : Ctx) (n : Nat) {i} {op} {e} (δ : Dl) : evS C (n + 1) (.aug i op e) δ = (match slot δ i with
      | some (.int x) => match evE C n e δ with
        | some (.tmp (.int y), δ1) => match augI op x y with
          | some z => match setN C.lock i (.int z) δ1 with
            | some δ2 => some (.nx δ2)
            | none => none
          | none => none
        | _ => none
      | _ => none) := eqOf rfl
@[simp] theorem qevS_ifs (C : Ctx) (n : Nat) {c} {a} {b} (δ : Dl) : evS C (n + 1) (.ifs c a b) δ = (match evT C n c δ with
      | some (true, δ1) => evSs C n a δ1
      | some (false, δ1) => evSs C n b δ1
      | none => none) := eqOf rfl
@[simp] theorem qevS_for (C : Ctx) (n : Nat) {tg} {k} {its} {body} (δ : Dl) : evS C (n + 1) (.for_ tg k its body) δ = (match evIt C n k its δ with
      | some (xs, δ1) => forL (setT C.lock tg) (evSs C n body) xs δ1
      | none => none) := eqOf rfl
@[simp] theorem qevS_while (C : Ctx) (n : Nat) {c} {body} (δ : Dl) : evS C (n + 1) (.while_ c body) δ = (whileL (evT C n c) (evSs C n body) 1000 δ) := eqOf rfl
@[simp] theorem qevS_pass (C : Ctx) (n : Nat) (δ : Dl) : evS C (n + 1) .pass δ = (some (.nx δ)) := eqOf rfl
@[simp] theorem qevS_brk (C : Ctx) (n : Nat) (δ : Dl) : evS C (n + 1) .brk δ = (some (.bk δ)) := eqOf rfl
@[simp] theorem qevS_cont (C : Ctx) (n : Nat) (δ : Dl) : evS C (n + 1) .cont δ = (some (.ct δ)) := eqOf rfl
@[simp] theorem qevS_bad (C : Ctx) (n : Nat) (δ : Dl) : evS C (n + 1) .bad δ = (none) := eqOf rfl
@[simp] theorem qevSs_1 (C : Ctx) {n} {δ} : evSs C (n + 1) [] δ = (some (.nx δ)) := eqOf rfl
@[simp] theorem qevSs_2 (C : Ctx) {n} {s} {ss} {δ} : evSs C (n + 1) (s :: ss) δ = (match evS C n s δ with
    | some (.nx δ1) => evSs C n ss δ1
    | r => r) := eqOf rfl
@[simp] theorem qevT_non (C : Ctx) (n : Nat) (δ : Dl) : evT C (n + 1) (.non ) δ = (match evE C n (.non ) δ with
      | some (a, δ1) => match look δ1 a with
        | some d => match truD d with
          | some b => some (b, δ1)
          | none => none
        | none => none
      | none => none) := eqOf rfl
@[simp] theorem qevT_bl (C : Ctx) (n : Nat) {b} (δ : Dl) : evT C (n + 1) (.bl b) δ = (match evE C n (.bl b) δ with
      | some (a, δ1) => match look δ1 a with
        | some d => match truD d with
          | some b => some (b, δ1)
          | none => none
        | none => none
      | none => none) := eqOf rfl
@[simp] theorem qevT_int (C : Ctx) (n : Nat) {i} (δ : Dl) : evT C (n + 1) (.int i) δ = (match evE C n (.int i) δ with
      | some (a, δ1) => match look δ1 a with
        | some d => match truD d with
          | some b => some (b, δ1)
          | none => none
        | none => none
      | none => none) := eqOf rfl
@[simp] theorem qevT_str (C : Ctx) (n : Nat) {s} (δ : Dl) : evT C (n + 1) (.str s) δ = (match evE C n (.str s) δ with
      | some (a, δ1) => match look δ1 a with
        | some d => match truD d with
          | some b => some (b, δ1)
          | none => none
        | none => none
      | none => none) := eqOf rfl
@[simp] theorem qevT_var (C : Ctx) (n : Nat) {i} (δ : Dl) : evT C (n + 1) (.var i) δ = (match evE C n (.var i) δ with
      | some (a, δ1) => match look δ1 a with
        | some d => match truD d with
          | some b => some (b, δ1)
          | none => none
        | none => none
      | none => none) := eqOf rfl
@[simp] theorem qevT_bin (C : Ctx) (n : Nat) {op} {a} {b} (δ : Dl) : evT C (n + 1) (.bin op a b) δ = (match evE C n (.bin op a b) δ with
      | some (a, δ1) => match look δ1 a with
        | some d => match truD d with
          | some b => some (b, δ1)
          | none => none
        | none => none
      | none => none) := eqOf rfl
@[simp] theorem qevT_neg (C : Ctx) (n : Nat) {a} (δ : Dl) : evT C (n + 1) (.neg a) δ = (match evE C n (.neg a) δ with
      | some (a, δ1) => match look δ1 a with
        | some d => match truD d with
          | some b => some (b, δ1)
          | none => none
        | none => none
      | none => none) := eqOf rfl
@[simp] theorem qevT_cmp (C : Ctx) (n : Nat) {op} {a} {b} (δ : Dl) : evT C (n + 1) (.cmp op a b) δ = (match evE C n (.cmp op a b) δ with
      | some (a, δ1) => match look δ1 a with
        | some d => match truD d with
          | some b => some (b, δ1)
          | none => none
        | none => none
      | none => none) := eqOf rfl
@[simp] theorem qevT_chain (C : Ctx) (n : Nat) {o1} {o2} {a} {b} {c} (δ : Dl) : evT C (n + 1) (.chain o1 o2 a b c) δ = (match evE C n (.chain o1 o2 a b c) δ with
      | some (a, δ1) => match look δ1 a with
        | some d => match truD d with
          | some b => some (b, δ1)
          | none => none
        | none => none
      | none => none) := eqOf rfl
@[simp] theorem qevT_ite (C : Ctx) (n : Nat) {c} {a} {b} (δ : Dl) : evT C (n + 1) (.ite c a b) δ = (match evE C n (.ite c a b) δ with
      | some (a, δ1) => match look δ1 a with
        | some d => match truD d with
          | some b => some (b, δ1)
          | none => none
        | none => none
      | none => none) := eqOf rfl
@[simp] theorem qevT_tup (C : Ctx) (n : Nat) {es} (δ : Dl) : evT C (n + 1) (.tup es) δ = (match evE C n (.tup es) δ with
      | some (a, δ1) => match look δ1 a with
        | some d => match truD d with
          | some b => some (b, δ1)
          | none => none
        | none => none
      | none => none) := eqOf rfl
@[simp] theorem qevT_lst (C : Ctx) (n : Nat) {es} (δ : Dl) : evT C (n + 1) (.lst es) δ = (match evE C n (.lst es) δ with
      | some (a, δ1) => match look δ1 a with
        | some d => match truD d with
          | some b => some (b, δ1)
          | none => none
        | none => none
      | none => none) := eqOf rfl
@[simp] theorem qevT_sub (C : Ctx) (n : Nat) {a} {i} (δ : Dl) : evT C (n + 1) (.sub a i) δ = (match evE C n (.sub a i) δ with
      | some (a, δ1) => match look δ1 a with
        | some d => match truD d with
          | some b => some (b, δ1)
          | none => none
        | none => none
      | none => none) := eqOf rfl
@[simp] theorem qevT_slice (C : Ctx) (n : Nat) {a} {lo} {hi} (δ : Dl) : evT C (n + 1) (.slice a lo hi) δ = (match evE C n (.slice a lo hi) δ with
      | some (a, δ1) => match look δ1 a with
        | some d => match truD d with
          | some b => some (b, δ1)
          | none => none
        | none => none
      | none => none) := eqOf rfl
@[simp] theorem qevT_rev (C : Ctx) (n : Nat) {a} (δ : Dl) : evT C (n + 1) (.rev a) δ = (match evE C n (.rev a) δ with
      | some (a, δ1) => match look δ1 a with
        | some d => match truD d with
          | some b => some (b, δ1)
          | none => none
        | none => none
      | none => none) := eqOf rfl
@[simp] theorem qevT_call (C : Ctx) (n : Nat) {f} {es} (δ : Dl) : evT C (n + 1) (.call f es) δ = (match evE C n (.call f es) δ with
      | some (a, δ1) => match look δ1 a with
        | some d => match truD d with
          | some b => some (b, δ1)
          | none => none
        | none => none
      | none => none) := eqOf rfl
@[simp] theorem qevT_callK (C : Ctx) (n : Nat) {f} {es} {p} (δ : Dl) : evT C (n + 1) (.callK f es p) δ = (match evE C n (.callK f es p) δ with
      | some (a, δ1) => match look δ1 a with
        | some d => match truD d with
          | some b => some (b, δ1)
          | none => none
        | none => none
      | none => none) := eqOf rfl
@[simp] theorem qevT_bi (C : Ctx) (n : Nat) {b} {es} (δ : Dl) : evT C (n + 1) (.bi b es) δ = (match evE C n (.bi b es) δ with
      | some (a, δ1) => match look δ1 a with
        | some d => match truD d with
          | some b => some (b, δ1)
          | none => none
        | none => none
      | none => none) := eqOf rfl
@[simp] theorem qevT_isi (C : Ctx) (n : Nat) {a} {ts} (δ : Dl) : evT C (n + 1) (.isi a ts) δ = (match evE C n (.isi a ts) δ with
      | some (a, δ1) => match look δ1 a with
        | some d => match truD d with
          | some b => some (b, δ1)
          | none => none
        | none => none
      | none => none) := eqOf rfl
@[simp] theorem qevT_meth (C : Ctx) (n : Nat) {m} {o} {es} (δ : Dl) : evT C (n + 1) (.meth m o es) δ = (match evE C n (.meth m o es) δ with
      | some (a, δ1) => match look δ1 a with
        | some d => match truD d with
          | some b => some (b, δ1)
          | none => none
        | none => none
      | none => none) := eqOf rfl
@[simp] theorem qevT_lc (C : Ctx) (n : Nat) {elt} {tg} {k} {its} {ifs} {own} (δ : Dl) : evT C (n + 1) (.lc elt tg k its ifs own) δ = (match evE C n (.lc elt tg k its ifs own) δ with
      | some (a, δ1) => match look δ1 a with
        | some d => match truD d with
          | some b => some (b, δ1)
          | none => none
        | none => none
      | none => none) := eqOf rfl
@[simp] theorem qevT_lc2 (C : Ctx) (n : Nat) {elt} {tg} {k} {its} {tg2} {k2} {its2} {own} {own2} (δ : Dl) : evT C (n + 1) (.lc2 elt tg k its tg2 k2 its2 own own2) δ = (match evE C n (.lc2 elt tg k its tg2 k2 its2 own own2) δ with
      | some (a, δ1) => match look δ1 a with
        | some d => match truD d with
          | some b => some (b, δ1)
          | none => none
        | none => none
      | none => none) := eqOf rfl
@[simp] theorem qevE_append (C : Ctx) (n : Nat) {o es} (δ : Dl) : evE C (n + 1) (.meth .append o es) δ = methX .append (evAs C n es) (evE C n o δ) := eqOf rfl
@[simp] theorem qevE_pop (C : Ctx) (n : Nat) {o es} (δ : Dl) : evE C (n + 1) (.meth .pop o es) δ = methX .pop (evAs C n es) (evE C n o δ) := eqOf rfl
@[simp] theorem qevE_popAt (C : Ctx) (n : Nat) {o es} (δ : Dl) : evE C (n + 1) (.meth .popAt o es) δ = methX .popAt (evAs C n es) (evE C n o δ) := eqOf rfl
@[simp] theorem qevE_extend (C : Ctx) (n : Nat) {o es} (δ : Dl) : evE C (n + 1) (.meth .extend o es) δ = methX .extend (evAs C n es) (evE C n o δ) := eqOf rfl
@[simp] theorem qevE_remove (C : Ctx) (n : Nat) {o es} (δ : Dl) : evE C (n + 1) (.meth .remove o es) δ = methX .remove (evAs C n es) (evE C n o δ) := eqOf rfl
@[simp] theorem qevE_index (C : Ctx) (n : Nat) {o es} (δ : Dl) : evE C (n + 1) (.meth .index o es) δ = (match evE C n o δ with
        | some (x, δ1) => if noPath x && isLst (look δ1 x) then match evAs C n es δ1 with
            | some (as, δ2) => match look δ2 x, looks δ2 as with
              | some d, some ds => match methR .index d ds with
                | some r => some (.tmp r, δ2)
                | none => none
              | _, _ => none
            | none => none
          else none
        | none => none) := eqOf rfl
@[simp] theorem qslot_z (d : D) (δ : Dl) : slot (some d :: δ) 0 = some d := eqOf rfl
@[simp] theorem qslot_zn (δ : Dl) : slot (none :: δ) 0 = none := eqOf rfl
@[simp] theorem qslot_s (x : Option D) (δ : Dl) (i : Nat) : slot (x :: δ) (i + 1) = slot δ i := eqOf rfl
@[simp] theorem qat_nil' (d : D) : d.at [] = some d := by unfold D.at; rfl
@[simp] theorem qupAt_nil (d : D) (f : D → Option D) : d.upAt [] f = f d := by unfold D.upAt; rfl
@[simp] theorem qlook_tmp (δ : Dl) (d : D) : look δ (.tmp d) = some d := eqOf rfl
@[simp] theorem qlook_bor (δ : Dl) (i : Nat) : look δ (.bor i []) = slot δ i := by
  unfold look
  simp only [qat_nil']
  cases h : slot δ i <;> rfl
@[simp] theorem qlooks_nil (δ : Dl) : looks δ [] = some [] := eqOf rfl
@[simp] theorem qlooks_cons (δ : Dl) (a : A) (as : List A) : looks δ (a :: as) = (match look δ a, looks δ as with
  | some d, some ds => some (d :: ds)
  | _, _ => none) := eqOf rfl
@[simp] theorem qupSlot_nil (δ : Dl) (i : Nat) (f : D → Option D) : upSlot δ i [] f = (match slot δ i with
  | some d => match f d with
    | some d' => some (δ.set i (some d'))
    | none => none
  | none => none) := by
  unfold upSlot
  simp only [qupAt_nil]
  all_goals (cases slot δ i <;> first
    | rfl
    | (rename_i d; cases f d <;> rfl)
    | (rename_i d; simp only; cases f d <;> rfl))
@[simp] theorem qtoV_tmp (δ : Dl) (d : D) : toV δ (.tmp d) = some (d, δ) := eqOf rfl
@[simp] theorem qtoV_bor (δ : Dl) (i : Nat) : toV δ (.bor i []) = (match slot δ i with
  | some d => some (d.frz, δ.set i (some d.frz))
  | none => none) := by
  unfold toV
  simp
  cases slot δ i <;> simp
@[simp] theorem qtoVs_nil (δ : Dl) : toVs δ [] = some ([], δ) := eqOf rfl
@[simp] theorem qtoVs_cons (δ : Dl) (a : A) (as : List A) : toVs δ (a :: as) = (match toV δ a with
    | some (d, δ1) => match toVs δ1 as with
      | some (ds, δ2) => some (d :: ds, δ2)
      | none => none
    | none => none) := eqOf rfl
@[simp] theorem qsettle_tmp {α : Type} (es : List α) (δ : Dl) (d : D) : settle es δ (.tmp d) = some (.tmp d, δ) := eqOf rfl
@[simp] theorem qsettle_bor {α : Type} (es : List α) (δ : Dl) (i : Nat) : settle es δ (.bor i []) = some (.bor i [], δ) := eqOf rfl
@[simp] theorem qfz_non : D.non.fz = true := eqOf rfl
@[simp] theorem qfz_bl (b : Bool) : (D.bl b).fz = true := eqOf rfl
@[simp] theorem qfz_int (b : Int) : (D.int b).fz = true := eqOf rfl
@[simp] theorem qfz_str (b : Str) : (D.str b).fz = true := eqOf rfl
@[simp] theorem qfz_scr (b : List Int) : (D.scr b).fz = true := eqOf rfl
@[simp] theorem qfz_tup (b : List D) : (D.tup b).fz = fzs b := by simp only [D.fz]
@[simp] theorem qfz_lst (o : Bool) (b : List D) : (D.lst o b).fz = (!o && fzs b) := by simp only [D.fz]
@[simp] theorem qfzs_nil : fzs [] = true := eqOf rfl
@[simp] theorem qfzs_cons (d : D) (ds : List D) : fzs (d :: ds) = (d.fz && fzs ds) := by simp only [fzs]
@[simp] theorem qfrz_non : D.non.frz = .non := eqOf rfl
@[simp] theorem qfrz_bl (b : Bool) : (D.bl b).frz = .bl b := eqOf rfl
@[simp] theorem qfrz_int (b : Int) : (D.int b).frz = .int b := eqOf rfl
@[simp] theorem qfrz_str (b : Str) : (D.str b).frz = .str b := eqOf rfl
@[simp] theorem qfrz_tup (b : List D) : (D.tup b).frz = .tup (frzs b) := by simp only [D.frz]
@[simp] theorem qfrz_lst (o : Bool) (b : List D) : (D.lst o b).frz = .lst false (frzs b) := by simp only [D.frz]
@[simp] theorem qfrzs_nil : frzs [] = [] := eqOf rfl
@[simp] theorem qfrzs_cons (d : D) (ds : List D) : frzs (d :: ds) = d.frz :: frzs ds := by simp only [frzs]
@[simp] theorem qitD_val (ds : List D) : itD .val ds = itVal ds := eqOf rfl
@[simp] theorem qitD_range (ds : List D) : itD .range ds = rangeOf ds := eqOf rfl
@[simp] theorem qitD_enum (ds : List D) : itD .enum ds = itEnum ds := eqOf rfl
@[simp] theorem qitD_zip (ds : List D) : itD .zip ds = itZip ds := eqOf rfl
@[simp] theorem qitVal_tup (xs : List D) : itVal [.tup xs] = some xs := eqOf rfl
@[simp] theorem qitVal_lst (xs : List D) : itVal [.lst false xs] = some xs := eqOf rfl
@[simp] theorem qitEnum_lst (xs : List D) : itEnum [.lst false xs] = some (enumD 0 xs) := eqOf rfl
@[simp] theorem qitEnum_tup (xs : List D) : itEnum [.tup xs] = some (enumD 0 xs) := eqOf rfl
@[simp] theorem qitZip_tup (xs ys : List D) : itZip [.tup xs, .tup ys] = some (zipD xs ys) := eqOf rfl
@[simp] theorem qitZip_lst (xs ys : List D) : itZip [.lst false xs, .lst false ys] = some (zipD xs ys) := eqOf rfl
@[simp] theorem qbi_len1 (o : Bool) (xs : List D) : biD .len [.lst o xs] = some (.int xs.length) := eqOf rfl
@[simp] theorem qbi_len2 (xs : List D) : biD .len [.tup xs] = some (.int xs.length) := eqOf rfl
@[simp] theorem qbi_abs (a : Int) : biD .abs [.int a] = some (.int (if a < 0 then -a else a)) := eqOf rfl
@[simp] theorem qbi_min2 (a b : Int) : biD .min2 [.int a, .int b] = some (.int (if b < a then b else a)) := eqOf rfl
@[simp] theorem qbi_max2 (a b : Int) : biD .max2 [.int a, .int b] = some (.int (if b > a then b else a)) := eqOf rfl
@[simp] theorem qbi_int (a : Int) : biD .int1 [.int a] = some (.int a) := eqOf rfl
@[simp] theorem qbi_intb (b : Bool) : biD .int1 [.bl b] = some (.int (if b then 1 else 0)) := eqOf rfl
@[simp] theorem qbi_list (d : D) : biD .list1 [d] = (items d).map (.lst true) := eqOf rfl
@[simp] theorem qbi_tuple (d : D) : biD .tuple1 [d] = (items d).map .tup := eqOf rfl
@[simp] theorem qbi_minT (xs : List D) : biD .min1 [.tup xs] = (match intsOf xs with
    | some (n :: ns) => some (.int (minI n ns))
    | _ => none) := eqOf rfl
@[simp] theorem qbi_maxd (o : Bool) (xs : List D) (z : Int) : biD .maxd [.lst o xs, .int z] = (match intsOf xs with
    | some (n :: ns) => some (.int (maxI n ns))
    | some [] => some (.int z)
    | none => none) := eqOf rfl
@[simp] theorem qbi_sort1 (o : Bool) (xs : List D) : biD .sorted1 [.lst o xs] = (match intsOf xs with
    | some ns => some (.lst true ((sortI ns).map .int))
    | none => match prsOf xs with
      | some ps => some (.lst true ((sortQ ps).map pairD))
      | none => none) := eqOf rfl
@[simp] theorem qbi_sort2 (xs : List D) : biD .sorted1 [.tup xs] = (match intsOf xs with
    | some ns => some (.lst true ((sortI ns).map .int))
    | _ => none) := eqOf rfl
@[simp] theorem qbi_sum (o : Bool) (xs : List D) : biD .sum1 [.lst o xs] = (match intsOf xs with
    | some ns => some (.int ns.sum)
    | _ => none) := eqOf rfl
@[simp] theorem qbi_all (o : Bool) (xs : List D) : biD .all1 [.lst o xs] = (match boolsOf xs with
    | some ns => some (.bl (ns.all id))
    | _ => none) := eqOf rfl
@[simp] theorem qbi_any (o : Bool) (xs : List D) : biD .any1 [.lst o xs] = (match boolsOf xs with
    | some ns => some (.bl (ns.any id))
    | _ => none) := eqOf rfl
@[simp] theorem qbi_lrange (ds : List D) : biD .lrange ds = (match rangeOf ds with
    | some xs => if decide (xs.length ≤ cap) then some (.lst true xs) else none
    | none => none) := eqOf rfl
@[simp] theorem qbi_sset (o : Bool) (xs : List D) : biD .sset [.lst o xs] = (match pairsOf xs with
    | some ps => if Nat.ble xs.length 60 then some (.lst true ((ssetP ps).map pairD)) else none
    | none => none) := eqOf rfl
@[simp] theorem qbi_lenr (ds : List D) : biD .lenr ds = (match rangeOf ds with
    | some xs => if decide (xs.length ≤ cap) then some (.int xs.length) else none
    | none => none) := eqOf rfl
@[simp] theorem qbi_step (xs : List D) (lo st : Nat) : biD .step [.tup xs, .int (.ofNat lo), .int (.ofNat st)] = (if Nat.blt 0 st then some (.tup (stepL xs lo st)) else none) := eqOf rfl
@[simp] theorem qbi_trange (ds : List D) : biD .trange ds = (match rangeOf ds with
    | some xs => if decide (xs.length ≤ cap) then some (.tup xs) else none
    | none => none) := eqOf rfl
@[simp] theorem qitems_tup (xs : List D) : items (.tup xs) = some xs := eqOf rfl
@[simp] theorem qitems_lst (o : Bool) (xs : List D) : items (.lst o xs) = (if fzs xs then some xs else none) := eqOf rfl
@[simp] theorem qbin_add (a b : Int) : binD .add (.int a) (.int b) = some (.int (a + b)) := eqOf rfl
@[simp] theorem qbin_sub (a b : Int) : binD .sub (.int a) (.int b) = some (.int (a - b)) := eqOf rfl
@[simp] theorem qbin_mul (a b : Int) : binD .mul (.int a) (.int b) = (if small64 a || small64 b then some (.int (a * b)) else none) := eqOf rfl
@[simp] theorem qbin_fdiv (a b : Int) : binD .fdiv (.int a) (.int b) = (if decide (0 < b) && decide (b < 1073741824) then some (.int (a / b)) else none) := eqOf rfl
@[simp] theorem qbin_mod (a b : Int) : binD .mod (.int a) (.int b) = (if decide (0 < b) then some (.int (a % b)) else none) := eqOf rfl
@[simp] theorem qbin_addl (o p : Bool) (xs ys : List D) : binD .add (.lst o xs) (.lst p ys) = (if fzs xs && fzs ys && decide (xs.length + ys.length ≤ cap) then some (.lst true (xs ++ ys)) else none) := eqOf rfl
@[simp] theorem qbin_addt (xs ys : List D) : binD .add (.tup xs) (.tup ys) = (if decide (xs.length + ys.length ≤ cap) then some (.tup (xs ++ ys)) else none) := eqOf rfl
@[simp] theorem qcmp_eq (a b : D) : cmpD .eq a b = (if plain a && plain b then some (a.eq b) else none) := eqOf rfl
@[simp] theorem qcmp_ne (a b : D) : cmpD .ne a b = (if plain a && plain b then some (!a.eq b) else none) := eqOf rfl
@[simp] theorem qcmp_lt (a b : Int) : cmpD .lt (.int a) (.int b) = some (decide (a < b)) := eqOf rfl
@[simp] theorem qcmp_le (a b : Int) : cmpD .le (.int a) (.int b) = some (decide (a ≤ b)) := eqOf rfl
@[simp] theorem qcmp_gt (a b : Int) : cmpD .gt (.int a) (.int b) = some (decide (b < a)) := eqOf rfl
@[simp] theorem qcmp_ge (a b : Int) : cmpD .ge (.int a) (.int b) = some (decide (b ≤ a)) := eqOf rfl
@[simp] theorem qcmp_is (a : D) : cmpD .isn a .non = some (isNon a) := eqOf rfl
@[simp] theorem qcmp_isnot (a : D) : cmpD .isnotn a .non = some (!isNon a) := eqOf rfl
@[simp] theorem qsl_tup (xs : List D) (lo hi : Option Int) : slD (.tup xs) lo hi = some (.tup (cutD xs lo hi)) := eqOf rfl
@[simp] theorem qsl_lst (o : Bool) (xs : List D) (lo hi : Option Int) : slD (.lst o xs) lo hi = (if fzs xs then some (.lst true (cutD xs lo hi)) else none) := eqOf rfl
@[simp] theorem qparts_00 : partsOf false false [] = some (none, none) := eqOf rfl
@[simp] theorem qparts_10 (i : Int) : partsOf true false [.tmp (.int i)] = some (some i, none) := eqOf rfl
@[simp] theorem qparts_01 (i : Int) : partsOf false true [.tmp (.int i)] = some (none, some i) := eqOf rfl
@[simp] theorem qparts_11 (i j : Int) : partsOf true true [.tmp (.int i), .tmp (.int j)] = some (some i, some j) := eqOf rfl
@[simp] theorem qok_non (k : Nat) : D.non.ok k = true := by cases k <;> rfl
@[simp] theorem qok_bl (k : Nat) (b : Bool) : (D.bl b).ok k = true := by cases k <;> rfl
@[simp] theorem qok_int (k : Nat) (i : Int) : (D.int i).ok k = true := by cases k <;> rfl
@[simp] theorem qok_str (k : Nat) (s : Str) : (D.str s).ok k = PyData.strOk s := by cases k <;> rfl
@[simp] theorem qok_tup (k : Nat) (xs : List D) : (D.tup xs).ok (k + 1) = oks k xs := eqOf rfl
@[simp] theorem qok_lst (k : Nat) (o : Bool) (xs : List D) : (D.lst o xs).ok (k + 1) = oks k xs := eqOf rfl
@[simp] theorem qoks_nil (k : Nat) : oks k [] = true := by cases k <;> rfl
@[simp] theorem qoks_cons (k : Nat) (d : D) (ds : List D) : oks k (d :: ds) = (d.ok k && oks k ds) := by cases k <;> rfl
@[simp] theorem qeq_int (i j : Int) : (D.int i).eq (.int j) = (i == j) := eqOf rfl
@[simp] theorem qeq_str (i j : Str) : (D.str i).eq (.str j) = (i == j) := eqOf rfl
@[simp] theorem qeq_bl (i j : Bool) : (D.bl i).eq (.bl j) = (i == j) := eqOf rfl
@[simp] theorem qeq_tup (i j : List D) : (D.tup i).eq (.tup j) = eqs i j := eqOf rfl
@[simp] theorem qeq_lst (o p : Bool) (i j : List D) : (D.lst o i).eq (.lst p j) = eqs i j := eqOf rfl
@[simp] theorem qeqs_nil : eqs [] [] = true := eqOf rfl
@[simp] theorem qeqs_cons (x y : D) (xs ys : List D) : eqs (x :: xs) (y :: ys) = (x.eq y && eqs xs ys) := eqOf rfl
@[simp] theorem qeqs_nc (y : D) (ys : List D) : eqs [] (y :: ys) = false := eqOf rfl
@[simp] theorem qeqs_cn (y : D) (ys : List D) : eqs (y :: ys) [] = false := eqOf rfl
@[simp] theorem qtru_bl (b : Bool) : truD (.bl b) = some b := eqOf rfl
@[simp] theorem qtru_int (i : Int) : truD (.int i) = some (i != 0) := eqOf rfl
@[simp] theorem qtru_tup (xs : List D) : truD (.tup xs) = some (!xs.isEmpty) := eqOf rfl
@[simp] theorem qtru_lst (o : Bool) (xs : List D) : truD (.lst o xs) = some (!xs.isEmpty) := eqOf rfl
@[simp] theorem qtru_non : truD .non = some false := eqOf rfl
@[simp] theorem qioOf_nil (io : List Nat) (j : Nat) (δ : Dl) : ioOf io j [] δ = some ([], δ) := eqOf rfl
@[simp] theorem qioOf_none (j : Nat) (a : A) (as : List A) (δ : Dl) : ioOf [] j (a :: as) δ = (match ioOf [] (j + 1) as δ with
      | some (os, δ') => some (none :: os, δ')
      | none => none) := eqOf rfl
@[simp] theorem qvalOf_nil (δ : Dl) : valOf [] [] δ = some ([], δ) := eqOf rfl
@[simp] theorem qvalOf_some (d : D) (os : List (Option D)) (a : A) (as : List A) (δ : Dl) : valOf (some d :: os) (a :: as) δ = (match valOf os as δ with
    | some (ds, δ') => some (d :: ds, δ')
    | none => none) := eqOf rfl
@[simp] theorem qvalOf_none (os : List (Option D)) (a : A) (as : List A) (δ : Dl) : valOf (none :: os) (a :: as) δ = (match toV δ a with
    | some (d, δ1) => match valOf os as δ1 with
      | some (ds, δ') => some (d :: ds, δ')
      | none => none
    | none => none) := eqOf rfl
@[simp] theorem qbackOf_nil (io : List Nat) (j : Nat) (outs : List D) (δ : Dl) : backOf io j [] outs δ = δ := eqOf rfl
@[simp] theorem qbackOf_none (j : Nat) (a : A) (as : List A) (outs : List D) (δ : Dl) : backOf [] j (a :: as) outs δ = backOf [] (j + 1) as outs δ := eqOf rfl
@[simp] theorem qsetT_nm (lock : List Nat) (i : Nat) (d : D) (δ : Dl) : setT lock (.nm i) d δ = setN lock i d δ := eqOf rfl
@[simp] theorem qsetT_tl (lock : List Nat) (is : List Nat) (o : Bool) (ds : List D) (δ : Dl) : setT lock (.tp is) (.lst o ds) δ = (if fzs ds then setNs lock is ds δ else none) := eqOf rfl
@[simp] theorem qsetT_tp (lock : List Nat) (is : List Nat) (ds : List D) (δ : Dl) : setT lock (.tp is) (.tup ds) δ = (if fzs ds then setNs lock is ds δ else none) := eqOf rfl
@[simp] theorem qsetNs_nil (lock : List Nat) (δ : Dl) : setNs lock [] [] δ = some δ := eqOf rfl
@[simp] theorem qsetNs_cons (lock : List Nat) (i : Nat) (is : List Nat) (d : D) (ds : List D) (δ : Dl) : setNs lock (i :: is) (d :: ds) δ = (match setN lock i d δ with
    | some δ1 => setNs lock is ds δ1
    | none => none) := eqOf rfl
@[simp] theorem qoutsOf_z (δ : Dl) (io : List Nat) (j : Nat) : outsOf δ io j 0 = some [] := eqOf rfl
@[simp] theorem qoutsOf_nil (δ : Dl) (j m : Nat) : outsOf δ [] j m = some [] := by
  induction m generalizing j with
  | zero => rfl
  | succ m ih => simp [outsOf, ih]
@[simp] theorem qsetN_eq (lock : List Nat) (i : Nat) (d : D) (δ : Dl) : setN lock i d δ = (if decide (i < δ.length) && !lock.contains i then some (δ.set i (some d)) else none) := eqOf rfl
@[simp] theorem qcallD_eq (C : Ctx) (f : Nat) (as : List A) (δ : Dl) : callD C f as δ = (match ioOf (C.io f) 0 as δ with
  | some (os, δm) => match valOf os as δm with
    | some (ds, δ2) => match C.call f ds with
      | some (r, outs) => some (.tmp r, backOf (C.io f) 0 as outs (if isAtom r then δm else δ2))
      | none => none
    | none => none
  | none => none) := eqOf rfl

end Ev

set_option linter.all false
set_option maxRecDepth 100000
set_option maxHeartbeats 4000000
/-! MA: symbolic steps: comprehensions, loops, calls -/
namespace Ev
open PySem
theorem set_set' {α : Type} (l : List α) (i : Nat) (x y : α) : (l.set i x).set i y = l.set i y := List.set_set ..
theorem set_get {α : Type} : ∀ (l : List α) (i : Nat) (x : α), l[i]? = some x → l.set i x = l
  | [], i, x, e => by simp at e
  | y :: l, 0, x, e => by simp at e; simp [e]
  | y :: l, i + 1, x, e => by simp only [List.set_cons_succ]; rw [set_get l i x (by simpa using e)]
/-- one name, one turn alike each time -/
theorem lcL_eq {set : D → Dl → Option Dl} {test : Dl → Option (Bool × Dl)} {elt : Dl → Option (D × Dl)} {own : List Nat} {p : D → Bool} {f : D → D} {δ : Dl} :
    ∀ (xs acc : List D), (∀ x ∈ xs, ∃ δ1 δ2, set x δ = some δ1 ∧ test δ1 = some (p x, δ2) ∧ (p x = false → wipeD δ2 own = δ) ∧ (p x = true → ∃ δ3, elt δ2 = some (f x, δ3) ∧ wipeD δ3 own = δ)) → acc.length + xs.length ≤ cap →
    lcL set test elt own xs acc δ = some (acc ++ (xs.filter p).map f, δ)
  | [], acc, _, _ => by simp [lcL]
  | x :: xs, acc, h, hl => by
    obtain ⟨δ1, δ2, h1, h2, h3, h4⟩ := h x (by simp)
    have ih := fun acc => lcL_eq (set := set) (test := test) (elt := elt) (own := own) (p := p) (f := f) (δ := δ) xs acc fun y hy => h y (by simp [hy])
    simp only [List.length_cons] at hl
    cases hp : p x with
    | false =>
      rw [hp] at h2
      simp only [lcL, h1, h2, h3 hp]
      rw [ih acc (by omega), List.filter_cons_of_neg (by simp [hp])]
    | true =>
      obtain ⟨δ3, h5, h6⟩ := h4 hp
      rw [hp] at h2
      have lt : acc.length < cap := by omega
      simp only [lcL, h1, h2, h5, lt, decide_true, if_true, h6]
      rw [ih (acc ++ [f x]) (by simp; omega), List.filter_cons_of_pos hp]
      simp
theorem filter_true (xs : List D) : xs.filter (fun _ => true) = xs := by simp
/-- [elt for v in ..] -/
theorem ev_lc {C : Ctx} {n v : Nat} {elt : E} {k : ItK} {its : List E} {δ δ0 : Dl} {xs : List D} {f : D → D} (hl : C.lock.contains v = false) (hi : evIt C n k its δ0 = some (xs, δ)) (hv : v < δ.length) (ho : ownFz δ [v] = true) (hc : xs.length ≤ cap)
    (he : ∀ x ∈ xs, evV C n elt (δ.set v (some x)) = some (f x, δ.set v (some x))) (hn : 0 < n) : evE C (n + 1) (.lc elt (.nm v) k its [] [v]) δ0 = some (.tmp (.lst true (xs.map f)), δ) := by
  obtain ⟨w, ew⟩ : ∃ w, δ[v]? = some w := ⟨_, List.getElem?_eq_getElem hv⟩
  obtain ⟨n, rfl⟩ : ∃ m, n = m + 1 := ⟨n - 1, by omega⟩
  have h3 : lcL (setT C.lock (.nm v)) (evIfs C (n + 1) []) (evV C (n + 1) elt) [v] xs [] (wipeD δ [v]) = some ([] ++ (xs.filter fun _ => true).map f, wipeD δ [v]) := by
    refine lcL_eq xs [] (fun x hx => ⟨δ.set v (some x), δ.set v (some x), ?_, rfl, (fun h => by cases h), fun _ => ⟨δ.set v (some x), he x hx, ?_⟩⟩) (by simpa using hc)
    · show setN C.lock v x (δ.set v none) = _
      unfold setN
      rw [hl, List.length_set, decide_eq_true hv]
      simp
    · show (δ.set v (some x)).set v none = δ.set v none
      rw [set_set']
  refine (evE_lc C (n + 1) elt (.nm v) k its [] [v] δ0 hi ho h3).trans ?_
  rw [filter_true, List.nil_append]
  show some (A.tmp (.lst true (xs.map f)), (δ.set v none).set v (match δ[v]? with
    | some x => x
    | none => none)) = _
  rw [set_set', ew]
  simp only
  rw [set_get δ v w ew]
/-- [elt for v in .. if c] -/
theorem ev_lcIf {C : Ctx} {n v : Nat} {elt c : E} {k : ItK} {its : List E} {δ δ0 : Dl} {xs : List D} {p : D → Bool} {f : D → D} (hl : C.lock.contains v = false) (hi : evIt C (n + 1) k its δ0 = some (xs, δ)) (hv : v < δ.length) (ho : ownFz δ [v] = true) (hc : xs.length ≤ cap)
    (ht : ∀ x ∈ xs, evT C n c (δ.set v (some x)) = some (p x, δ.set v (some x)))
    (he : ∀ x ∈ xs, p x = true → evV C (n + 1) elt (δ.set v (some x)) = some (f x, δ.set v (some x))) : evE C (n + 2) (.lc elt (.nm v) k its [c] [v]) δ0 = some (.tmp (.lst true ((xs.filter p).map f)), δ) := by
  obtain ⟨w, ew⟩ : ∃ w, δ[v]? = some w := ⟨_, List.getElem?_eq_getElem hv⟩
  have h3 : lcL (setT C.lock (.nm v)) (evIfs C (n + 1) [c]) (evV C (n + 1) elt) [v] xs [] (wipeD δ [v]) = some ([] ++ (xs.filter p).map f, wipeD δ [v]) := by
    refine lcL_eq xs [] (fun x hx => ⟨δ.set v (some x), δ.set v (some x), ?_, ht x hx, (fun h => ?_), fun h => ⟨δ.set v (some x), he x hx h, ?_⟩⟩) (by simpa using hc)
    · show setN C.lock v x (δ.set v none) = _
      unfold setN
      rw [hl, List.length_set, decide_eq_true hv]
      simp
    · show (δ.set v (some x)).set v none = δ.set v none
      rw [set_set']
    · show (δ.set v (some x)).set v none = δ.set v none
      rw [set_set']
  refine (evE_lc C (n + 1) elt (.nm v) k its [c] [v] δ0 hi ho h3).trans ?_
  rw [List.nil_append]
  show some (A.tmp (.lst true ((xs.filter p).map f)), (δ.set v none).set v (match δ[v]? with
    | some x => x
    | none => none)) = _
  rw [set_set', ew]
  simp only
  rw [set_get δ v w ew]
/-- a for that goes through to the end, whose state is a fold -/
theorem forL_fold {set : D → Dl → Option Dl} {body : Dl → Option Fl} {α β : Type} (st : β → Dl) (em : α → D) (step : β → α → β) :
    ∀ (xs : List α) (b : β), (∀ b, ∀ x ∈ xs, ∃ δ1, set (em x) (st b) = some δ1 ∧ (body δ1 = some (.nx (st (step b x))) ∨ body δ1 = some (.ct (st (step b x))))) → forL set body (xs.map em) (st b) = some (.nx (st (xs.foldl step b)))
  | [], b, _ => rfl
  | x :: xs, b, h => by
    obtain ⟨δ1, h1, h2⟩ := h b x (by simp)
    have ih := forL_fold (set := set) (body := body) st em step xs (step b x) fun b y hy => h b y (by simp [hy])
    rcases h2 with h2 | h2
    · simp only [List.map_cons, forL, h1, h2, List.foldl_cons]; exact ih
    · simp only [List.map_cons, forL, h1, h2, List.foldl_cons]; exact ih
/-- numbers -/
abbrev nt (n : Nat) : D := .int n
abbrev lN (l : List Nat) : List D := l.map nt
abbrev tN (l : List Nat) : D := .tup (l.map nt)
theorem nts_fz : ∀ l : List Nat, fzs (l.map nt) = true
  | [] => rfl
  | x :: l => by simp only [List.map_cons, fzs, D.fz, nts_fz l, Bool.and_self]
theorem tNs_fz : ∀ l : List (List Nat), fzs (l.map tN) = true
  | [] => rfl
  | x :: l => by simp only [List.map_cons, fzs, D.fz, tNs_fz l, nts_fz x, Bool.and_self]
theorem nts_frz : ∀ l : List Nat, frzs (l.map nt) = l.map nt
  | [] => rfl
  | x :: l => by simp only [List.map_cons, frzs, D.frz, nts_frz l]
theorem tNs_frz : ∀ l : List (List Nat), frzs (l.map tN) = l.map tN
  | [] => rfl
  | x :: l => by simp only [List.map_cons, frzs, D.frz, tNs_frz l, nts_frz x]
theorem rangeD_nat : ∀ (n lo st : Nat), rangeD lo st n = (List.range n).map fun k => nt (lo + k * st)
  | 0, lo, st => rfl
  | n + 1, lo, st => by
    have ih := rangeD_nat n (lo + st) st
    simp only [rangeD]
    rw [show ((lo : Int) + (st : Int)) = ((lo + st : Nat) : Int) by omega, ih, List.range_succ_eq_map]
    simp only [List.map_cons, List.map_map, Nat.zero_mul, Nat.add_zero]
    congr 1
    apply List.map_congr_left
    intro k _
    simp only [Function.comp, Nat.succ_eq_add_one, Nat.add_mul, Nat.one_mul]
    congr 1
    omega
end Ev

set_option linter.all false
set_option maxRecDepth 100000
set_option maxHeartbeats 4000000
/-! MB: ranges, slices of numbers; plain.tupled; deals -/
namespace Ev
open PySem
theorem ceil_div (m c : Nat) (hm : 0 < m) (hc : 0 < c) : (m - 1) / c + 1 = (m + c - 1) / c := by
  have : m + c - 1 = (m - 1) + c := by omega
  rw [this, Nat.add_div_right _ hc]
def ceilN (i j c : Nat) : Nat := (j - i + c - 1) / c
theorem rsize {i j c : Nat} (hc : 0 < c) : Builtin.Range.rangeSize i j c = (ceilN i j c : Int) := by
  unfold Builtin.Range.rangeSize ceilN
  rw [if_pos (by omega)]
  by_cases h : i < j
  · rw [if_pos (by omega), show ((j : Int) - i - 1) = ((j - i - 1 : Nat) : Int) by omega]
    have := ceil_div (j - i) c (by omega) hc
    rw [← this]
    simp
  · rw [if_neg (by omega), show j - i = 0 by omega, Nat.div_eq_of_lt (by omega)]
    rfl
theorem rangeOf3 {i j c : Nat} (hc : 0 < c) (hc2 : c < 1000000) (hi : i ≤ 1000000) (hj : j ≤ 1000000) : rangeOf [.int i, .int j, .int c] = some (rangeD i c (ceilN i j c)) := by
  have hs := rsize (i := i) (j := j) hc
  have f9 : ∀ {n : Nat}, n ≤ 1000000 → fits9 (n : Int) = true := fun {n} h => by
    show Nat.ble n 1000000000 = true
    rw [Nat.ble_eq]
    omega
  have e : rangeOf [.int i, .int j, .int c] = if ((fits9 i && fits9 j && fits9 c) && decide ((c : Int) ≠ 0) && decide ((c : Int).natAbs < 1000000)) = true then some (rangeD i c (rangeN i j c)) else none := by unfold rangeOf; rfl
  rw [e, f9 hi, f9 hj, f9 (by omega), decide_eq_true (show ((c : Int) ≠ 0) by omega), decide_eq_true (show ((c : Int).natAbs < 1000000) by omega)]
  simp only [Bool.and_self, if_true]
  unfold rangeN
  rw [hs, Int.toNat_natCast]
theorem rangeOf2 {i j : Nat} (hi : i ≤ 1000000) (hj : j ≤ 1000000) : rangeOf [.int i, .int j] = some (rangeD i 1 (j - i)) := by
  have e : rangeOf [.int i, .int j] = if (small62 i && small62 j) = true then some (rangeD i 1 ((j : Int) - (i : Int)).toNat) else none := by unfold rangeOf; rfl
  rw [e, sm62 hi, sm62 hj]
  simp only [Bool.and_self, if_true]
  rw [show ((j : Int) - (i : Int)).toNat = j - i by omega]
def up (lo n : Nat) : List Nat := (List.range n).map fun k => lo + k
theorem rangeD_up (lo n : Nat) : rangeD lo 1 n = lN (up lo n) := by
  have := rangeD_nat n lo 1
  simp only [Nat.mul_one] at this
  unfold up lN
  rw [List.map_map]
  exact this
theorem rangeD_up0 (n : Nat) : rangeD 0 1 n = lN (List.range n) := by
  have := rangeD_nat n 0 1
  simp only [Nat.mul_one, Nat.zero_add] at this
  exact this
theorem cutD_nat {α : Type} (em : α → D) (l : List α) (lo hi : Nat) : cutD (l.map em) (some (lo : Int)) (some (hi : Int)) = ((l.drop lo).take (hi - lo)).map em := by
  unfold cutD sIx
  have h1 : ¬ ((lo : Int) < 0) := by omega
  have h2 : ¬ ((hi : Int) < 0) := by omega
  simp only [if_neg h1, if_neg h2, List.length_map]
  rw [← List.map_drop, ← List.map_take]
  congr 1
  rw [show (min (lo : Int) (l.length : Int)).toNat = min lo l.length by omega, show (min (hi : Int) (l.length : Int)).toNat = min hi l.length by omega]
  by_cases h : lo ≤ l.length
  · rw [Nat.min_eq_left h]
    by_cases h' : hi ≤ l.length
    · rw [Nat.min_eq_left h']
    · rw [Nat.min_eq_right (by omega), List.take_of_length_le (by simp), List.take_of_length_le (by simp; omega)]
  · have z1 : l.drop lo = [] := List.drop_of_length_le (by omega)
    have z2 : l.drop (min lo l.length) = [] := List.drop_of_length_le (by omega)
    rw [z1, z2]
    simp

/-! ### tupled -/
def f_tupled (t : Nat) : Fn := { n := 2, ps := 1, io := [], body := [.ret (.ite (.isi (.var 0) [.list, .tuple]) (.bi .tuple1 [(.lc (.call t [(.var 1)]) (.nm 1) .val [(.var 0)] [] [1])]) (.var 0))] }
mutual
def tupM : D → D
  | .tup xs => .tup (tupMs xs)
  | .lst _ xs => .tup (tupMs xs)
  | .non => .non
  | .bl b => .bl b
  | .int i => .int i
  | .str s => .str s
  | .scr s => .scr s
def tupMs : List D → List D
  | [] => []
  | d :: ds => tupM d :: tupMs ds
end
theorem tupMs_map : ∀ ds : List D, tupMs ds = ds.map tupM
  | [] => rfl
  | d :: ds => by simp only [tupMs, List.map_cons, tupMs_map ds]
mutual
/-- how deep, no script in it, not too long -/
def shape : Nat → D → Bool
  | 0, .tup _ => false
  | 0, .lst _ _ => false
  | n + 1, .tup xs => decide (xs.length ≤ cap) && shapes n xs
  | n + 1, .lst _ xs => decide (xs.length ≤ cap) && shapes n xs
  | _, .scr _ => false
  | _, _ => true
def shapes : Nat → List D → Bool
  | _, [] => true
  | n, d :: ds => shape n d && shapes n ds
end
theorem shapes_mem {n : Nat} : ∀ {ds : List D}, shapes n ds = true → ∀ d ∈ ds, shape n d = true
  | [], _, d, h => by simp at h
  | x :: xs, h, d, hd => by
    simp only [shapes, Bool.and_eq_true] at h
    rcases List.mem_cons.mp hd with e | e
    · subst e; exact h.1
    · exact shapes_mem h.2 d e
theorem fzs_mem : ∀ {ds : List D}, fzs ds = true → ∀ d ∈ ds, d.fz = true
  | [], _, d, h => by simp at h
  | x :: xs, h, d, hd => by
    simp only [fzs, Bool.and_eq_true] at h
    rcases List.mem_cons.mp hd with e | e
    · subst e; exact h.1
    · exact fzs_mem h.2 d e
theorem fzs_of : ∀ {ds : List D}, (∀ d ∈ ds, d.fz = true) → fzs ds = true
  | [], _ => rfl
  | x :: xs, h => by simp only [fzs, h x (by simp), fzs_of (ds := xs) fun d hd => h d (by simp [hd]), Bool.and_self]
mutual
theorem frz_fz : ∀ d : D, d.fz = true → d.frz = d
  | .non, _ => rfl
  | .bl _, _ => rfl
  | .int _, _ => rfl
  | .str _, _ => rfl
  | .scr _, _ => rfl
  | .tup xs, h => by simp only [D.fz] at h; simp only [D.frz, frzs_fz xs h]
  | .lst o xs, h => by
    simp only [D.fz, Bool.and_eq_true, Bool.not_eq_true'] at h
    obtain ⟨h1, h2⟩ := h
    subst h1
    simp only [D.frz, frzs_fz xs h2]
theorem frzs_fz : ∀ ds : List D, fzs ds = true → frzs ds = ds
  | [], _ => rfl
  | d :: ds, h => by
    simp only [fzs, Bool.and_eq_true] at h
    simp only [frzs, frz_fz d h.1, frzs_fz ds h.2]
end
mutual
theorem tupM_fz : ∀ d : D, (tupM d).fz = true
  | .tup xs => by simp only [tupM, D.fz, tupMs_fz xs]
  | .lst _ xs => by simp only [tupM, D.fz, tupMs_fz xs]
  | .non => rfl
  | .bl _ => rfl
  | .int _ => rfl
  | .str _ => rfl
  | .scr _ => rfl
theorem tupMs_fz : ∀ ds : List D, fzs (tupMs ds) = true
  | [] => rfl
  | d :: ds => by simp only [tupMs, fzs, tupM_fz d, tupMs_fz ds, Bool.and_self]
end
theorem evSs_ret (C : Ctx) (n : Nat) (e : E) (ss : List S) (δ : Dl) {d : D} {δ1 : Dl} (h : evE C n e δ = some (.tmp d, δ1)) : evSs C (n + 2) (.ret e :: ss) δ = some (.rt d δ1) := by
  simp only [evSs, evS, h]
/-- tupled of what is shared -/
theorem tupled_run {call : Nat → List D → Option (D × List D)} {io : Nat → List Nat} {t m : Nat} (hio : io t = []) (ih : ∀ d : D, d.fz = true → shape m d = true → call t [d] = some (tupM d, [])) {d : D} (hd : d.fz = true) (hs : shape (m + 1) d = true) :
    runF ⟨call, io, []⟩ (f_tupled t) [d] = some (tupM d, []) := by
  have seq : ∀ xs : List D, fzs xs = true → shapes m xs = true → xs.length ≤ cap → (∀ n, evIt ⟨call, io, []⟩ (n + 3) .val [.var 0] [some d, none] = some (xs, [some d, none])) → isTy d .list = true ∨ isTy d .tuple = true →
      runF ⟨call, io, []⟩ (f_tupled t) [d] = some (.tup (tupMs xs), []) := fun xs fx sx lx hi ht => by
    have he : ∀ x ∈ xs, evV ⟨call, io, []⟩ 94 (.call t [(.var 1)]) ([some d, none].set 1 (some x)) = some (tupM x, [some d, none].set 1 (some x)) := fun x hx => by
      have := ih x (fzs_mem fx x hx) (shapes_mem sx x hx)
      have fx' := fzs_mem fx x hx
      simp [fx', hio, this]
    have e1 := ev_lc (C := ⟨call, io, []⟩) (n := 94) (v := 1) (elt := .call t [(.var 1)]) (k := .val) (its := [.var 0]) (δ := [some d, none]) rfl (hi 91) (by simp) (by simp [ownFz, slot]) lx he (by omega)
    have f2 : fzs (xs.map tupM) = true := by rw [← tupMs_map]; exact tupMs_fz xs
    have ht' : ([Ty.list, Ty.tuple].any (isTy d)) = true := by rcases ht with h | h <;> simp [h]
    have e0 : evT ⟨call, io, []⟩ 97 (.isi (.var 0) [.list, .tuple]) [some d, none] = some (true, [some d, none]) := by
      simp [evT, hd] at ht' ⊢
      exact ht'
    have e2 : evE ⟨call, io, []⟩ 98 (.ite (.isi (.var 0) [.list, .tuple]) (.bi .tuple1 [(.lc (.call t [(.var 1)]) (.nm 1) .val [(.var 0)] [] [1])]) (.var 0)) [some d, none] = some (.tmp (.tup (tupMs xs)), [some d, none]) := by
      have e3 : evE ⟨call, io, []⟩ 97 (.bi .tuple1 [(.lc (.call t [(.var 1)]) (.nm 1) .val [(.var 0)] [] [1])]) [some d, none] = some (.tmp (.tup (tupMs xs)), [some d, none]) := by
        rw [qevE_bi, qevAs_2, e1]
        simp [f2, tupMs_map]
      rw [qevE_ite, e0]
      exact e3
    unfold runF f_tupled
    simp only [List.length_cons, List.length_nil, if_true]
    show (match evSs ⟨call, io, []⟩ 100 _ [some d, none] with
        | some (.rt d δ) => (outsOf δ [] 0 1).map fun o => (d, o)
        | some (.nx δ) => (outsOf δ [] 0 1).map fun o => (.non, o)
        | _ => none) = _
    rw [evSs_ret _ 98 _ _ _ e2]
    simp [outsOf]
  have atom : isTy d .list = false → isTy d .tuple = false → tupM d = d → runF ⟨call, io, []⟩ (f_tupled t) [d] = some (tupM d, []) := fun h1 h2 h3 => by
    rw [h3]
    simp [runF, f_tupled, startD, evT, hd, h1, h2]
  cases d with
  | tup xs =>
    simp only [D.fz] at hd
    simp only [shape, Bool.and_eq_true, decide_eq_true_eq] at hs
    simp only [tupM]
    exact seq xs hd hs.2 hs.1 (fun n => by simp [hd, frzs_fz xs hd]) (.inr rfl)
  | lst o xs =>
    simp only [D.fz, Bool.and_eq_true, Bool.not_eq_true'] at hd
    obtain ⟨rfl, hd⟩ := hd
    simp only [shape, Bool.and_eq_true, decide_eq_true_eq] at hs
    simp only [tupM]
    exact seq xs hd hs.2 hs.1 (fun n => by simp [hd, frzs_fz xs hd]) (.inl rfl)
  | scr ns => simp [shape] at hs
  | non => exact atom rfl rfl rfl
  | bl b => exact atom rfl rfl rfl
  | int i => exact atom rfl rfl rfl
  | str s => exact atom rfl rfl rfl
end Ev

set_option linter.all false
set_option maxRecDepth 100000
set_option maxHeartbeats 4000000
/-! MC: deals -/
namespace Ev
open PySem
abbrev sShort : Str := Str.ofString "short"
abbrev sDrop : Str := Str.ofString "drop"
abbrev sTurns : Str := Str.ofString "turns"
abbrev sItems : Str := Str.ofString "items"
abbrev sParts : Str := Str.ofString "parts"
/-- places made into batches -/
def chunks (b : Nat) (l : List Nat) : List (List Nat) := (List.range (ceilN 0 l.length b)).map fun k => (l.drop (k * b)).take b
def cutM (b : Nat) (sh : Bool) (l : List Nat) : List (List Nat) := (chunks b l).filter fun own => own.length == b || sh
def f_cut : Fn := { n := 6, ps := 3, io := [], body := [.asg (.nm 3) (.lc (.bi .tuple1 [(.slice (.var 0) (some (.var 4)) (some (.bin .add (.var 4) (.var 1))))]) (.nm 4) .range [(.int 0), (.bi .len [(.var 0)]), (.var 1)] [] [4]),
    .ret (.lc (.var 5) (.nm 5) .val [(.var 3)] [(.bor [(.cmp .eq (.bi .len [(.var 5)]) (.var 1)), (.cmp .eq (.var 2) (.str (Str.ofString "short")))])] [5])] }
theorem chunks_len (b : Nat) (l : List Nat) : (chunks b l).length = ceilN 0 l.length b := by simp [chunks]
theorem ceil_le {n b : Nat} (hb : 0 < b) : ceilN 0 n b ≤ n := by
  unfold ceilN
  rw [Nat.sub_zero]
  have : (n + b - 1) / b < n + 1 := by
    rw [Nat.div_lt_iff_lt_mul hb, Nat.add_mul, Nat.one_mul]
    have : n * 1 ≤ n * b := Nat.mul_le_mul_left n hb
    omega
  omega
theorem evSs_cons (C : Ctx) (n : Nat) (s : S) (ss : List S) (δ : Dl) {δ1 : Dl} (h : evS C n s δ = some (.nx δ1)) : evSs C (n + 1) (s :: ss) δ = evSs C n ss δ1 := by
  simp only [evSs, h]
theorem evS_asg (C : Ctx) (n i : Nat) (e : E) (δ : Dl) {d : D} {δ1 : Dl} (h : evE C n e δ = some (.tmp d, δ1)) (hi : i < δ1.length) (hl : C.lock.contains i = false) : evS C (n + 2) (.asg (.nm i) e) δ = some (.nx (δ1.set i (some d))) := by
  simp only [evS, evV, h, toV, setT, setN, hl, decide_eq_true hi, Bool.not_false, Bool.and_self, if_true]
theorem str_eq_plain (x y : Str) (hx : PyData.strOk x = true) (hy : PyData.strOk y = true) : cmpD .eq (.str x) (.str y) = some (x == y) := by
  simp [cmpD, plain, D.ok, hx, hy, D.eq]
theorem int_eq_plain (x y : Int) : cmpD .eq (.int x) (.int y) = some (x == y) := by
  simp [cmpD, plain, D.ok, D.eq]
theorem ok_short : PyData.strOk sShort = true := by decide +kernel
theorem ok_drop : PyData.strOk sDrop = true := by decide +kernel
theorem ok_turns : PyData.strOk sTurns = true := by decide +kernel
theorem ok_items : PyData.strOk sItems = true := by decide +kernel
theorem ok_parts : PyData.strOk sParts = true := by decide +kernel
theorem nat_beq (a b : Nat) : ((a : Int) == (b : Int)) = (a == b) := by
  rw [Bool.eq_iff_iff, beq_iff_eq, beq_iff_eq]
  omega
theorem cut_run {call : Nat → List D → Option (D × List D)} {io : Nat → List Nat} {b : Nat} {e : Str} {o : Bool} {l : List Nat} (hb : 0 < b) (hb2 : b < 1000000) (he : PyData.strOk e = true) (hl : l.length ≤ 1000) :
    runF ⟨call, io, []⟩ f_cut [.lst o (lN l), .int b, .str e] = some (.lst true ((cutM b (e == sShort) l).map tN), []) := by
  have fz := nts_fz l
  have c1 := ceil_le (n := l.length) hb
  have e1 : evE ⟨call, io, []⟩ 97 (.lc (.bi .tuple1 [(.slice (.var 0) (some (.var 4)) (some (.bin .add (.var 4) (.var 1))))]) (.nm 4) .range [(.int 0), (.bi .len [(.var 0)]), (.var 1)] [] [4]) [some (.lst o (lN l)), some (.int b), some (.str e), none, none, none] =
      some (.tmp (.lst true ((chunks b l).map tN)), [some (.lst o (lN l)), some (.int b), some (.str e), none, none, none]) := by
    have r1 := rangeOf3 (i := 0) (j := l.length) (c := b) hb hb2 (by omega) (by omega)
    have r2 := rangeD_nat (ceilN 0 l.length b) 0 b
    simp only [Int.natCast_zero] at r1 r2
    have hi : evIt ⟨call, io, []⟩ 96 .range [(.int 0), (.bi .len [(.var 0)]), (.var 1)] [some (.lst o (lN l)), some (.int b), some (.str e), none, none, none] = some ((List.range (ceilN 0 l.length b)).map (fun k => nt (0 + k * b)), [some (.lst o (lN l)), some (.int b), some (.str e), none, none, none]) := by
      cases o <;> simp [fz, r1, r2]
    refine (ev_lc (C := ⟨call, io, []⟩) (n := 96) (v := 4) (f := fun d => match d with
      | .int z => tN ((l.drop z.toNat).take b)
      | _ => .non) rfl hi (by simp) (by simp [ownFz, slot]) (by simp [cap]; omega) (fun x hx => ?_) (by omega)).trans ?_
    · obtain ⟨k, _, rfl⟩ := List.mem_map.mp hx
      have cd := cutD_nat nt l (k * b) (k * b + b)
      rw [show k * b + b - k * b = b by omega] at cd
      have e0 : (((k * b : Nat) : Int) + (b : Int)) = ((k * b + b : Nat) : Int) := by omega
      have f2 : fzs (((l.map nt).drop (k * b)).take b) = true := by rw [← List.map_drop, ← List.map_take]; exact nts_fz _
      have e3 : ((0 + k * b : Nat) : Int) = ((k * b : Nat) : Int) := by simp
      simp only [e3]
      generalize k * b = z at *
      generalize z + b = z2 at *
      cases o <;> simp [fz, e0, cd, f2]
    · have e4 : ∀ k : Nat, ((k : Int) * (b : Int)).toNat = k * b := fun k => by rw [← Int.natCast_mul, Int.toNat_natCast]
      simp [List.map_map, chunks, Function.comp_def, e4]
  have e2 : evE ⟨call, io, []⟩ 97 (.lc (.var 5) (.nm 5) .val [(.var 3)] [(.bor [(.cmp .eq (.bi .len [(.var 5)]) (.var 1)), (.cmp .eq (.var 2) (.str (Str.ofString "short")))])] [5]) [some (.lst o (lN l)), some (.int b), some (.str e), some (.lst true ((chunks b l).map tN)), none, none] =
      some (.tmp (.lst true ((cutM b (e == sShort) l).map tN)), [some (.lst o (lN l)), some (.int b), some (.str e), some (.lst false ((chunks b l).map tN)), none, none]) := by
    have f3 := tNs_fz (chunks b l)
    have f4 := tNs_frz (chunks b l)
    have hi : evIt ⟨call, io, []⟩ 96 .val [(.var 3)] [some (.lst o (lN l)), some (.int b), some (.str e), some (.lst true ((chunks b l).map tN)), none, none] = some ((chunks b l).map tN, [some (.lst o (lN l)), some (.int b), some (.str e), some (.lst false ((chunks b l).map tN)), none, none]) := by
      simp [f4]
    refine (ev_lcIf (C := ⟨call, io, []⟩) (n := 95) (v := 5) (p := fun d => match d with
      | .tup xs => xs.length == b || e == sShort
      | _ => false) (f := fun d => d) rfl hi (by simp) (by simp [ownFz, slot]) (by simp [cap, chunks]; omega) (fun x hx => ?_) (fun x hx hp => ?_)).trans ?_
    · obtain ⟨y, _, rfl⟩ := List.mem_map.mp hx
      have f5 := nts_fz y
      cases h : y.length == b
      · simp [f5, plain, nat_beq, h, he, ok_short]
      · simp [f5, plain, nat_beq, h]
    · obtain ⟨y, _, rfl⟩ := List.mem_map.mp hx
      have f5 := nts_fz y
      simp [f5]
    · simp only [List.filter_map, cutM]
      simp [Function.comp_def]
  have s1 := evS_asg ⟨call, io, []⟩ 97 3 _ _ e1 (by simp) rfl
  simp only [List.set_cons_succ, List.set_cons_zero] at s1
  unfold runF
  simp only [f_cut, List.length_cons, List.length_nil, if_true]
  show (match evSs ⟨call, io, []⟩ 100 _ [some (.lst o (lN l)), some (.int b), some (.str e), none, none, none] with
        | some (.rt d δ) => (outsOf δ [] 0 3).map fun o => (d, o)
        | some (.nx δ) => (outsOf δ [] 0 3).map fun o => (.non, o)
        | _ => none) = _
  rw [evSs_cons _ 99 _ _ _ s1, evSs_ret _ 97 _ _ _ e2]
  simp
end Ev

set_option linter.all false
set_option maxRecDepth 100000
set_option maxHeartbeats 4000000
/-! MD: shares, batches, use_order -/
namespace Ev
open PySem
/-- the end of a def -/
theorem runF_rt {C : Ctx} {f : Fn} {ds : List D} {d : D} {δ0 δ : Dl} {outs : List D} (hl : ds.length = f.ps) (h0 : startD f ds = δ0) (h : evSs C 100 f.body δ0 = some (.rt d δ)) (ho : outsOf δ f.io 0 f.ps = some outs) : runF C f ds = some (d, outs) := by
  unfold runF
  rw [if_pos hl, h0, h]
  simp only [ho, Option.map_some]
theorem forL_inv {set : D → Dl → Option Dl} {body : Dl → Option Fl} {α β : Type} (I : β → Dl → Prop) (em : α → D) (step : β → α → β) :
    ∀ (xs : List α) (b : β) (δ : Dl), (∀ b, ∀ x ∈ xs, ∀ δ, I b δ → ∃ δ1 δ2, set (em x) δ = some δ1 ∧ body δ1 = some (.nx δ2) ∧ I (step b x) δ2) → I b δ → ∃ δ', forL set body (xs.map em) δ = some (.nx δ') ∧ I (xs.foldl step b) δ'
  | [], b, δ, _, i => ⟨δ, rfl, i⟩
  | x :: xs, b, δ, h, i => by
    obtain ⟨δ1, δ2, h1, h2, h3⟩ := h b x (by simp) δ i
    obtain ⟨δ', h4, h5⟩ := forL_inv (set := set) (body := body) I em step xs (step b x) δ2 (fun b y hy => h b y (by simp [hy])) h3
    refine ⟨δ', ?_, h5⟩
    simp only [List.map_cons, forL, h1, h2]
    exact h4
theorem methX_run {m : Me} {es : Dl → Option (List A × Dl)} {s : Nat} {δ1 δ2 δ3 : Dl} {d0 d r d' : D} {as : List A} {ds : List D} (h0 : slot δ1 s = some d0) (hl : isLst (some d0) = true) (h1 : es δ1 = some (as, δ2)) (h2 : toVs δ2 as = some (ds, δ3)) (h3 : slot δ3 s = some d) (h4 : methD m d ds = some (r, d')) :
    methX m es (some (.bor s [], δ1)) = some (.tmp r, δ3.set s (some d')) := by
  simp [methX, h0, hl, h1, h2, h3, h4]
def stride (w n W : Nat) : List Nat := (List.range (ceilN w n W)).map fun k => w + k * W
def part (w n W : Nat) : List Nat := up (w * n / W) ((w + 1) * n / W - w * n / W)
def sharesM (it : Bool) (W n : Nat) : List (List Nat) := (List.range W).map fun w => if it then stride w n W else part w n W
def f_shares : Fn := { n := 4, ps := 3, io := [], body := [.ifs (.cmp .eq (.var 0) (.str (Str.ofString "items"))) [.ret (.lc (.bi .lrange [(.var 3), (.var 2), (.var 1)]) (.nm 3) .range [(.var 1)] [] [3])] [],
    .ret (.lc (.bi .lrange [(.bin .fdiv (.bin .mul (.var 3) (.var 2)) (.var 1)), (.bin .fdiv (.bin .mul (.bin .add (.var 3) (.int 1)) (.var 2)) (.var 1))]) (.nm 3) .range [(.var 1)] [] [3])] }
theorem strs_eq {x y : Str} (hx : PyData.strOk x = true) (hy : PyData.strOk y = true) (n : Nat) (C : Ctx) (i : Nat) (δ : Dl) (h : slot δ i = some (.str x)) : evT C (n + 5) (.cmp .eq (.var i) (.str y)) δ = some (x == y, δ) := by
  simp [h, plain, hx, hy]
theorem sm64n {t : Nat} (h : t ≤ 1000000) : small64 t = true := sm (by omega) (by omega)
abbrev lstN (l : List Nat) : D := .lst true (l.map nt)
theorem stride_run {call : Nat → List D → Option (D × List D)} {io : Nat → List Nat} {way : Str} {W n : Nat} (h0 : 0 < W) (h1 : W ≤ 1000) (h2 : n ≤ 1000) (m : Nat) :
    evE ⟨call, io, []⟩ (m + 30) (.lc (.bi .lrange [(.var 3), (.var 2), (.var 1)]) (.nm 3) .range [(.var 1)] [] [3]) [some (.str way), some (.int W), some (.int n), none] = some (.tmp (.lst true ((List.range W).map fun w => lstN (stride w n W))), [some (.str way), some (.int W), some (.int n), none]) := by
  have hi : evIt ⟨call, io, []⟩ (m + 29) .range [(.var 1)] [some (.str way), some (.int W), some (.int n), none] = some ((List.range W).map nt, [some (.str way), some (.int W), some (.int n), none]) := by
    simp [rangeOf1 (t := W) (by omega), rangeD_up0]
  refine (ev_lc (C := ⟨call, io, []⟩) (n := m + 29) (v := 3) (f := fun d => match d with
      | .int z => lstN (stride z.toNat n W)
      | _ => .non) rfl hi (by simp) (by simp [ownFz]) (by simp [cap]; omega) (fun x hx => ?_) (by omega)).trans ?_
  · obtain ⟨w, hw, rfl⟩ := List.mem_map.mp hx
    have hw := List.mem_range.mp hw
    have r1 := rangeOf3 (i := w) (j := n) (c := W) h0 (by omega) (by omega) (by omega)
    have r2 := rangeD_nat (ceilN w n W) w W
    have r3 : ceilN w n W ≤ 1000000 := by
      unfold ceilN
      have := Nat.div_le_self (n - w + W - 1) W
      omega
    simp [r1, r2, stride, cap, r3]
  · simp [List.map_map, Function.comp_def]
theorem div_le_of {a b c : Nat} (hc : 0 < c) (h : a ≤ c * b) : a / c ≤ b := by
  rw [Nat.div_le_iff_le_mul_add_pred hc]
  omega
theorem part_run {call : Nat → List D → Option (D × List D)} {io : Nat → List Nat} {way : Str} {W n : Nat} (h0 : 0 < W) (h1 : W ≤ 1000) (h2 : n ≤ 1000) (m : Nat) :
    evE ⟨call, io, []⟩ (m + 30) (.lc (.bi .lrange [(.bin .fdiv (.bin .mul (.var 3) (.var 2)) (.var 1)), (.bin .fdiv (.bin .mul (.bin .add (.var 3) (.int 1)) (.var 2)) (.var 1))]) (.nm 3) .range [(.var 1)] [] [3]) [some (.str way), some (.int W), some (.int n), none] =
      some (.tmp (.lst true ((List.range W).map fun w => lstN (part w n W))), [some (.str way), some (.int W), some (.int n), none]) := by
  have hi : evIt ⟨call, io, []⟩ (m + 29) .range [(.var 1)] [some (.str way), some (.int W), some (.int n), none] = some ((List.range W).map nt, [some (.str way), some (.int W), some (.int n), none]) := by
    simp [rangeOf1 (t := W) (by omega), rangeD_up0]
  refine (ev_lc (C := ⟨call, io, []⟩) (n := m + 29) (v := 3) (f := fun d => match d with
      | .int z => lstN (part z.toNat n W)
      | _ => .non) rfl hi (by simp) (by simp [ownFz]) (by simp [cap]; omega) (fun x hx => ?_) (by omega)).trans ?_
  · obtain ⟨w, hw, rfl⟩ := List.mem_map.mp hx
    have hw := List.mem_range.mp hw
    have q1 : w * n / W ≤ n := div_le_of h0 (Nat.mul_le_mul_right n (by omega))
    have q2 : (w + 1) * n / W ≤ n := div_le_of h0 (Nat.mul_le_mul_right n (by omega))
    have r1 := rangeOf2 (i := w * n / W) (j := (w + 1) * n / W) (by omega) (by omega)
    have e1 : ((w : Int) * (n : Int) / (W : Int)) = ((w * n / W : Nat) : Int) := by simp
    have e2 : (((w : Int) + 1) * (n : Int) / (W : Int)) = (((w + 1) * n / W : Nat) : Int) := by simp
    have s1 := sm64n (t := n) (by omega)
    have p1 : (W : Int) < 1073741824 := by omega
    have p3 : (w + 1) * n / W - w * n / W ≤ 1000000 := Nat.le_trans (Nat.sub_le _ _) (Nat.le_trans q2 (by omega))
    have r2 := rangeD_up (w * n / W) ((w + 1) * n / W - w * n / W)
    simp only [qevV_1, qevE_bi, qevAs_2, qevAs_1, qevE_bin, qevE_var, qevE_int, List.set_cons_succ, List.set_cons_zero, qslot_s, qslot_z, qfz_int, if_true, qsettle_tmp, qlooks_cons, qlooks_nil, qlook_tmp, qbin_mul, qbin_add, qbin_fdiv, s1, Bool.or_true, h0, p1, decide_true, Bool.and_self, e1, e2, Int.natCast_pos, qbi_lrange, r1, r2, List.length_map, up, List.length_range, p3, cap, qtoV_tmp]
    simp [part, up]
  · simp [List.map_map, Function.comp_def]

theorem evS_if_t (C : Ctx) (n : Nat) (c : E) (a b : List S) (δ : Dl) {δ1 : Dl} (h : evT C n c δ = some (true, δ1)) : evS C (n + 1) (.ifs c a b) δ = evSs C n a δ1 := by simp only [evS, h]
theorem evS_if_f (C : Ctx) (n : Nat) (c : E) (a b : List S) (δ : Dl) {δ1 : Dl} (h : evT C n c δ = some (false, δ1)) : evS C (n + 1) (.ifs c a b) δ = evSs C n b δ1 := by simp only [evS, h]
theorem evSs_nil (C : Ctx) (n : Nat) (δ : Dl) : evSs C (n + 1) [] δ = some (.nx δ) := by simp only [evSs]
theorem evSs_stop (C : Ctx) (n : Nat) (s : S) (ss : List S) (δ : Dl) {d : D} {δ1 : Dl} (h : evS C n s δ = some (.rt d δ1)) : evSs C (n + 1) (s :: ss) δ = some (.rt d δ1) := by
  simp only [evSs, h]
theorem shares_run {call : Nat → List D → Option (D × List D)} {io : Nat → List Nat} {way : Str} {W n : Nat} (hw : PyData.strOk way = true) (h0 : 0 < W) (h1 : W ≤ 1000) (h2 : n ≤ 1000) :
    runF ⟨call, io, []⟩ f_shares [.str way, .int W, .int n] = some (.lst true ((sharesM (way == sItems) W n).map lstN), []) := by
  have t := strs_eq hw ok_items 94 ⟨call, io, []⟩ 0 [some (.str way), some (.int W), some (.int n), none] rfl
  have e2 := part_run (call := call) (io := io) (way := way) h0 h1 h2 68
  unfold sharesM
  cases hc : way == sItems with
  | true =>
    rw [hc] at t
    refine runF_rt (f := f_shares) rfl rfl (δ := [some (.str way), some (.int W), some (.int n), none]) ?_ rfl
    refine evSs_stop _ 99 _ _ _ ((evS_if_t _ 98 _ _ _ _ t).trans ?_)
    have e3 := stride_run (call := call) (io := io) (way := way) h0 h1 h2 66
    rw [evSs_ret _ 96 _ _ _ e3]
    simp [Function.comp_def]
  | false =>
    rw [hc] at t
    refine runF_rt (f := f_shares) rfl rfl (δ := [some (.str way), some (.int W), some (.int n), none]) ?_ rfl
    refine (evSs_cons _ 99 _ _ _ ((evS_if_f _ 98 _ _ _ _ t).trans (evSs_nil _ 97 _))).trans ?_
    rw [evSs_ret _ 97 _ _ _ e2]
    simp [Function.comp_def]
end Ev

set_option linter.all false
set_option maxRecDepth 100000
set_option maxHeartbeats 4000000
/-! ME: batches, use_order -/
namespace Ev
open PySem
theorem forL_pre {set : D → Dl → Option Dl} {body : Dl → Option Fl} {α : Type} (I : List α → Dl → Prop) (em : α → D) (all : List α)
    (h : ∀ pre x post δ, all = pre ++ x :: post → I pre δ → ∃ δ1 δ2, set (em x) δ = some δ1 ∧ body δ1 = some (.nx δ2) ∧ I (pre ++ [x]) δ2) :
    ∀ (xs pre : List α) (δ : Dl), all = pre ++ xs → I pre δ → ∃ δ', forL set body (xs.map em) δ = some (.nx δ') ∧ I all δ'
  | [], pre, δ, e, i => ⟨δ, rfl, by rw [e, List.append_nil]; exact i⟩
  | x :: xs, pre, δ, e, i => by
    obtain ⟨δ1, δ2, h1, h2, h3⟩ := h pre x xs δ e i
    obtain ⟨δ', h4, h5⟩ := forL_pre (set := set) (body := body) I em all h xs (pre ++ [x]) δ2 (by rw [e]; simp) h3
    refine ⟨δ', ?_, h5⟩
    simp only [List.map_cons, forL, h1, h2]
    exact h4
def roundM (rows : List (List (List Nat))) (t : Nat) : List (List Nat) := rows.filterMap fun r => r[t]?
def batchesM (way : Str) (W b : Nat) (sh : Bool) (n : Nat) : List (List Nat) :=
  if way == sTurns then cutM b sh (List.range n) else (List.range n).flatMap (roundM ((sharesM (way == sItems) W n).map (cutM b sh)))
theorem roundM_len (rows : List (List (List Nat))) (t : Nat) : (roundM rows t).length ≤ rows.length := by
  unfold roundM
  exact List.length_filterMap_le ..
theorem rounds_len (rows : List (List (List Nat))) : ∀ l : List Nat, (l.flatMap (roundM rows)).length ≤ l.length * rows.length
  | [] => by simp
  | t :: l => by
    have := roundM_len rows t
    have := rounds_len rows l
    rw [List.flatMap_cons, List.length_append, List.length_cons, Nat.add_mul, Nat.one_mul]
    omega
abbrev rowD (o : Bool) (r : List (List Nat)) : D := .lst o (r.map tN)
theorem rows_frz (o : Bool) : ∀ rows : List (List (List Nat)), frzs (rows.map (rowD o)) = rows.map (rowD false)
  | [] => rfl
  | r :: rows => by simp only [List.map_cons, frzs, D.frz, rows_frz o rows, tNs_frz]
theorem rows_fz : ∀ rows : List (List (List Nat)), fzs (rows.map (rowD false)) = true
  | [] => rfl
  | r :: rows => by simp only [List.map_cons, fzs, D.fz, rows_fz rows, tNs_fz]; rfl
theorem round_eq (t : Nat) : ∀ rows : List (List (List Nat)), (((rows.map (rowD false)).filter fun d => match d with
      | .lst _ xs => decide (t < xs.length)
      | _ => false).map fun d => match d with
      | .lst _ xs => xs.getD t .non
      | _ => .non) = (roundM rows t).map tN
  | [] => rfl
  | r :: rows => by
    have ih := round_eq t rows
    simp only [roundM] at ih ⊢
    by_cases h : t < r.length
    · have e : r[t]? = some r[t] := List.getElem?_eq_getElem h
      simp only [List.map_cons, List.filter_cons, List.length_map, h, decide_true, if_true, List.filterMap_cons, e, ih]
      simp [h]
    · have e : r[t]? = none := List.getElem?_eq_none (by omega)
      simp only [List.map_cons, List.filter_cons, List.length_map, h, decide_false, List.filterMap_cons, e, Bool.false_eq_true, if_false]
      exact ih
theorem round_run {call : Nat → List D → Option (D × List D)} {io : Nat → List Nat} {a0 a3 a4 a5 a6 a9 : Option D} {o p : Bool} {n t : Nat} {rows : List (List (List Nat))} {acc : List (List Nat)} (h1 : rows.length ≤ 1000) (h2 : acc.length + rows.length ≤ cap) (m : Nat) :
    ∃ p', evSs ⟨call, io, []⟩ (m + 40) [.expr (.meth .extend (.var 8) [(.lc (.sub (.var 10) (.var 2)) (.nm 10) .val [(.var 7)] [(.cmp .lt (.var 2) (.bi .len [(.var 10)]))] [10])])] [a0, some (.int n), some (nt t), a3, a4, a5, a6, some (.lst p (rows.map (rowD p))), some (.lst true (acc.map tN)), a9, none] =
      some (.nx [a0, some (.int n), some (nt t), a3, a4, a5, a6, some (.lst p' (rows.map (rowD p'))), some (.lst true ((acc ++ roundM rows t).map tN)), a9, none]) := by
  refine ⟨false, ?_⟩
  have f1 := rows_frz p rows
  have f2 := rows_fz rows
  have f3 := rows_frz false rows
  have g1 := tNs_fz acc
  have hi : evIt ⟨call, io, []⟩ (m + 35) .val [(.var 7)] [a0, some (.int n), some (nt t), a3, a4, a5, a6, some (.lst p (rows.map (rowD p))), some (.lst true (acc.map tN)), a9, none] = some (rows.map (rowD false), [a0, some (.int n), some (nt t), a3, a4, a5, a6, some (.lst false (rows.map (rowD false))), some (.lst true (acc.map tN)), a9, none]) := by
    cases p <;> simp [f1, f2, f3]
  have e1 : evE ⟨call, io, []⟩ (m + 36) (.lc (.sub (.var 10) (.var 2)) (.nm 10) .val [(.var 7)] [(.cmp .lt (.var 2) (.bi .len [(.var 10)]))] [10]) [a0, some (.int n), some (nt t), a3, a4, a5, a6, some (.lst p (rows.map (rowD p))), some (.lst true (acc.map tN)), a9, none] =
      some (.tmp (.lst true ((roundM rows t).map tN)), [a0, some (.int n), some (nt t), a3, a4, a5, a6, some (.lst false (rows.map (rowD false))), some (.lst true (acc.map tN)), a9, none]) := by
    refine (ev_lcIf (C := ⟨call, io, []⟩) (n := m + 34) (v := 10) (p := fun d => match d with
      | .lst _ xs => decide (t < xs.length)
      | _ => false) (f := fun d => match d with
      | .lst _ xs => xs.getD t .non
      | _ => .non) rfl hi (by simp) (by simp [ownFz]) (by simp [cap]; omega) (fun x hx => ?_) (fun x hx hp => ?_)).trans ?_
    · obtain ⟨y, _, rfl⟩ := List.mem_map.mp hx
      have f5 := tNs_fz y
      simp [f5]
    · obtain ⟨y, _, rfl⟩ := List.mem_map.mp hx
      have f5 := tNs_fz y
      have lt : t < y.length := by simpa using hp
      have e2 : ixN y.length t = some t := by
        unfold ixN
        rw [if_pos (by omega), if_pos (by omega)]
        simp
      have f6 := nts_fz y[t]
      simp [f5, e2, lt, f6]
    · rw [round_eq]
  have g2 := tNs_fz (roundM rows t)
  have l2 := roundM_len rows t
  have l3 : acc.length + (roundM rows t).length ≤ cap := by omega
  have e3 : evE ⟨call, io, []⟩ (m + 38) (.meth .extend (.var 8) [(.lc (.sub (.var 10) (.var 2)) (.nm 10) .val [(.var 7)] [(.cmp .lt (.var 2) (.bi .len [(.var 10)]))] [10])]) [a0, some (.int n), some (nt t), a3, a4, a5, a6, some (.lst p (rows.map (rowD p))), some (.lst true (acc.map tN)), a9, none] =
      some (.tmp .non, [a0, some (.int n), some (nt t), a3, a4, a5, a6, some (.lst false (rows.map (rowD false))), some (.lst true ((acc ++ roundM rows t).map tN)), a9, none]) := by
    rw [qevE_extend]
    have e4 : evE ⟨call, io, []⟩ (m + 37) (.var 8) [a0, some (.int n), some (nt t), a3, a4, a5, a6, some (.lst p (rows.map (rowD p))), some (.lst true (acc.map tN)), a9, none] = some (.bor 8 [], [a0, some (.int n), some (nt t), a3, a4, a5, a6, some (.lst p (rows.map (rowD p))), some (.lst true (acc.map tN)), a9, none]) := by
      simp
    rw [e4]
    have e5 : evAs ⟨call, io, []⟩ (m + 37) [(.lc (.sub (.var 10) (.var 2)) (.nm 10) .val [(.var 7)] [(.cmp .lt (.var 2) (.bi .len [(.var 10)]))] [10])] [a0, some (.int n), some (nt t), a3, a4, a5, a6, some (.lst p (rows.map (rowD p))), some (.lst true (acc.map tN)), a9, none] =
        some ([.tmp (.lst true ((roundM rows t).map tN))], [a0, some (.int n), some (nt t), a3, a4, a5, a6, some (.lst false (rows.map (rowD false))), some (.lst true (acc.map tN)), a9, none]) := by
      rw [qevAs_2, e1]
      simp
    exact methX_run (s := 8) rfl rfl e5 rfl rfl (by simp [methD, g2, l3])
  rw [evSs_cons (C := ⟨call, io, []⟩) (n := m + 39) (h := by rw [qevS_expr, e3]), evSs_nil]

theorem evS_retO (C : Ctx) (n i : Nat) (e : E) (δ : Dl) {d : D} {δ1 : Dl} (h : evE C n e δ = some (.bor i [], δ1)) (hs : slot δ1 i = some d) (hl : C.lock.contains i = false) : evS C (n + 1) (.ret e) δ = some (.rt d (δ1.set i none)) := by
  simp only [evS, h, hs, hl, if_false, Bool.false_eq_true]
theorem cuts_run {call : Nat → List D → Option (D × List D)} {io : Nat → List Nat} {ic ish : Nat} (hic : io ic = []) (his : io ish = []) {d : D} {way e : Str} {W b n : Nat} {a2 a7 a8 : Option D} (m : Nat) (hW : W ≤ 1000)
    (hcut : ∀ (o : Bool) (l : List Nat), l.length ≤ 1000 → call ic [.lst o (l.map nt), .int b, .str e] = some (.lst true ((cutM b (e == sShort) l).map tN), [])) (hsh : call ish [.str way, .int W, .int n] = some (.lst true ((sharesM (way == sItems) W n).map lstN), []))
    (hsl : ∀ l ∈ sharesM (way == sItems) W n, l.length ≤ 1000) :
    evE ⟨call, io, []⟩ (m + 40) (.lc (.call ic [(.var 9), (.var 5), (.var 6)]) (.nm 9) .val [(.call ish [(.var 3), (.var 4), (.var 1)])] [] [9]) [some d, some (.int n), a2, some (.str way), some (.int W), some (.int b), some (.str e), a7, a8, none, none] =
      some (.tmp (.lst true (((sharesM (way == sItems) W n).map (cutM b (e == sShort))).map (rowD true))), [some d, some (.int n), a2, some (.str way), some (.int W), some (.int b), some (.str e), a7, a8, none, none]) := by
  have f1 : ∀ l : List (List Nat), frzs (l.map lstN) = l.map fun r => .lst false (r.map nt) := fun l => by
    induction l with
    | nil => rfl
    | cons x l ih => simp only [List.map_cons, frzs, D.frz, ih, nts_frz]
  have hi : evIt ⟨call, io, []⟩ (m + 39) .val [(.call ish [(.var 3), (.var 4), (.var 1)])] [some d, some (.int n), a2, some (.str way), some (.int W), some (.int b), some (.str e), a7, a8, none, none] =
      some ((sharesM (way == sItems) W n).map fun r => .lst false (r.map nt), [some d, some (.int n), a2, some (.str way), some (.int W), some (.int b), some (.str e), a7, a8, none, none]) := by
    simp [his, hsh, f1]
  refine (ev_lc (C := ⟨call, io, []⟩) (n := m + 39) (v := 9) (f := fun x => match call ic [x, .int b, .str e] with
    | some (y, _) => y
    | none => .non) rfl hi (by simp) (by simp [ownFz]) (by simp [cap, sharesM]; omega) (fun x hx => ?_) (by omega)).trans ?_
  · obtain ⟨l, hl, rfl⟩ := List.mem_map.mp hx
    have h := hcut false l (hsl l hl)
    have f2 := nts_fz l
    simp [f2, hic, h]
  · have : ∀ L : List (List Nat), (∀ l ∈ L, l.length ≤ 1000) → (L.map fun r => D.lst false (r.map nt)).map (fun x => match call ic [x, .int b, .str e] with
        | some (y, _) => y
        | none => .non) = (L.map (cutM b (e == sShort))).map (rowD true) := fun L hL => by
      rw [List.map_map, List.map_map]
      apply List.map_congr_left
      intro l hl
      have h := hcut false l (hL l hl)
      simp only [Function.comp, h]
    rw [this _ hsl]
def f_batches (it ic ish : Nat) : Fn := { n := 11, ps := 2, io := [], body := [.asg (.tp [3, 4, 5, 6]) (.call it [(.var 0)]),
    .ifs (.cmp .eq (.var 3) (.str (Str.ofString "turns"))) [.ret (.call ic [(.bi .lrange [(.var 1)]), (.var 5), (.var 6)])] [],
    .par [7, 8] [(.lc (.call ic [(.var 9), (.var 5), (.var 6)]) (.nm 9) .val [(.call ish [(.var 3), (.var 4), (.var 1)])] [] [9]), (.lst [])],
    .for_ (.nm 2) .range [(.var 1)] [.expr (.meth .extend (.var 8) [(.lc (.sub (.var 10) (.var 2)) (.nm 10) .val [(.var 7)] [(.cmp .lt (.var 2) (.bi .len [(.var 10)]))] [10])])],
    .ret (.var 8)] }
theorem shares_len {it : Bool} {W n : Nat} (h0 : 0 < W) (h2 : n ≤ 1000) : ∀ l ∈ sharesM it W n, l.length ≤ 1000 := by
  intro l hl
  obtain ⟨w, hw, rfl⟩ := List.mem_map.mp hl
  have hw := List.mem_range.mp hw
  cases it with
  | true =>
    have : ceilN w n W ≤ 1000 := by
      unfold ceilN
      have : (n - w + W - 1) / W < n + 1 := by
        rw [Nat.div_lt_iff_lt_mul h0, Nat.add_mul, Nat.one_mul]
        have : n * 1 ≤ n * W := Nat.mul_le_mul_left n h0
        omega
      omega
    simpa [stride] using this
  | false =>
    have q2 : (w + 1) * n / W ≤ n := div_le_of h0 (Nat.mul_le_mul_right n (by omega))
    have : (w + 1) * n / W - w * n / W ≤ 1000 := Nat.le_trans (Nat.sub_le _ _) (Nat.le_trans q2 h2)
    simpa [part, up] using this
theorem batches_run {call : Nat → List D → Option (D × List D)} {io : Nat → List Nat} {it ic ish : Nat} (hit : io it = []) (hic : io ic = []) (his : io ish = []) {d : D} {way e : Str} {W b n : Nat} (fd : d.fz = true) (hway : PyData.strOk way = true) (hW0 : 0 < W) (hW : W ≤ 100) (hn : n ≤ 1000)
    (htup : call it [d] = some (.tup [.str way, .int W, .int b, .str e], []))
    (hcut : ∀ (o : Bool) (l : List Nat), l.length ≤ 1000 → call ic [.lst o (l.map nt), .int b, .str e] = some (.lst true ((cutM b (e == sShort) l).map tN), [])) (hsh : call ish [.str way, .int W, .int n] = some (.lst true ((sharesM (way == sItems) W n).map lstN), [])) :
    runF ⟨call, io, []⟩ (f_batches it ic ish) [d, .int n] = some (.lst true ((batchesM way W b (e == sShort) n).map tN), []) := by
  have s1 : evS ⟨call, io, []⟩ 99 (.asg (.tp [3, 4, 5, 6]) (.call it [(.var 0)])) [some d, some (.int n), none, none, none, none, none, none, none, none, none] = some (.nx [some d, some (.int n), none, some (.str way), some (.int W), some (.int b), some (.str e), none, none, none, none]) := by
    simp [fd, hit, htup]
  have t := strs_eq hway ok_turns 92 ⟨call, io, []⟩ 3 [some d, some (.int n), none, some (.str way), some (.int W), some (.int b), some (.str e), none, none, none, none] rfl
  unfold batchesM
  cases hc : way == sTurns with
  | true =>
    rw [hc] at t
    refine runF_rt (f := f_batches it ic ish) rfl rfl (δ := [some d, some (.int n), none, some (.str way), some (.int W), some (.int b), some (.str e), none, none, none, none]) ?_ rfl
    refine (evSs_cons _ 99 _ _ _ s1).trans (evSs_stop _ 98 _ _ _ ((evS_if_t _ 97 _ _ _ _ t).trans ?_))
    have h := hcut true (List.range n) (by simpa using hn)
    have r := rangeOf1 (t := n) (by omega)
    have e3 : evE ⟨call, io, []⟩ 95 (.call ic [(.bi .lrange [(.var 1)]), (.var 5), (.var 6)]) [some d, some (.int n), none, some (.str way), some (.int W), some (.int b), some (.str e), none, none, none, none] =
        some (.tmp (.lst true ((cutM b (e == sShort) (List.range n)).map tN)), [some d, some (.int n), none, some (.str way), some (.int W), some (.int b), some (.str e), none, none, none, none]) := by
      have l : n ≤ cap := by unfold cap; omega
      simp [r, rangeD_up0, hic, h, l]
    rw [evSs_ret _ 95 _ _ _ e3]
    rfl
  | false =>
    rw [hc] at t
    have c1 := cuts_run (a2 := none) (a7 := none) (a8 := none) hic his (d := d) 55 (by omega) hcut hsh (shares_len hW0 hn)
    generalize hrows : (sharesM (way == sItems) W n).map (cutM b (e == sShort)) = rows at c1
    have hlen : rows.length ≤ 100 := by rw [← hrows]; simpa [sharesM] using hW
    have s3 : evS ⟨call, io, []⟩ 97 (.par [7, 8] [(.lc (.call ic [(.var 9), (.var 5), (.var 6)]) (.nm 9) .val [(.call ish [(.var 3), (.var 4), (.var 1)])] [] [9]), (.lst [])]) [some d, some (.int n), none, some (.str way), some (.int W), some (.int b), some (.str e), none, none, none, none] =
        some (.nx [some d, some (.int n), none, some (.str way), some (.int W), some (.int b), some (.str e), some (.lst true (rows.map (rowD true))), some (.lst true []), none, none]) := by
      rw [qevS_par, qevAs_2, c1]
      simp
    have r := rangeOf1 (t := n) (by omega)
    obtain ⟨δ', h4, p, t', h5⟩ := forL_pre (set := setT [] (.nm 2)) (body := evSs ⟨call, io, []⟩ 95 [.expr (.meth .extend (.var 8) [(.lc (.sub (.var 10) (.var 2)) (.nm 10) .val [(.var 7)] [(.cmp .lt (.var 2) (.bi .len [(.var 10)]))] [10])])])
      (fun pre δ => ∃ p t', δ = [some d, some (.int n), t', some (.str way), some (.int W), some (.int b), some (.str e), some (.lst p (rows.map (rowD p))), some (.lst true ((pre.flatMap (roundM rows)).map tN)), none, none]) nt (List.range n)
      (fun pre x post δ eq i => by
        obtain ⟨p, t', rfl⟩ := i
        have hp : pre.length ≤ 1000 := by
          have := congrArg List.length eq
          simp at this
          omega
        have hb := rounds_len rows pre
        have hb2 : pre.length * rows.length ≤ 1000 * 100 := Nat.mul_le_mul hp hlen
        obtain ⟨p', h⟩ := round_run (call := call) (io := io) (a0 := some d) (a3 := some (.str way)) (a4 := some (.int W)) (a5 := some (.int b)) (a6 := some (.str e)) (a9 := none) (o := true) (p := p) (n := n) (t := x) (rows := rows) (acc := pre.flatMap (roundM rows)) (by omega) (by unfold cap; omega) 55
        exact ⟨[some d, some (.int n), some (nt x), some (.str way), some (.int W), some (.int b), some (.str e), some (.lst p (rows.map (rowD p))), some (.lst true ((pre.flatMap (roundM rows)).map tN)), none, none], _, by simp, h, p', some (nt x), by simp⟩) (List.range n) [] _ (by simp) ⟨true, none, rfl⟩
    have hi : evIt ⟨call, io, []⟩ 95 .range [(.var 1)] [some d, some (.int n), none, some (.str way), some (.int W), some (.int b), some (.str e), some (.lst true (rows.map (rowD true))), some (.lst true []), none, none] =
        some ((List.range n).map nt, [some d, some (.int n), none, some (.str way), some (.int W), some (.int b), some (.str e), some (.lst true (rows.map (rowD true))), some (.lst true []), none, none]) := by
      simp [r, rangeD_up0]
    have s4 : evS ⟨call, io, []⟩ 96 (.for_ (.nm 2) .range [(.var 1)] [.expr (.meth .extend (.var 8) [(.lc (.sub (.var 10) (.var 2)) (.nm 10) .val [(.var 7)] [(.cmp .lt (.var 2) (.bi .len [(.var 10)]))] [10])])]) [some d, some (.int n), none, some (.str way), some (.int W), some (.int b), some (.str e), some (.lst true (rows.map (rowD true))), some (.lst true []), none, none] = some (.nx δ') :=
      evS_for _ 95 _ _ _ _ _ hi h4
    have g := tNs_fz ((List.range n).flatMap (roundM rows))
    refine runF_rt (f := f_batches it ic ish) rfl rfl (δ := [some d, some (.int n), t', some (.str way), some (.int W), some (.int b), some (.str e), some (.lst p (rows.map (rowD p))), none, none, none]) ?_ rfl
    refine (evSs_cons _ 99 _ _ _ s1).trans ((evSs_cons _ 98 _ _ _ ((evS_if_f _ 97 _ _ _ _ t).trans (evSs_nil _ 96 _))).trans ((evSs_cons _ 97 _ _ _ s3).trans ((evSs_cons _ 96 _ _ _ s4).trans ?_)))
    subst h5
    refine evSs_stop _ 95 _ _ _ ?_
    refine (evS_retO _ 94 8 _ _ (δ1 := [some d, some (.int n), t', some (.str way), some (.int W), some (.int b), some (.str e), some (.lst p (rows.map (rowD p))), some (.lst true (((List.range n).flatMap (roundM rows)).map tN)), none, none]) (by simp) rfl rfl).trans ?_
    rfl

theorem lc2L_flat {set : D → Dl → Option Dl} {its : Dl → Option (List D × Dl)} {inner : List D → List D → Dl → Option (List D × Dl)} {own own2 : List Nat} {δ : Dl} {g : D → List D} :
    ∀ (xs acc : List D), (∀ x ∈ xs, ∀ acc, ∃ δ1 δ2 ys δ3, set x δ = some δ1 ∧ its δ1 = some (ys, δ2) ∧ (acc.length + (g x).length ≤ cap → inner ys acc (wipeD δ2 own2) = some (acc ++ g x, δ3)) ∧ wipeD δ3 own = δ) → acc.length + (xs.flatMap g).length ≤ cap →
    lc2L set its inner own own2 xs acc δ = some (acc ++ xs.flatMap g, δ)
  | [], acc, _, _ => by simp [lc2L]
  | x :: xs, acc, h, hl => by
    obtain ⟨δ1, δ2, ys, δ3, h1, h2, h3, h4⟩ := h x (by simp) acc
    rw [List.flatMap_cons, List.length_append] at hl
    have ih := lc2L_flat (set := set) (its := its) (inner := inner) (own := own) (own2 := own2) (δ := δ) (g := g) xs (acc ++ g x) (fun y hy => h y (by simp [hy])) (by rw [List.length_append]; omega)
    simp only [lc2L, h1, h2, h3 (by omega), h4, ih]
    simp
def f_use_order (ib : Nat) : Fn := { n := 4, ps := 2, io := [], body := [.ret (.bi .tuple1 [(.lc2 (.var 3) (.nm 2) .val [(.call ib [(.var 0), (.var 1)])] (.nm 3) .val [(.var 2)] [2, 3] [3])])] }
theorem use_order_run {call : Nat → List D → Option (D × List D)} {io : Nat → List Nat} {ib : Nat} (hib : io ib = []) {d : D} {n : Nat} {bs : List (List Nat)} (fd : d.fz = true) (hb : call ib [d, .int n] = some (.lst true (bs.map tN), [])) (hl : bs.length ≤ 100000) (hf : bs.flatten.length ≤ cap) :
    runF ⟨call, io, []⟩ (f_use_order ib) [d, .int n] = some (tN bs.flatten, []) := by
  have f1 := tNs_frz bs
  have hi : evIt ⟨call, io, []⟩ 95 .val [(.call ib [(.var 0), (.var 1)])] [some d, some (.int n), none, none] = some (bs.map tN, [some d, some (.int n), none, none]) := by
    simp [fd, hib, hb, f1]
  have hflat : (bs.map tN).flatMap (fun x => match x with
        | .tup xs => xs
        | _ => []) = bs.flatten.map nt := by
    clear hb hl hf f1 hi
    induction bs with
    | nil => rfl
    | cons b bs ih => simp only [List.map_cons, List.flatMap_cons, List.flatten_cons, List.map_append, ih]
  have h2 : lc2L (setT [] (.nm 2)) (evIt ⟨call, io, []⟩ 95 .val [(.var 2)]) (lcL (setT [] (.nm 3)) (evIfs ⟨call, io, []⟩ 95 []) (evV ⟨call, io, []⟩ 95 (.var 3)) [3]) [2, 3] [3] (bs.map tN) [] [some d, some (.int n), none, none] = some ([] ++ (bs.map tN).flatMap (fun x => match x with
        | .tup xs => xs
        | _ => []), [some d, some (.int n), none, none]) := by
    refine lc2L_flat _ [] (fun x hx acc => ?_) (by rw [hflat, List.length_map, List.length_nil, Nat.zero_add]; exact hf)
    obtain ⟨y, _, rfl⟩ := List.mem_map.mp hx
    have f2 := nts_fz y
    have f3 := nts_frz y
    refine ⟨[some d, some (.int n), some (tN y), none], [some d, some (.int n), some (tN y), none], y.map nt, [some d, some (.int n), some (tN y), none], by simp, by simp [f2, f3], fun hc => ?_, rfl⟩
    have := lcL_eq (set := setT [] (.nm 3)) (test := evIfs ⟨call, io, []⟩ 95 []) (elt := evV ⟨call, io, []⟩ 95 (.var 3)) (own := [3]) (p := fun _ => true) (f := fun d => d) (δ := [some d, some (.int n), some (tN y), none]) (y.map nt) acc (fun x hx => by
      obtain ⟨z, _, rfl⟩ := List.mem_map.mp hx
      exact ⟨[some d, some (.int n), some (tN y), some (nt z)], [some d, some (.int n), some (tN y), some (nt z)], by simp, rfl, (fun h => by cases h), fun _ => ⟨[some d, some (.int n), some (tN y), some (nt z)], by simp, rfl⟩⟩) hc
    rw [filter_true, List.map_id'] at this
    exact this
  rw [List.nil_append, hflat] at h2
  have g := nts_fz bs.flatten
  show _ = some (D.tup (bs.flatten.map nt), [])
  have e1 : evE ⟨call, io, []⟩ 96 (.lc2 (.var 3) (.nm 2) .val [(.call ib [(.var 0), (.var 1)])] (.nm 3) .val [(.var 2)] [2, 3] [3]) [some d, some (.int n), none, none] = some (.tmp (.lst true (bs.flatten.map nt)), [some d, some (.int n), none, none]) := by
    rw [qevE_lc2, hi]
    simp only
    rw [show ownFz [some d, some (D.int n), none, none] [2, 3] = true from rfl, if_pos rfl, show wipeD [some d, some (D.int n), none, none] [2, 3] = [some d, some (D.int n), none, none] from rfl, h2]
    rfl
  refine runF_rt (f := f_use_order ib) rfl rfl (δ := [some d, some (.int n), none, none]) ?_ rfl
  have e2 : evE ⟨call, io, []⟩ 98 (.bi .tuple1 [(.lc2 (.var 3) (.nm 2) .val [(.call ib [(.var 0), (.var 1)])] (.nm 3) .val [(.var 2)] [2, 3] [3])]) [some d, some (.int n), none, none] = some (.tmp (.tup (bs.flatten.map nt)), [some d, some (.int n), none, none]) := by
    rw [qevE_bi, qevAs_2, e1]
    generalize bs.flatten.map nt = z at g
    simp [g]
  exact evSs_ret _ 98 _ _ _ e2
end Ev

set_option linter.all false
set_option maxRecDepth 100000
set_option maxHeartbeats 4000000
/-! MF: numbers compared, sorted; draws, deals drawn -/
namespace Ev
open PySem
theorem intsOf_nts : ∀ l : List Nat, intsOf (l.map nt) = some (l.map fun (n : Nat) => (n : Int))
  | [] => rfl
  | x :: l => by simp only [List.map_cons, intsOf, intsOf_nts l, Option.map_some]
def insN (x : Nat) : List Nat → List Nat
  | [] => [x]
  | y :: ys => if x ≤ y then x :: y :: ys else y :: insN x ys
def sortN : List Nat → List Nat
  | [] => []
  | x :: xs => insN x (sortN xs)
theorem insI_nts (x : Nat) : ∀ l : List Nat, insI (x : Int) (l.map fun (n : Nat) => (n : Int)) = (insN x l).map fun (n : Nat) => (n : Int)
  | [] => rfl
  | y :: l => by
    simp only [List.map_cons, insI, insN, insI_nts x l]
    by_cases h : x ≤ y
    · rw [if_pos h, if_pos (by omega)]; rfl
    · rw [if_neg h, if_neg (by omega)]; rfl
theorem sortI_nts : ∀ l : List Nat, sortI (l.map fun (n : Nat) => (n : Int)) = (sortN l).map fun (n : Nat) => (n : Int)
  | [] => rfl
  | x :: l => by simp only [List.map_cons, sortI, sortN, sortI_nts l, insI_nts]
theorem map_int_nt (l : List Nat) : (l.map fun (n : Nat) => (n : Int)).map D.int = l.map nt := by rw [List.map_map]; rfl
theorem eqs_nts : ∀ a b : List Nat, eqs (a.map nt) (b.map nt) = (a == b)
  | [], [] => rfl
  | [], y :: b => rfl
  | x :: a, [] => rfl
  | x :: a, y :: b => by
    simp only [List.map_cons, qeqs_cons, qeq_int, eqs_nts a b, nat_beq]
    rfl
theorem eqs_tNs : ∀ a b : List (List Nat), eqs (a.map tN) (b.map tN) = (a == b)
  | [], [] => rfl
  | [], y :: b => rfl
  | x :: a, [] => rfl
  | x :: a, y :: b => by
    simp only [List.map_cons, qeqs_cons, qeq_tup, eqs_tNs a b, eqs_nts]
    rfl
theorem oks_nts (k : Nat) : ∀ l : List Nat, oks k (l.map nt) = true
  | [] => by simp
  | x :: l => by simp only [List.map_cons, qoks_cons, qok_int, oks_nts k l, Bool.and_self]
theorem oks_tNs (k : Nat) : ∀ l : List (List Nat), oks (k + 1) (l.map tN) = true
  | [] => by simp
  | x :: l => by simp only [List.map_cons, qoks_cons, qok_tup, oks_nts, oks_tNs k l, Bool.and_self]
/-- the draws, for a law -/
def TakeSp (call : Nat → List D → Option (D × List D)) (it : Nat) : Prop := ∀ d c (b : Nat), Box c d → c < 1000000000000 → 0 < b → b < 1000000000 → ∃ (r : Nat) (d' : D), call it [d, .int b] = some (.int r, [d']) ∧ r < b ∧ Box (c + 1) d'
theorem take_sp {T : List Fn} {k it : Nat} (h : T[it]? = some f_law_take) : TakeSp (evF T (k + 1)) it := by
  intro d c b hb hc h0 h1
  obtain ⟨r, d', e, q0, q1, q2⟩ := take_ok (call := evF T k) (io := fun h => ((T[h]?).map (·.io)).getD []) hb hc (b := b) (by omega) (by omega)
  refine ⟨r.toNat, d', ?_, by omega, q2⟩
  rw [evF_run h]
  rw [show ((r.toNat : Nat) : Int) = r by omega]
  exact e
def OfSp (call : Nat → List D → Option (D × List D)) (io : Nat) : Prop := ∀ d c (o : Bool) (xs : List D), Box c d → c < 1000000000000 → 0 < xs.length → xs.length < 1000000 → fzs xs = true → ∃ (r : Nat) (y d' : D), call io [d, .lst o xs] = some (y, [d']) ∧ xs[r]? = some y ∧ Box (c + 1) d'
theorem of_sp {T : List Fn} {k it io : Nat} (h : T[it]? = some f_law_take) (h2 : T[io]? = some (f_law_of it)) : OfSp (evF T (k + 2)) io := by
  intro d c o xs hb hc h0 h1 hf
  obtain ⟨r, d', e, q1, q2⟩ := take_sp (k := k) h d c xs.length hb hc h0 (by omega)
  have hy : xs[r]? = some xs[r] := List.getElem?_eq_getElem q1
  refine ⟨r, xs[r], d', ?_, hy, q2⟩
  rw [evF_run h2]
  exact of_ok (by simp [h, f_law_take]) hb q2 (r := r) (by omega) (by omega) (by rw [Int.toNat_natCast]; exact hy) (fzs_mem hf _ (List.getElem_mem q1)) e
/-- a deal drawn -/
def f_law_deal (it io : Nat) : Fn := { n := 2, ps := 1, io := [0], body := [.asg (.nm 1) (.call io [(.var 0), (.lst [(.str (Str.ofString "turns")), (.str (Str.ofString "items")), (.str (Str.ofString "parts")), (.str (Str.ofString "items")), (.str (Str.ofString "parts"))])]),
    .ret (.tup [(.var 1), (.bin .add (.int 1) (.call it [(.var 0), (.int 4)])), (.bin .add (.int 1) (.call it [(.var 0), (.int 5)])), (.call io [(.var 0), (.lst [(.str (Str.ofString "short")), (.str (Str.ofString "short")), (.str (Str.ofString "drop"))])])])] }
def DealSp (call : Nat → List D → Option (D × List D)) (id : Nat) : Prop := ∀ d c, Box c d → c < 900000000000 → ∃ (way e : Str) (W b : Nat) (d' : D), call id [d] = some (.tup [.str way, .int W, .int b, .str e], [d']) ∧ (way = sTurns ∨ way = sItems ∨ way = sParts) ∧ 1 ≤ W ∧ W ≤ 4 ∧ 1 ≤ b ∧ b ≤ 5 ∧ (e = sShort ∨ e = sDrop) ∧ Box (c + 4) d'
theorem box_lst {c : Int} {d : D} (h : Box c d) : ∃ xs, d = .lst true xs ∧ fzs xs = true ∧ flats xs = true := by
  obtain ⟨x0, x1, x2, rfl, _⟩ := h
  exact ⟨_, rfl, rfl, rfl⟩
theorem deal_run {call : Nat → List D → Option (D × List D)} {io : Nat → List Nat} {it iof : Nat} (hit : io it = [0]) (hio : io iof = [0]) (ht : TakeSp call it) (ho : OfSp call iof) {d : D} {c : Int} (hb : Box c d) (hc : c < 900000000000) :
    ∃ (way e : Str) (W b : Nat) (d' : D), runF ⟨call, io, [0]⟩ (f_law_deal it iof) [d] = some (.tup [.str way, .int W, .int b, .str e], [d']) ∧ (way = sTurns ∨ way = sItems ∨ way = sParts) ∧ 1 ≤ W ∧ W ≤ 4 ∧ 1 ≤ b ∧ b ≤ 5 ∧ (e = sShort ∨ e = sDrop) ∧ Box (c + 4) d' := by
  obtain ⟨r1, y1, d1, e1, g1, b1⟩ := ho d c true [.str sTurns, .str sItems, .str sParts, .str sItems, .str sParts] hb (by omega) (by simp) (by simp) rfl
  obtain ⟨r2, d2, e2, g2, b2⟩ := ht d1 _ 4 b1 (by omega) (by omega) (by omega)
  obtain ⟨r3, d3, e3, g3, b3⟩ := ht d2 _ 5 b2 (by omega) (by omega) (by omega)
  obtain ⟨r4, y4, d4, e4, g4, b4⟩ := ho d3 _ true [.str sShort, .str sShort, .str sDrop] b3 (by omega) (by simp) (by simp) rfl
  obtain ⟨way, rfl, hway⟩ : ∃ way, y1 = .str way ∧ (way = sTurns ∨ way = sItems ∨ way = sParts) := by
    have : y1 ∈ [D.str sTurns, .str sItems, .str sParts, .str sItems, .str sParts] := List.mem_of_getElem? g1
    simp only [List.mem_cons, List.not_mem_nil, or_false] at this
    rcases this with h | h | h | h | h
    · exact ⟨_, h, .inl rfl⟩
    · exact ⟨_, h, .inr (.inl rfl)⟩
    · exact ⟨_, h, .inr (.inr rfl)⟩
    · exact ⟨_, h, .inr (.inl rfl)⟩
    · exact ⟨_, h, .inr (.inr rfl)⟩
  obtain ⟨e, rfl, he⟩ : ∃ e, y4 = .str e ∧ (e = sShort ∨ e = sDrop) := by
    have : y4 ∈ [D.str sShort, .str sShort, .str sDrop] := List.mem_of_getElem? g4
    simp only [List.mem_cons, List.not_mem_nil, or_false] at this
    rcases this with h | h | h
    · exact ⟨_, h, .inl rfl⟩
    · exact ⟨_, h, .inl rfl⟩
    · exact ⟨_, h, .inr rfl⟩
  refine ⟨way, e, 1 + r2, 1 + r3, d4, ?_, hway, by omega, by omega, by omega, by omega, he, b4.mono (by omega)⟩
  obtain ⟨x0, rfl, _, _⟩ := box_lst hb
  obtain ⟨x1, rfl, _, _⟩ := box_lst b1
  obtain ⟨x2, rfl, _, _⟩ := box_lst b2
  obtain ⟨x3, rfl, _, _⟩ := box_lst b3
  obtain ⟨x4, rfl, _, fl4⟩ := box_lst b4
  simp only [sTurns, sItems, sParts, sShort, sDrop] at e1 e4
  have e2' : call it [.lst true x1, .int 4] = some (.int r2, [.lst true x2]) := e2
  have e3' : call it [.lst true x2, .int 5] = some (.int r3, [.lst true x3]) := e3
  simp [runF, f_law_deal, startD, cap, hio, hit, ioOf, backOf, e1, e2', e3', e4, outsOf, flatOwn, fl4]
end Ev

set_option linter.all false
set_option maxRecDepth 100000
set_option maxHeartbeats 4000000
/-! MG: what batches are called with; facts of batches -/
namespace Ev
open PySem
/-- batches, use_order, as a caller sees them -/
def BatSp (call : Nat → List D → Option (D × List D)) (ib : Nat) : Prop := ∀ (way e : Str) (W b n : Nat), (way = sTurns ∨ way = sItems ∨ way = sParts) → (e = sShort ∨ e = sDrop) → 0 < W → W ≤ 100 → 0 < b → b < 1000000 → n ≤ 1000 →
  call ib [.tup [.str way, .int W, .int b, .str e], .int n] = some (.lst true ((batchesM way W b (e == sShort) n).map tN), [])
def UseSp (call : Nat → List D → Option (D × List D)) (iu : Nat) : Prop := ∀ (way e : Str) (W b n : Nat), (way = sTurns ∨ way = sItems ∨ way = sParts) → (e = sShort ∨ e = sDrop) → 0 < W → W ≤ 100 → 0 < b → b < 1000000 → n ≤ 100 →
  call iu [.tup [.str way, .int W, .int b, .str e], .int n] = some (tN (batchesM way W b (e == sShort) n).flatten, [])
theorem ok_way {way : Str} (h : way = sTurns ∨ way = sItems ∨ way = sParts) : PyData.strOk way = true := by
  rcases h with h | h | h
  · rw [h]; exact ok_turns
  · rw [h]; exact ok_items
  · rw [h]; exact ok_parts
theorem ok_end {e : Str} (h : e = sShort ∨ e = sDrop) : PyData.strOk e = true := by
  rcases h with h | h
  · rw [h]; exact ok_short
  · rw [h]; exact ok_drop
theorem tupled_evF {T : List Fn} {it : Nat} (h : T[it]? = some (f_tupled it)) : ∀ (m : Nat) (d : D), d.fz = true → shape m d = true → evF T (m + 1) it [d] = some (tupM d, [])
  | m, d, hd, hs => by
    rw [evF_run h]
    have hio : (fun h => ((T[h]?).map (·.io)).getD []) it = [] := by simp [h, f_tupled]
    cases m with
    | zero =>
      have h1 : isTy d .list = false ∧ isTy d .tuple = false ∧ tupM d = d := by
        cases d <;> first | exact ⟨rfl, rfl, rfl⟩ | simp [shape] at hs
      rw [h1.2.2]
      simp [runF, f_tupled, startD, evT, hd, h1.1, h1.2.1]
    | succ m => exact tupled_run hio (fun d hd hs => tupled_evF h m d hd hs) hd hs
theorem shape_mono : ∀ {m n : Nat} {d : D}, m ≤ n → shape m d = true → shape n d = true := by
  have main : ∀ (m n : Nat), m ≤ n → (∀ d, shape m d = true → shape n d = true) ∧ ∀ ds, shapes m ds = true → shapes n ds = true := by
    intro m
    induction m with
    | zero =>
      intro n h
      have a : ∀ d, shape 0 d = true → shape n d = true := fun d hd => by
        cases d <;> first | (cases n <;> rfl) | simp [shape] at hd
      refine ⟨a, fun ds => ?_⟩
      induction ds with
      | nil => intro _; cases n <;> rfl
      | cons d ds ih =>
        intro hd
        simp only [shapes, Bool.and_eq_true] at hd ⊢
        exact ⟨a d hd.1, ih hd.2⟩
    | succ m ih =>
      intro n h
      obtain ⟨n, rfl⟩ : ∃ k, n = k + 1 := ⟨n - 1, by omega⟩
      obtain ⟨i1, i2⟩ := ih n (by omega)
      have a : ∀ d, shape (m + 1) d = true → shape (n + 1) d = true := fun d hd => by
        cases d with
        | tup xs =>
          simp only [shape, Bool.and_eq_true] at hd ⊢
          exact ⟨hd.1, i2 _ hd.2⟩
        | lst o xs =>
          simp only [shape, Bool.and_eq_true] at hd ⊢
          exact ⟨hd.1, i2 _ hd.2⟩
        | scr _ => simp [shape] at hd
        | _ => rfl
      refine ⟨a, fun ds => ?_⟩
      induction ds with
      | nil => intro _; rfl
      | cons d ds ih2 =>
        intro hd
        simp only [shapes, Bool.and_eq_true] at hd ⊢
        exact ⟨a d hd.1, ih2 hd.2⟩
  intro m n d h hs
  exact (main _ _ h).1 _ hs
theorem tupled_sp {T : List Fn} {it k : Nat} (h : T[it]? = some (f_tupled it)) {d : D} (hd : d.fz = true) (hs : shape k d = true) : evF T (k + 1) it [d] = some (tupM d, []) := tupled_evF h k d hd hs
theorem cut_len {b : Nat} {sh : Bool} {l : List Nat} (hb : 0 < b) : (cutM b sh l).length ≤ l.length := by
  unfold cutM
  exact Nat.le_trans (List.length_filter_le _ _) (by rw [chunks_len]; exact ceil_le hb)
theorem bat_sp {T : List Fn} {k it ic ish ib : Nat} (h1 : T[it]? = some (f_tupled it)) (h2 : T[ic]? = some f_cut) (h3 : T[ish]? = some f_shares) (h4 : T[ib]? = some (f_batches it ic ish)) : BatSp (evF T (k + 4)) ib := by
  intro way e W b n hw he h0 hW hb hb2 hn
  rw [evF_run h4]
  refine batches_run (by simp [h1, f_tupled]) (by simp [h2, f_cut]) (by simp [h3, f_shares]) (by simp) (ok_way hw) h0 hW hn ?_ ?_ ?_
  · have := tupled_sp (k := k + 2) h1 (d := .tup [.str way, .int W, .int b, .str e]) (by simp) (by simp [shape, shapes, cap])
    rw [this]
    simp [tupM, tupMs]
  · intro o l hl
    rw [evF_run h2]
    exact cut_run hb hb2 (ok_end he) hl
  · rw [evF_run h3]
    exact shares_run (ok_way hw) h0 (by omega) hn
theorem mem_cut {b : Nat} {sh : Bool} {l x : List Nat} (h : x ∈ cutM b sh l) : x.length ≤ l.length := by
  unfold cutM chunks at h
  obtain ⟨h, _⟩ := List.mem_filter.mp h
  obtain ⟨k, _, rfl⟩ := List.mem_map.mp h
  rw [List.length_take, List.length_drop]
  omega
theorem shares_le {it : Bool} {W n : Nat} (h0 : 0 < W) : ∀ l ∈ sharesM it W n, l.length ≤ n := by
  intro l hl
  obtain ⟨w, hw, rfl⟩ := List.mem_map.mp hl
  have hw := List.mem_range.mp hw
  cases it with
  | true =>
    have : ceilN w n W ≤ n := by
      unfold ceilN
      have : (n - w + W - 1) / W < n + 1 := by
        rw [Nat.div_lt_iff_lt_mul h0, Nat.add_mul, Nat.one_mul]
        have : n * 1 ≤ n * W := Nat.mul_le_mul_left n h0
        omega
      omega
    simpa [stride] using this
  | false =>
    have q2 : (w + 1) * n / W ≤ n := div_le_of h0 (Nat.mul_le_mul_right n (by omega))
    have : (w + 1) * n / W - w * n / W ≤ n := Nat.le_trans (Nat.sub_le _ _) q2
    simpa [part, up] using this
theorem mem_batches {way : Str} {W b n : Nat} {sh : Bool} (h0 : 0 < W) {x : List Nat} (h : x ∈ batchesM way W b sh n) : x.length ≤ n := by
  unfold batchesM at h
  split at h
  · have := mem_cut h
    simpa using this
  · obtain ⟨t, _, h⟩ := List.mem_flatMap.mp h
    obtain ⟨r, hr, h⟩ := List.mem_filterMap.mp h
    obtain ⟨l, hl, rfl⟩ := List.mem_map.mp hr
    exact Nat.le_trans (mem_cut (List.mem_of_getElem? h)) (shares_le h0 l hl)
theorem batches_len {way : Str} {W b n : Nat} {sh : Bool} (hb : 0 < b) (h0 : 0 < W) : (batchesM way W b sh n).length ≤ n * W := by
  unfold batchesM
  split
  · have := cut_len (sh := sh) (l := List.range n) hb
    have : n * 1 ≤ n * W := Nat.mul_le_mul_left n h0
    simp at *
    omega
  · have := rounds_len ((sharesM (way == sItems) W n).map (cutM b sh)) (List.range n)
    simpa [sharesM] using this
theorem flatten_le (m : Nat) : ∀ L : List (List Nat), (∀ x ∈ L, x.length ≤ m) → L.flatten.length ≤ L.length * m
  | [], _ => by simp
  | x :: L, h => by
    have h1 := h x (by simp)
    have h2 := flatten_le m L fun y hy => h y (by simp [hy])
    rw [List.flatten_cons, List.length_append, List.length_cons, Nat.add_mul, Nat.one_mul]
    omega
theorem use_sp {T : List Fn} {k it ic ish ib iu : Nat} (h1 : T[it]? = some (f_tupled it)) (h2 : T[ic]? = some f_cut) (h3 : T[ish]? = some f_shares) (h4 : T[ib]? = some (f_batches it ic ish)) (h5 : T[iu]? = some (f_use_order ib)) : UseSp (evF T (k + 5)) iu := by
  intro way e W b n hw he h0 hW hb hb2 hn
  rw [evF_run h5]
  have l1 := batches_len (way := way) (n := n) (sh := e == sShort) hb h0
  have l2 := flatten_le n (batchesM way W b (e == sShort) n) fun x hx => mem_batches h0 hx
  have l3 : n * W ≤ 100 * 100 := Nat.mul_le_mul hn hW
  have l4 : (batchesM way W b (e == sShort) n).length * n ≤ 10000 * 100 := Nat.mul_le_mul (by omega) hn
  exact use_order_run (by simp [h4, f_batches]) (by simp) (bat_sp (k := k) h1 h2 h3 h4 way e W b n hw he h0 hW hb hb2 (by omega)) (by omega) (by unfold cap; omega)
end Ev

set_option linter.all false
set_option maxRecDepth 100000
set_option maxHeartbeats 4000000
/-! MH: the law's own comparison: alike at every depth -/
namespace Ev
open PySem
theorem ev_lcG {C : Ctx} {n : Nat} {elt : E} {tg : Tg} {own : List Nat} {k : ItK} {its : List E} {δ δ0 : Dl} {xs : List D} {f : D → D} (hi : evIt C n k its δ0 = some (xs, δ)) (ho : ownFz δ own = true) (hc : xs.length ≤ cap) (hr : restD δ (wipeD δ own) own = δ)
    (he : ∀ x ∈ xs, ∃ δ1 δ2, setT C.lock tg x (wipeD δ own) = some δ1 ∧ evV C n elt δ1 = some (f x, δ2) ∧ wipeD δ2 own = wipeD δ own) (hn : 0 < n) : evE C (n + 1) (.lc elt tg k its [] own) δ0 = some (.tmp (.lst true (xs.map f)), δ) := by
  obtain ⟨n, rfl⟩ : ∃ m, n = m + 1 := ⟨n - 1, by omega⟩
  have h3 : lcL (setT C.lock tg) (evIfs C (n + 1) []) (evV C (n + 1) elt) own xs [] (wipeD δ own) = some ([] ++ (xs.filter fun _ => true).map f, wipeD δ own) := by
    refine lcL_eq xs [] (fun x hx => ?_) (by simpa using hc)
    obtain ⟨δ1, δ2, h1, h2, h4⟩ := he x hx
    exact ⟨δ1, δ1, h1, rfl, (fun h => by cases h), fun _ => ⟨δ2, h2, h4⟩⟩
  refine (evE_lc C (n + 1) elt tg k its [] own δ0 hi ho h3).trans ?_
  rw [filter_true, List.nil_append, hr]
def f_law_same (s : Nat) : Fn := { n := 5, ps := 2, io := [], body := [.ifs (.isi (.var 1) [.list, .tuple]) [.ifs (.bor [(.cmp .ne (.isi (.var 0) [.list]) (.isi (.var 1) [.list])), (.cmp .ne (.isi (.var 0) [.tuple]) (.isi (.var 1) [.tuple]))]) [.ret (.bl false)] [],
    .ret (.band [(.cmp .eq (.bi .len [(.var 0)]) (.bi .len [(.var 1)])), (.bi .all1 [(.lc (.call s [(.var 3), (.var 4)]) (.tp [3, 4]) .zip [(.var 0), (.var 1)] [] [3, 4])])])] [],
    .ifs (.isi (.var 1) [.dict]) [.ifs (.bor [(.bnot (.isi (.var 0) [.dict])), (.cmp .ne (.bi .len [(.var 0)]) (.bi .len [(.var 1)])), (.cmp .ne (.lc (.var 2) (.nm 2) .val [(.var 1)] [(.cmp .notin (.var 2) (.var 0))] [2]) (.lst []))]) [.ret (.bl false)] [],
    .ret (.bi .all1 [(.lc (.call s [(.sub (.var 0) (.var 2)), (.sub (.var 1) (.var 2))]) (.nm 2) .val [(.var 1)] [] [2])])] [],
    .ifs (.bor [(.cmp .isn (.var 1) .non), (.isi (.var 1) [.bool, .str])]) [.ret (.band [(.cmp .eq (.var 0) (.var 1)), (.cmp .eq (.isi (.var 0) [.bool]) (.isi (.var 1) [.bool])), (.cmp .eq (.cmp .isn (.var 0) .non) (.cmp .isn (.var 1) .non))])] [],
    .ret (.band [(.isi (.var 0) [.int]), (.bnot (.isi (.var 0) [.bool])), (.cmp .eq (.var 0) (.var 1))])] }
/-- data that may be compared: shared, plain, not too deep -/
def sam (m : Nat) (d : D) : Prop := d.fz = true ∧ shape m d = true ∧ d.ok m = true
theorem zipD_self : ∀ xs : List D, zipD xs xs = xs.map fun x => .tup [x, x]
  | [] => rfl
  | x :: xs => by simp only [zipD, List.map_cons, zipD_self xs]
theorem oks_mem {n : Nat} : ∀ {ds : List D}, oks n ds = true → ∀ d ∈ ds, d.ok n = true
  | [], _, d, h => by simp at h
  | x :: xs, h, d, hd => by
    simp only [qoks_cons, Bool.and_eq_true] at h
    rcases List.mem_cons.mp hd with e | e
    · subst e; exact h.1
    · exact oks_mem h.2 d e
theorem boolsOf_true (xs : List D) : boolsOf (xs.map fun _ => D.bl true) = some (xs.map fun _ => true) := bools_true xs
theorem ok_up {k : Nat} : ∀ {n : Nat} {d : D}, k ≤ n → d.ok k = true → d.ok n = true := by
  have main : ∀ (k n : Nat), k ≤ n → (∀ d : D, d.ok k = true → d.ok n = true) ∧ ∀ ds : List D, oks k ds = true → oks n ds = true := by
    intro k
    induction k with
    | zero =>
      intro n h
      have a : ∀ d : D, d.ok 0 = true → d.ok n = true := fun d hd => by
        cases d <;> first | (simp at hd ⊢; try exact hd) | simp [D.ok] at hd
      refine ⟨a, fun ds => ?_⟩
      induction ds with
      | nil => intro _; simp
      | cons d ds ih =>
        intro hd
        simp only [qoks_cons, Bool.and_eq_true] at hd ⊢
        exact ⟨a d hd.1, ih hd.2⟩
    | succ k ih =>
      intro n h
      obtain ⟨n, rfl⟩ : ∃ q, n = q + 1 := ⟨n - 1, by omega⟩
      obtain ⟨i1, i2⟩ := ih n (by omega)
      have a : ∀ d : D, d.ok (k + 1) = true → d.ok (n + 1) = true := fun d hd => by
        cases d with
        | tup xs => rw [qok_tup] at hd ⊢; exact i2 _ hd
        | lst o xs => rw [qok_lst] at hd ⊢; exact i2 _ hd
        | scr _ => simp [D.ok] at hd
        | str s => rw [qok_str] at hd ⊢; exact hd
        | _ => simp
      refine ⟨a, fun ds => ?_⟩
      induction ds with
      | nil => intro _; simp
      | cons d ds ih2 =>
        intro hd
        simp only [qoks_cons, Bool.and_eq_true] at hd ⊢
        exact ⟨a d hd.1, ih2 hd.2⟩
  intro n d h hd
  exact (main _ _ h).1 _ hd
mutual
theorem D.eq_self : ∀ {k : Nat} (d : D), d.ok k = true → d.eq d = true
  | _, .non, _ => rfl
  | _, .bl b, _ => by simp
  | _, .int i, _ => by simp
  | _, .str s, _ => by simp
  | k + 1, .tup xs, h => by rw [qok_tup] at h; rw [qeq_tup]; exact eqs_self xs h
  | k + 1, .lst o xs, h => by rw [qok_lst] at h; rw [qeq_lst]; exact eqs_self xs h
  | 0, .tup xs, h => by simp [D.ok] at h
  | 0, .lst o xs, h => by simp [D.ok] at h
  | k, .scr _, h => by cases k <;> simp [D.ok] at h
theorem eqs_self : ∀ {k : Nat} (ds : List D), oks k ds = true → eqs ds ds = true
  | _, [], _ => rfl
  | k, d :: ds, h => by
    simp only [qoks_cons, Bool.and_eq_true] at h
    rw [qeqs_cons, D.eq_self d h.1, eqs_self ds h.2]
    rfl
end
section
variable {call : Nat → List D → Option (D × List D)} {io : Nat → List Nat} {s m : Nat}
theorem same_seq (hio : io s = []) (ih : ∀ d : D, sam m d → call s [d, d] = some (.bl true, [])) {g d : D} {xs : List D} (hx : ∀ x ∈ xs, sam m x) (hl : xs.length ≤ cap)
    (h : (∃ o p, g = .lst o xs ∧ d = .lst p xs) ∨ (g = .tup xs ∧ d = .tup xs)) : runF ⟨call, io, []⟩ (f_law_same s) [g, d] = some (.bl true, []) := by
  have fx : fzs xs = true := fzs_of fun x h => (hx x h).1
  have fr : frzs xs = xs := frzs_fz xs fx
  have zs := zipD_self xs
  obtain ⟨g', d', hi, fg, fd⟩ : ∃ g' d', (∀ n, evIt ⟨call, io, []⟩ (n + 5) .zip [(.var 0), (.var 1)] [some g, some d, none, none, none] = some (xs.map fun x => .tup [x, x], [some g', some d', none, none, none])) ∧ g'.fz = true ∧ d'.fz = true := by
    rcases h with ⟨o, p, rfl, rfl⟩ | ⟨rfl, rfl⟩
    · refine ⟨.lst false xs, .lst false xs, fun n => ?_, by simp [fx], by simp [fx]⟩
      cases o <;> cases p <;> simp [fx, fr, zs]
    · exact ⟨.tup xs, .tup xs, fun n => by simp [fx, fr, zs], by simp [fx], by simp [fx]⟩
  have e1 : ∀ n, evE ⟨call, io, []⟩ (n + 10) (.lc (.call s [(.var 3), (.var 4)]) (.tp [3, 4]) .zip [(.var 0), (.var 1)] [] [3, 4]) [some g, some d, none, none, none] = some (.tmp (.lst true (xs.map fun _ => .bl true)), [some g', some d', none, none, none]) := fun n => by
    refine (ev_lcG (C := ⟨call, io, []⟩) (n := n + 9) (f := fun _ => .bl true) (hi (n + 4)) rfl (by simpa using hl) rfl (fun y hy => ?_) (by omega)).trans ?_
    · obtain ⟨x, hx', rfl⟩ := List.mem_map.mp hy
      obtain ⟨f1, _, _⟩ := hx x hx'
      have hc := ih x (hx x hx')
      exact ⟨[some g', some d', none, some x, some x], [some g', some d', none, some x, some x], by simp [wipeD, f1], by simp [f1, hio, hc], rfl⟩
    · rw [List.map_map]; rfl
  have bt := boolsOf_true xs
  have al : ((xs.map fun _ => true).all id) = true := all_true xs
  have t1 : evT ⟨call, io, []⟩ 98 (.isi (.var 1) [.list, .tuple]) [some g, some d, none, none, none] = some (true, [some g, some d, none, none, none]) := by
    rcases h with ⟨o, p, rfl, rfl⟩ | ⟨rfl, rfl⟩
    · cases p <;> simp [fx, isTy]
    · simp [fx, isTy]
  have t2 : evT ⟨call, io, []⟩ 96 (.bor [(.cmp .ne (.isi (.var 0) [.list]) (.isi (.var 1) [.list])), (.cmp .ne (.isi (.var 0) [.tuple]) (.isi (.var 1) [.tuple]))]) [some g, some d, none, none, none] = some (false, [some g, some d, none, none, none]) := by
    rcases h with ⟨o, p, rfl, rfl⟩ | ⟨rfl, rfl⟩
    · cases o <;> cases p <;> simp [fx, isTy, plain]
    · simp [fx, isTy, plain]
  have e2 : evE ⟨call, io, []⟩ 93 (.cmp .eq (.bi .len [(.var 0)]) (.bi .len [(.var 1)])) [some g, some d, none, none, none] = some (.tmp (.bl true), [some g, some d, none, none, none]) := by
    rcases h with ⟨o, p, rfl, rfl⟩ | ⟨rfl, rfl⟩
    · cases o <;> cases p <;> simp [fx, plain]
    · simp [fx, plain]
  have e3 : evE ⟨call, io, []⟩ 95 (.band [(.cmp .eq (.bi .len [(.var 0)]) (.bi .len [(.var 1)])), (.bi .all1 [(.lc (.call s [(.var 3), (.var 4)]) (.tp [3, 4]) .zip [(.var 0), (.var 1)] [] [3, 4])])]) [some g, some d, none, none, none] = some (.tmp (.bl true), [some g', some d', none, none, none]) := by
    rw [qevE_band, qevAnd_3, e2]
    simp only [qlook_tmp, qtru_bl]
    rw [qevAnd_2, qevE_bi, qevAs_2, e1 80]
    simp only [qsettle_tmp, qevAs_1, qlooks_cons, qlooks_nil, qlook_tmp, qbi_all, bt, al]
  refine runF_rt (f := f_law_same s) rfl rfl (δ := [some g', some d', none, none, none]) ?_ rfl
  refine evSs_stop _ 99 _ _ _ ((evS_if_t _ 98 _ _ _ _ t1).trans ?_)
  refine (evSs_cons _ 97 _ _ _ ((evS_if_f _ 96 _ _ _ _ t2).trans (evSs_nil _ 95 _))).trans ?_
  exact evSs_ret _ 95 _ _ _ e3
theorem same_atom {d : D} (h : sam 0 d) : runF ⟨call, io, []⟩ (f_law_same s) [d, d] = some (.bl true, []) := by
  obtain ⟨h1, h2, h3⟩ := h
  cases d with
  | non => simp [runF, f_law_same, startD, isTy, plain, D.eq, isNon]
  | bl b => simp [runF, f_law_same, startD, isTy, plain, D.eq, isNon]
  | int i => simp [runF, f_law_same, startD, isTy, plain, D.eq, isNon]
  | str x =>
    rw [qok_str] at h3
    simp [runF, f_law_same, startD, isTy, plain, D.eq, isNon, h3]
  | tup xs => simp [shape] at h2
  | lst o xs => simp [shape] at h2
  | scr _ => simp [shape] at h2
end
theorem sam_tup {m : Nat} {xs : List D} (h : sam (m + 1) (.tup xs)) : (∀ x ∈ xs, sam m x) ∧ xs.length ≤ cap := by
  obtain ⟨h1, h2, h3⟩ := h
  simp only [qfz_tup] at h1
  simp only [shape, Bool.and_eq_true, decide_eq_true_eq] at h2
  rw [qok_tup] at h3
  exact ⟨fun x hx => ⟨fzs_mem h1 x hx, shapes_mem h2.2 x hx, oks_mem h3 x hx⟩, h2.1⟩
theorem sam_lst {m : Nat} {o : Bool} {xs : List D} (h : sam (m + 1) (.lst o xs)) : (∀ x ∈ xs, sam m x) ∧ xs.length ≤ cap := by
  obtain ⟨h1, h2, h3⟩ := h
  simp only [qfz_lst, Bool.and_eq_true] at h1
  simp only [shape, Bool.and_eq_true, decide_eq_true_eq] at h2
  rw [qok_lst] at h3
  exact ⟨fun x hx => ⟨fzs_mem h1.2 x hx, shapes_mem h2.2 x hx, oks_mem h3 x hx⟩, h2.1⟩
theorem sam_flat {m : Nat} {d : D} (h : sam m d) (ht : ∀ xs, d ≠ .tup xs) (hl : ∀ o xs, d ≠ .lst o xs) : sam 0 d := by
  obtain ⟨h1, h2, h3⟩ := h
  cases d with
  | tup xs => exact absurd rfl (ht xs)
  | lst o xs => exact absurd rfl (hl o xs)
  | scr ns => cases m <;> simp [shape] at h2
  | str x => rw [sam, qok_str] at *; exact ⟨h1, rfl, h3⟩
  | _ => exact ⟨rfl, rfl, by simp⟩
theorem same_evF {T : List Fn} {s : Nat} (h : T[s]? = some (f_law_same s)) : ∀ (m : Nat) (d : D), sam m d → evF T (m + 1) s [d, d] = some (.bl true, [])
  | m, d, hd => by
    rw [evF_run h]
    have hio : (fun h => ((T[h]?).map (·.io)).getD []) s = [] := by simp [h, f_law_same]
    cases d with
    | tup xs =>
      cases m with
      | zero => simp [sam, shape] at hd
      | succ m => exact same_seq hio (fun d hd => same_evF h m d hd) (sam_tup hd).1 (sam_tup hd).2 (.inr ⟨rfl, rfl⟩)
    | lst o xs =>
      cases m with
      | zero => simp [sam, shape] at hd
      | succ m => exact same_seq hio (fun d hd => same_evF h m d hd) (sam_lst hd).1 (sam_lst hd).2 (.inl ⟨o, o, rfl, rfl⟩)
    | _ => exact same_atom (sam_flat hd (fun _ h => by cases h) fun _ _ h => by cases h)
/-- two lists of the same things, owned or not -/
theorem same_lists {T : List Fn} {s : Nat} (h : T[s]? = some (f_law_same s)) (m : Nat) (o p : Bool) (xs : List D) (hx : ∀ x ∈ xs, sam m x) (hl : xs.length ≤ cap) : evF T (m + 2) s [.lst o xs, .lst p xs] = some (.bl true, []) := by
  rw [evF_run h]
  exact same_seq (by simp [h, f_law_same]) (fun d hd => same_evF h m d hd) hx hl (.inl ⟨o, p, rfl, rfl⟩)
theorem sam_mono {m n : Nat} {d : D} (h : m ≤ n) (hd : sam m d) : sam n d := ⟨hd.1, shape_mono h hd.2.1, ok_up h hd.2.2⟩
theorem sam_int (m : Nat) (i : Int) : sam m (.int i) := ⟨rfl, by cases m <;> rfl, by simp⟩
end Ev

set_option linter.all false
set_option maxRecDepth 100000
set_option maxHeartbeats 4000000
/-! MI: batches by flags, menus -/
namespace Ev
open PySem
def batchesC (tu it : Bool) (W b : Nat) (sh : Bool) (n : Nat) : List (List Nat) :=
  if tu then cutM b sh (List.range n) else (List.range n).flatMap (roundM ((sharesM it W n).map (cutM b sh)))
theorem bat_turns (W b : Nat) (sh : Bool) (n : Nat) : batchesM sTurns W b sh n = batchesC true false W b sh n := by
  unfold batchesM batchesC
  rw [if_pos (by decide +kernel), if_pos rfl]
theorem items_turns : (sItems == sTurns) = false := by decide +kernel
theorem parts_turns : (sParts == sTurns) = false := by decide +kernel
theorem parts_items : (sParts == sItems) = false := by decide +kernel
theorem bat_items (W b : Nat) (sh : Bool) (n : Nat) : batchesM sItems W b sh n = batchesC false true W b sh n := by
  unfold batchesM batchesC
  rw [items_turns, beq_self_eq_true]
theorem bat_parts (W b : Nat) (sh : Bool) (n : Nat) : batchesM sParts W b sh n = batchesC false false W b sh n := by
  unfold batchesM batchesC
  rw [parts_turns, parts_items]
def ws : List Nat := [1, 2, 3, 4]
def bs : List Nat := [1, 2, 3, 4, 5]
def nn : List Nat := [0, 1, 2, 3, 4, 5, 6, 7, 8, 9, 10, 11, 12]
theorem mem_ws {W : Nat} (h0 : 0 < W) (h : W ≤ 4) : W ∈ ws := by
  unfold ws; simp only [List.mem_cons, List.not_mem_nil, or_false]; omega
theorem mem_bs {W : Nat} (h0 : 0 < W) (h : W ≤ 5) : W ∈ bs := by
  unfold bs; simp only [List.mem_cons, List.not_mem_nil, or_false]; omega
theorem mem_nn {W : Nat} (h : W ≤ 12) : W ∈ nn := by
  unfold nn; simp only [List.mem_cons, List.not_mem_nil, or_false]; omega
end Ev

set_option linter.all false
set_option maxRecDepth 100000
set_option maxHeartbeats 4000000
/-! MJ: the law's own loops, in their other shapes -/
namespace Ev
open PySem
def f_lawB (ic ib ir m : Nat) : Fn := { n := 3, ps := 1, io := [], body := [.asg (.nm 1) (.call ic [(.var 0), (.int m)]),
    .for_ (.nm 2) .range [(.bi .len [(.var 1)])] [.ifs (.bnot (.call ir [(.call ib [(.var 1), (.var 2)])])) [.ret (.bl false)] []],
    .ret (.bl true)] }
def f_lawC (ic ib ir m : Nat) : Fn := { n := 3, ps := 1, io := [], body := [.asg (.nm 1) (.call ic [(.var 0), (.int m)]),
    .ret (.bi .all1 [(.lc (.call ir [(.call ib [(.var 1), (.var 2)])]) (.nm 2) .range [(.bi .len [(.var 1)])] [] [2])])] }
def Right0 (call : Nat → List D → Option (D × List D)) (ir : Nat) : Prop := ∀ d, Box 0 d → ∃ d', call ir [d] = some (.bl true, [d'])
section
variable {call : Nat → List D → Option (D × List D)} {io : Nat → List Nat} {ic ib ir : Nat} {ns cs : List Int}
theorem ints_frz' : ∀ l : List Int, frzs (l.map D.int) = l.map D.int
  | [] => rfl
  | x :: l => by simp only [List.map_cons, frzs, D.frz, ints_frz' l]
theorem cell_right (hio : io ir = [0]) (hib : io ib = []) (hr : Right0 call ir) (hbox : ∀ (k : Nat) (c : Int), cs[k]? = some c → ∃ d, call ib [.lst false (cs.map .int), .int k] = some (d, []) ∧ Box 0 d) {k : Nat} (hk : k < cs.length) (o : Bool) (m : Nat) :
    evE ⟨call, io, []⟩ (m + 20) (.call ir [(.call ib [(.var 1), (.var 2)])]) [some (.scr ns), some (.lst o (cs.map .int)), some (.int k)] = some (.tmp (.bl true), [some (.scr ns), some (.lst false (cs.map .int)), some (.int k)]) := by
  obtain ⟨d, h1, h2⟩ := hbox k cs[k] (List.getElem?_eq_getElem hk)
  obtain ⟨d', h3⟩ := hr d h2
  obtain ⟨xs, rfl, _, _⟩ := box_lst h2
  have f := ints_fz cs
  have z := ints_frz' cs
  cases o <;> simp [f, z, hib, hio, h1, h3, ioOf, backOf, isAtom]
theorem lawB_loop (hio : io ir = [0]) (hib : io ib = []) (hr : Right0 call ir) (hbox : ∀ (k : Nat) (c : Int), cs[k]? = some c → ∃ d, call ib [.lst false (cs.map .int), .int k] = some (d, []) ∧ Box 0 d) :
    ∀ (n k : Nat) (o : Bool) (a2 : Option D), k + n ≤ cs.length → ∃ o' a2', forL (setT [] (.nm 2)) (evSs ⟨call, io, []⟩ 97 [.ifs (.bnot (.call ir [(.call ib [(.var 1), (.var 2)])])) [.ret (.bl false)] []]) (rangeD k 1 n) [some (.scr ns), some (.lst o (cs.map .int)), a2] =
      some (.nx [some (.scr ns), some (.lst o' (cs.map .int)), a2'])
  | 0, k, o, a2, _ => ⟨o, a2, by simp [rangeD, forL]⟩
  | n + 1, k, o, a2, hk => by
    obtain ⟨o', a2', h⟩ := lawB_loop hio hib hr hbox n (k + 1) false (some (.int k)) (by omega)
    refine ⟨o', a2', ?_⟩
    have e := cell_right (ns := ns) hio hib hr hbox (k := k) (by omega) o 73
    have t : evT ⟨call, io, []⟩ 95 (.bnot (.call ir [(.call ib [(.var 1), (.var 2)])])) [some (.scr ns), some (.lst o (cs.map .int)), some (.int k)] = some (false, [some (.scr ns), some (.lst false (cs.map .int)), some (.int k)]) := by
      rw [qevT_bnot, qevT_call, e]
      simp
    have b : evSs ⟨call, io, []⟩ 97 [.ifs (.bnot (.call ir [(.call ib [(.var 1), (.var 2)])])) [.ret (.bl false)] []] [some (.scr ns), some (.lst o (cs.map .int)), some (.int k)] = some (.nx [some (.scr ns), some (.lst false (cs.map .int)), some (.int k)]) :=
      (evSs_cons _ 96 _ _ _ ((evS_if_f _ 95 _ _ _ _ t).trans (evSs_nil _ 94 _))).trans (evSs_nil _ 95 _)
    have e4 : ((k : Int) + 1) = ((k + 1 : Nat) : Int) := by omega
    rw [← e4] at h
    exact (forL_nx (setT [] (.nm 2)) _ (.int k) (rangeD ((k : Int) + 1) 1 n) _ (δ1 := [some (.scr ns), some (.lst o (cs.map .int)), some (.int k)]) (by simp) b).trans h
theorem lawC_loop (hio : io ir = [0]) (hib : io ib = []) (hr : Right0 call ir) (hbox : ∀ (k : Nat) (c : Int), cs[k]? = some c → ∃ d, call ib [.lst false (cs.map .int), .int k] = some (d, []) ∧ Box 0 d) :
    ∀ (n k : Nat) (o : Bool) (acc : List D), k + n ≤ cs.length → acc.length + n ≤ cap → ∃ o', lcL (setT [] (.nm 2)) (evIfs ⟨call, io, []⟩ 94 []) (evV ⟨call, io, []⟩ 94 (.call ir [(.call ib [(.var 1), (.var 2)])])) [2] (rangeD k 1 n) acc [some (.scr ns), some (.lst o (cs.map .int)), none] =
      some (acc ++ (rangeD k 1 n).map (fun _ => .bl true), [some (.scr ns), some (.lst o' (cs.map .int)), none])
  | 0, k, o, acc, _, _ => ⟨o, by simp [rangeD, lcL]⟩
  | n + 1, k, o, acc, hk, hl => by
    obtain ⟨o', h⟩ := lawC_loop hio hib hr hbox n (k + 1) false (acc ++ [.bl true]) (by omega) (by simp; omega)
    refine ⟨o', ?_⟩
    have e := cell_right (ns := ns) hio hib hr hbox (k := k) (by omega) o 73
    have e4 : ((k : Int) + 1) = ((k + 1 : Nat) : Int) := by omega
    rw [← e4] at h
    have v : evV ⟨call, io, []⟩ 94 (.call ir [(.call ib [(.var 1), (.var 2)])]) [some (.scr ns), some (.lst o (cs.map .int)), some (.int k)] = some (.bl true, [some (.scr ns), some (.lst false (cs.map .int)), some (.int k)]) := by
      rw [qevV_1, e]
      simp
    have lt : acc.length < cap := by omega
    simp only [rangeD, lcL]
    rw [show setT [] (.nm 2) (.int k) [some (.scr ns), some (.lst o (cs.map .int)), none] = some [some (.scr ns), some (.lst o (cs.map .int)), some (.int k)] by simp]
    simp only
    rw [show evIfs ⟨call, io, []⟩ 94 [] [some (.scr ns), some (.lst o (cs.map .int)), some (.int k)] = some (true, [some (.scr ns), some (.lst o (cs.map .int)), some (.int k)]) by simp]
    simp only [v, lt, decide_true, if_true]
    rw [show wipeD [some (.scr ns), some (.lst false (cs.map .int)), some (.int k)] [2] = [some (.scr ns), some (.lst false (cs.map .int)), none] by simp [wipeD], h]
    simp
theorem asg_cells (hic : io ic = []) {m : Nat} (h1 : call ic [.scr ns, .int m] = some (.lst true (cs.map .int), [])) (n : Nat) : evS ⟨call, io, []⟩ (n + 10) (.asg (.nm 1) (.call ic [(.var 0), (.int m)])) [some (.scr ns), none, none] = some (.nx [some (.scr ns), some (.lst true (cs.map .int)), none]) := by
  simp [hic, h1]
theorem range_cells (h : cs.length ≤ 63) (n : Nat) : evIt ⟨call, io, []⟩ (n + 10) .range [(.bi .len [(.var 1)])] [some (.scr ns), some (.lst true (cs.map .int)), none] = some (rangeD 0 1 cs.length, [some (.scr ns), some (.lst true (cs.map .int)), none]) := by
  have f := ints_fz cs
  have r := rangeOf1 (t := cs.length) (by omega)
  simp [r]
theorem lawB_ok {m : Nat} (hio : io ir = [0]) (hib : io ib = []) (hic : io ic = []) (hr : Right0 call ir) (hm : m ≤ 63)
    (hbox : ∀ (cs : List Int) (k : Nat) (c : Int), cs[k]? = some c → ∃ d, call ib [.lst false (cs.map .int), .int k] = some (d, []) ∧ Box 0 d)
    (hcells : ∀ ns : List Int, ∃ cs : List Int, 1 ≤ cs.length ∧ cs.length ≤ m ∧ call ic [.scr ns, .int m] = some (.lst true (cs.map .int), [])) (ns : List Int) :
    runF ⟨call, io, []⟩ (f_lawB ic ib ir m) [.scr ns] = some (.bl true, []) := by
  obtain ⟨cs, l1, l2, h1⟩ := hcells ns
  obtain ⟨o', a2', h2⟩ := lawB_loop hio hib hr (hbox cs) (ns := ns) cs.length 0 true none (by omega)
  simp only [Int.natCast_zero] at h2
  refine runF_rt (f := f_lawB ic ib ir m) rfl rfl (δ := [some (.scr ns), some (.lst o' (cs.map .int)), a2']) ?_ rfl
  refine (evSs_cons _ 99 _ _ _ (asg_cells hic h1 89)).trans ?_
  refine (evSs_cons _ 98 _ _ _ (evS_for _ 97 _ _ _ _ _ (range_cells (by omega) 87) h2)).trans ?_
  exact evSs_ret _ 96 _ _ _ (by simp)
theorem lawC_ok {m : Nat} (hio : io ir = [0]) (hib : io ib = []) (hic : io ic = []) (hr : Right0 call ir) (hm : m ≤ 63)
    (hbox : ∀ (cs : List Int) (k : Nat) (c : Int), cs[k]? = some c → ∃ d, call ib [.lst false (cs.map .int), .int k] = some (d, []) ∧ Box 0 d)
    (hcells : ∀ ns : List Int, ∃ cs : List Int, 1 ≤ cs.length ∧ cs.length ≤ m ∧ call ic [.scr ns, .int m] = some (.lst true (cs.map .int), [])) (ns : List Int) :
    runF ⟨call, io, []⟩ (f_lawC ic ib ir m) [.scr ns] = some (.bl true, []) := by
  obtain ⟨cs, l1, l2, h1⟩ := hcells ns
  obtain ⟨o', h2⟩ := lawC_loop hio hib hr (hbox cs) (ns := ns) cs.length 0 true [] (by omega) (by simp [cap]; omega)
  simp only [Int.natCast_zero, List.nil_append] at h2
  refine runF_rt (f := f_lawC ic ib ir m) rfl rfl (δ := [some (.scr ns), some (.lst o' (cs.map .int)), none]) ?_ rfl
  refine (evSs_cons _ 99 _ _ _ (asg_cells hic h1 89)).trans ?_
  have e := evE_lc ⟨call, io, []⟩ 94 (.call ir [(.call ib [(.var 1), (.var 2)])]) (.nm 2) .range [(.bi .len [(.var 1)])] [] [2] [some (.scr ns), some (.lst true (cs.map .int)), none] (range_cells (by omega) 84) rfl h2
  refine evSs_ret _ 97 _ _ _ ?_
  have bt := boolsOf_true (rangeD 0 1 cs.length)
  have al : (((rangeD 0 1 cs.length).map fun _ => true).all id) = true := all_true _
  rw [qevE_bi, qevAs_2, e]
  simp only [qsettle_tmp, qevAs_1, qlooks_cons, qlooks_nil, qlook_tmp, qbi_all, bt, al]
  rfl
end
end Ev

set_option linter.all false
set_option maxRecDepth 100000
set_option maxHeartbeats 4000000
/-! MK: buffers: how many; the laws' rows, early, all -/
namespace Ev
open PySem
def f_held_at : Fn := { n := 3, ps := 3, io := [], body := [.ret (.bi .min2 [(.var 0), (.bin .sub (.var 1) (.var 2))])] }
def f_how_many (ih : Nat) : Fn := { n := 4, ps := 2, io := [], body := [.asg (.nm 2) (.int 1),
    .for_ (.nm 3) .range [(.var 1)] [.aug 2 .mul (.call ih [(.var 0), (.var 1), (.var 3)])],
    .ret (.var 2)] }
def heldM (size n step : Nat) : Nat := min size (n - step)
def manyM (size n : Nat) : Nat := (List.range n).foldl (fun a step => a * heldM size n step) 1
section
variable {call : Nat → List D → Option (D × List D)} {io : Nat → List Nat}
theorem held_run {size n step : Nat} (h : step ≤ n) : runF ⟨call, io, []⟩ f_held_at [.int size, .int n, .int step] = some (.int (heldM size n step), []) := by
  have e : (if (n : Int) - (step : Int) < (size : Int) then (n : Int) - (step : Int) else (size : Int)) = ((heldM size n step : Nat) : Int) := by
    unfold heldM
    split <;> omega
  refine runF_rt (f := f_held_at) (δ0 := [some (.int size), some (.int n), some (.int step)]) rfl rfl (δ := [some (.int size), some (.int n), some (.int step)]) ?_ rfl
  exact evSs_ret _ 98 _ _ _ (by simp [e])
theorem many_run {ih : Nat} (hio : io ih = []) (hh : ∀ size n step : Nat, step ≤ n → call ih [.int size, .int n, .int step] = some (.int (heldM size n step), [])) {size n : Nat} (hs : size ≤ 1000000) (hn : n ≤ 1000000) :
    runF ⟨call, io, []⟩ (f_how_many ih) [.int size, .int n] = some (.int (manyM size n), []) := by
  have hi : evIt ⟨call, io, []⟩ 97 .range [(.var 1)] [some (.int size), some (.int n), some (.int 1), none] = some ((List.range n).map nt, [some (.int size), some (.int n), some (.int 1), none]) := by
    simp [rangeOf1 hn, rangeD_up0]
  obtain ⟨δ', h4, t', h5⟩ := forL_pre (set := setT [] (.nm 3)) (body := evSs ⟨call, io, []⟩ 97 [.aug 2 .mul (.call ih [(.var 0), (.var 1), (.var 3)])])
    (fun pre δ => ∃ t', δ = [some (.int size), some (.int n), some (.int (pre.foldl (fun a step => a * heldM size n step) 1 : Nat)), t']) nt (List.range n)
    (fun pre x post δ eq i => by
      obtain ⟨t', rfl⟩ := i
      have hx : x ≤ n := by
        have : x ∈ List.range n := by rw [eq]; simp
        have := List.mem_range.mp this
        omega
      have h := hh size n x hx
      have sm : small64 (heldM size n x) = true := sm64n (by unfold heldM; omega)
      refine ⟨[some (.int size), some (.int n), some (.int (pre.foldl (fun a step => a * heldM size n step) 1 : Nat)), some (nt x)], _, by simp, ?_, some (nt x), rfl⟩
      rw [List.foldl_append]
      simp only [List.foldl_cons, List.foldl_nil]
      generalize pre.foldl (fun a step => a * heldM size n step) 1 = z
      generalize heldM size n x = y at *
      simp [hio, h, augI, sm]) (List.range n) [] _ (by simp) ⟨none, rfl⟩
  subst h5
  refine runF_rt (f := f_how_many ih) (δ0 := [some (.int size), some (.int n), none, none]) rfl rfl (δ := [some (.int size), some (.int n), some (.int (manyM size n)), t']) ?_ rfl
  refine (evSs_cons _ 99 _ _ _ (δ1 := [some (.int size), some (.int n), some (.int 1), none]) (by simp)).trans ?_
  refine (evSs_cons _ 98 _ _ _ (evS_for _ 97 _ _ _ _ _ hi h4)).trans ?_
  exact evSs_ret _ 96 _ _ _ (by simp [manyM])
end
/-! the laws' own rows -/
def rowStep (n : Nat) (rows : List (List Nat)) : List (List Nat) := rows.flatMap fun row => ((List.range n).filter fun own => !row.contains own).map fun own => row ++ [own]
def rowsK (n : Nat) : Nat → List (List Nat)
  | 0 => [[]]
  | k + 1 => rowStep n (rowsK n k)
def rowsM (n : Nat) : List (List Nat) := rowsK n n
def rowBody : List S := [.asg (.nm 3) (.bin .add (.var 3) (.lc (.bin .add (.var 4) (.tup [(.var 5)])) (.nm 5) .range [(.var 0)] [(.cmp .notin (.var 5) (.var 4))] [5]))]
def f_law_rows : Fn := { n := 6, ps := 1, io := [], body := [.asg (.nm 1) (.lst [(.tup [])]),
    .for_ (.nm 2) .range [(.var 0)] [.asg (.nm 3) (.lst []),
    .for_ (.nm 4) .val [(.var 1)] rowBody,
    .asg (.nm 1) (.var 3)],
    .ret (.var 1)] }
theorem any_eq_nts (x : Nat) : ∀ l : List Nat, (l.map nt).any (fun y => y.eq (nt x)) = l.contains x
  | [] => rfl
  | y :: l => by
    have ih := any_eq_nts x l
    simp only [List.map_cons, List.any_cons, qeq_int, nat_beq, List.contains_cons, ih]
    rw [BEq.comm]
theorem flats_nts : ∀ l : List Nat, flats (l.map nt) = true
  | [] => rfl
  | x :: l => by simp only [List.map_cons, flats, D.flat, flats_nts l, Bool.and_self]
section
variable {call : Nat → List D → Option (D × List D)} {io : Nat → List Nat} {n : Nat} {a1 a2 : Option D} {acc : List (List Nat)} {row : List Nat}
theorem row_turn (hn : n ≤ 100) (hl : acc.length ≤ 900000) (hr : row.length ≤ 1000) (m : Nat) :
    evSs ⟨call, io, []⟩ (m + 30) rowBody [some (.int n), a1, a2, some (.lst true (acc.map tN)), some (tN row), none] =
      some (.nx [some (.int n), a1, a2, some (.lst true ((acc ++ ((List.range n).filter fun own => !row.contains own).map fun own => row ++ [own]).map tN)), some (tN row), none]) := by
  have fr := nts_fz row
  have fa := tNs_fz acc
  have hi : evIt ⟨call, io, []⟩ (m + 23) .range [(.var 0)] [some (.int n), a1, a2, some (.lst true (acc.map tN)), some (tN row), none] = some ((List.range n).map nt, [some (.int n), a1, a2, some (.lst true (acc.map tN)), some (tN row), none]) := by
    simp [rangeOf1 (t := n) (by omega), rangeD_up0]
  have e1 : evE ⟨call, io, []⟩ (m + 24) (.lc (.bin .add (.var 4) (.tup [(.var 5)])) (.nm 5) .range [(.var 0)] [(.cmp .notin (.var 5) (.var 4))] [5]) [some (.int n), a1, a2, some (.lst true (acc.map tN)), some (tN row), none] =
      some (.tmp (.lst true ((((List.range n).filter fun own => !row.contains own).map fun own => row ++ [own]).map tN)), [some (.int n), a1, a2, some (.lst true (acc.map tN)), some (tN row), none]) := by
    refine (ev_lcIf (C := ⟨call, io, []⟩) (n := m + 22) (v := 5) (p := fun d => match d with
      | .int z => !row.contains z.toNat
      | _ => false) (f := fun d => match d with
      | .int z => tN (row ++ [z.toNat])
      | _ => .non) rfl hi (by simp) (by simp [ownFz]) (by simp [cap]; omega) (fun x hx => ?_) (fun x hx hp => ?_)).trans ?_
    · obtain ⟨w, _, rfl⟩ := List.mem_map.mp hx
      have an := any_eq_nts w row
      have fl := flats_nts row
      refine Eq.trans ?_ (show some (!row.contains w, [some (.int n), a1, a2, some (.lst true (acc.map tN)), some (tN row), none].set 5 (some (nt w))) = _ from rfl)
      generalize row.contains w = c at *
      simp [fr, cmpD, D.flat, fl, an]
    · obtain ⟨w, _, rfl⟩ := List.mem_map.mp hx
      have l1 : row.length + 1 ≤ 1000000 := by omega
      simp [fr, l1, cap]
    · simp only [List.filter_map, List.map_map]
      simp [Function.comp_def]
  have lc : acc.length + (((List.range n).filter fun own => !row.contains own).map fun own => row ++ [own]).length ≤ cap := by
    have := List.length_filter_le (fun own => !row.contains own) (List.range n)
    simp only [List.length_map, List.length_range] at this ⊢
    unfold cap
    omega
  generalize hz : ((List.range n).filter fun own => !row.contains own).map (fun own => row ++ [own]) = z at *
  have fz := tNs_fz z
  have e2 : evE ⟨call, io, []⟩ (m + 27) (.bin .add (.var 3) (.lc (.bin .add (.var 4) (.tup [(.var 5)])) (.nm 5) .range [(.var 0)] [(.cmp .notin (.var 5) (.var 4))] [5])) [some (.int n), a1, a2, some (.lst true (acc.map tN)), some (tN row), none] =
      some (.tmp (.lst true ((acc ++ z).map tN)), [some (.int n), a1, a2, some (.lst true (acc.map tN)), some (tN row), none]) := by
    rw [qevE_bin, qevAs_2, qevE_var]
    simp only [qslot_s, qslot_z, qfz_lst, fa, Bool.not_true, Bool.false_and, Bool.false_eq_true, if_false, qsettle_bor]
    rw [qevAs_2, e1]
    simp [fa, fz, lc]
  unfold rowBody
  refine (evSs_cons _ (m + 29) _ _ _ (evS_asg _ (m + 27) 3 _ _ e2 (by simp) rfl)).trans ?_
  rw [evSs_nil]
  rfl

theorem mem_rowStep {n : Nat} {rows : List (List Nat)} {L : Nat} (h : ∀ r ∈ rows, r.length ≤ L) : ∀ r ∈ rowStep n rows, r.length ≤ L + 1 := by
  intro r hr
  obtain ⟨row, h1, h2⟩ := List.mem_flatMap.mp hr
  obtain ⟨own, _, rfl⟩ := List.mem_map.mp h2
  have := h row h1
  simp
  exact this
theorem rowStep_len (n : Nat) : ∀ rows : List (List Nat), (rowStep n rows).length ≤ rows.length * n
  | [] => by simp [rowStep]
  | r :: rows => by
    have ih := rowStep_len n rows
    have h := List.length_filter_le (fun own => !r.contains own) (List.range n)
    simp only [rowStep, List.flatMap_cons, List.length_append, List.length_map, List.length_cons, List.length_range] at ih h ⊢
    rw [Nat.add_mul, Nat.one_mul]
    omega
theorem rows_turn (hn : n ≤ 100) {rows : List (List Nat)} (hr : ∀ r ∈ rows, r.length ≤ 1000) (hl : rows.length ≤ 9000) {o : Bool} {a2 a3 a4 : Option D} (m : Nat) :
    ∃ a3' a4', evSs ⟨call, io, []⟩ (m + 50) [.asg (.nm 3) (.lst []), .for_ (.nm 4) .val [(.var 1)] rowBody, .asg (.nm 1) (.var 3)] [some (.int n), some (.lst o (rows.map tN)), a2, a3, a4, none] =
      some (.nx [some (.int n), some (.lst false ((rowStep n rows).map tN)), a2, a3', a4', none]) := by
  have fr := tNs_fz rows
  have fz := tNs_frz rows
  have hi : evIt ⟨call, io, []⟩ (m + 47) .val [(.var 1)] [some (.int n), some (.lst o (rows.map tN)), a2, some (.lst true []), a4, none] = some (rows.map tN, [some (.int n), some (.lst false (rows.map tN)), a2, some (.lst true []), a4, none]) := by
    cases o <;> simp [fr, fz]
  obtain ⟨δ', h4, a4', h5⟩ := forL_pre (set := setT [] (.nm 4)) (body := evSs ⟨call, io, []⟩ (m + 47) rowBody)
    (fun pre δ => ∃ a4', δ = [some (.int n), some (.lst false (rows.map tN)), a2, some (.lst true ((rowStep n pre).map tN)), a4', none]) tN rows
    (fun pre x post δ eq i => by
      obtain ⟨a4', rfl⟩ := i
      have p1 : pre.length ≤ 9000 := by
        have := congrArg List.length eq
        simp at this
        omega
      have p2 := rowStep_len n pre
      have p3 : pre.length * n ≤ 9000 * 100 := Nat.mul_le_mul p1 hn
      have h := row_turn (call := call) (io := io) (a1 := some (.lst false (rows.map tN))) (a2 := a2) (acc := rowStep n pre) (row := x) hn (by omega) (hr x (by rw [eq]; simp)) (m + 17)
      refine ⟨[some (.int n), some (.lst false (rows.map tN)), a2, some (.lst true ((rowStep n pre).map tN)), some (tN x), none], _, by simp, h, some (tN x), ?_⟩
      simp [rowStep]) rows [] [some (.int n), some (.lst false (rows.map tN)), a2, some (.lst true []), a4, none] (by simp) ⟨a4, rfl⟩
  subst h5
  have ft := tNs_fz (rowStep n rows)
  have fq := tNs_frz (rowStep n rows)
  refine ⟨some (.lst false ((rowStep n rows).map tN)), a4', ?_⟩
  refine (evSs_cons _ (m + 49) _ _ _ (δ1 := [some (.int n), some (.lst o (rows.map tN)), a2, some (.lst true []), a4, none]) (by simp [cap])).trans ?_
  refine (evSs_cons _ (m + 48) _ _ _ (evS_for _ (m + 47) _ _ _ _ _ hi h4)).trans ?_
  refine (evSs_cons _ (m + 47) _ _ _ (δ1 := [some (.int n), some (.lst false ((rowStep n rows).map tN)), a2, some (.lst false ((rowStep n rows).map tN)), a4', none]) ?_).trans (evSs_nil _ (m + 46) _)
  generalize (rowStep n rows).map tN = y at *
  cases y <;> simp_all
end
theorem rowsK_len (n : Nat) : ∀ k, (∀ r ∈ rowsK n k, r.length ≤ k) ∧ (rowsK n k).length ≤ n ^ k
  | 0 => by simp [rowsK]
  | k + 1 => by
    obtain ⟨h1, h2⟩ := rowsK_len n k
    refine ⟨mem_rowStep h1, ?_⟩
    have := rowStep_len n (rowsK n k)
    have q : (rowsK n k).length * n ≤ n ^ k * n := Nat.mul_le_mul_right n h2
    show (rowStep n (rowsK n k)).length ≤ n ^ (k + 1)
    rw [Nat.pow_succ]
    omega
end Ev

set_option linter.all false
set_option maxRecDepth 100000
set_option maxHeartbeats 4000000
/-! ML: the laws' rows, early, all; run -/
namespace Ev
open PySem
theorem rows_run {call : Nat → List D → Option (D × List D)} {io : Nat → List Nat} {n : Nat} (hn : n ≤ 100) (hk : ∀ k, k ≤ n → (rowsK n k).length ≤ 9000) : runF ⟨call, io, []⟩ f_law_rows [.int n] = some (.lst false ((rowsM n).map tN), []) ∨ runF ⟨call, io, []⟩ f_law_rows [.int n] = some (.lst true ((rowsM n).map tN), []) := by
  have hi : evIt ⟨call, io, []⟩ 97 .range [(.var 0)] [some (.int n), some (.lst true [tN []]), none, none, none, none] = some ((List.range n).map nt, [some (.int n), some (.lst true [tN []]), none, none, none, none]) := by
    simp [rangeOf1 (t := n) (by omega), rangeD_up0]
  obtain ⟨δ', h4, o, a2, a3, a4, h5⟩ := forL_pre (set := setT [] (.nm 2)) (body := evSs ⟨call, io, []⟩ 97 [.asg (.nm 3) (.lst []), .for_ (.nm 4) .val [(.var 1)] rowBody, .asg (.nm 1) (.var 3)])
    (fun pre δ => ∃ o a2 a3 a4, δ = [some (.int n), some (.lst o ((rowsK n pre.length).map tN)), a2, a3, a4, none]) nt (List.range n)
    (fun pre x post δ eq i => by
      obtain ⟨o, a2, a3, a4, rfl⟩ := i
      have p1 : pre.length < n := by
        have := congrArg List.length eq
        simp at this
        omega
      obtain ⟨a3', a4', h⟩ := rows_turn (call := call) (io := io) (a2 := some (nt x)) (a3 := a3) (a4 := a4) (o := o) hn (rows := rowsK n pre.length) (fun r hr => by have := (rowsK_len n pre.length).1 r hr; omega) (hk _ (by omega)) 47
      refine ⟨[some (.int n), some (.lst o ((rowsK n pre.length).map tN)), some (nt x), a3, a4, none], _, by simp, h, false, some (nt x), a3', a4', ?_⟩
      rw [List.length_append]
      rfl) (List.range n) [] [some (.int n), some (.lst true [tN []]), none, none, none, none] (by simp) ⟨true, none, none, none, rfl⟩
  rw [List.length_range] at h5
  subst h5
  have s1 : evS ⟨call, io, []⟩ 99 (.asg (.nm 1) (.lst [(.tup [])])) [some (.int n), none, none, none, none, none] = some (.nx [some (.int n), some (.lst true [tN []]), none, none, none, none]) := by simp [cap]
  have f := tNs_fz (rowsM n)
  cases o with
  | false =>
    left
    refine runF_rt (f := f_law_rows) (δ0 := [some (.int n), none, none, none, none, none]) rfl rfl (δ := [some (.int n), some (.lst false ((rowsM n).map tN)), a2, a3, a4, none]) ?_ rfl
    refine (evSs_cons _ 99 _ _ _ s1).trans ((evSs_cons _ 98 _ _ _ (evS_for _ 97 _ _ _ _ _ hi h4)).trans ?_)
    refine evSs_ret _ 96 _ _ _ ?_
    show evE _ 96 (.var 1) [some (.int n), some (.lst false ((rowsM n).map tN)), a2, a3, a4, none] = _
    simp [f]
  | true =>
    right
    refine runF_rt (f := f_law_rows) (δ0 := [some (.int n), none, none, none, none, none]) rfl rfl (δ := [some (.int n), none, a2, a3, a4, none]) ?_ rfl
    refine (evSs_cons _ 99 _ _ _ s1).trans ((evSs_cons _ 98 _ _ _ (evS_for _ 97 _ _ _ _ _ hi h4)).trans ?_)
    refine evSs_stop _ 97 _ _ _ ?_
    refine (evS_retO _ 96 1 _ _ (δ1 := [some (.int n), some (.lst true ((rowsM n).map tN)), a2, a3, a4, none]) ?_ rfl rfl)
    show evE _ 96 (.var 1) [some (.int n), some (.lst true ((rowsM n).map tN)), a2, a3, a4, none] = _
    simp [f]
/-- the place of the first one that is not held -/
def earlyGo (size len : Nat) : Nat → List Nat → List Nat → Option Nat
  | _, [], _ => none
  | k, own :: rest, held => if held.contains own then earlyGo size len (k + 1) rest ((held.filter fun z => z != own) ++ if k + size < len then [k + size] else []) else some k
def earlyM (size : Nat) (line : List Nat) : Option Nat := earlyGo size line.length 0 line (List.range (min size line.length))
def earlyBody : List S := [.ifs (.cmp .notin (.var 4) (.var 2)) [.ret (.var 3)] [],
    .asg (.nm 2) (.lc (.var 5) (.nm 5) .val [(.var 2)] [(.cmp .ne (.var 5) (.var 4))] [5]),
    .ifs (.cmp .lt (.bin .add (.var 3) (.var 0)) (.bi .len [(.var 1)])) [.expr (.meth .append (.var 2) [(.bin .add (.var 3) (.var 0))])] []]
def f_law_early : Fn := { n := 6, ps := 2, io := [], body := [.asg (.nm 2) (.bi .lrange [(.bi .min2 [(.var 0), (.bi .len [(.var 1)])])]),
    .for_ (.tp [3, 4]) .enum [(.var 1)] earlyBody,
    .ret .non] }
section
variable {call : Nat → List D → Option (D × List D)} {io : Nat → List Nat} {size : Nat} {line : List Nat}
theorem early_turn {k own : Nat} {held : List Nat} (hh : held.length ≤ 100000) (m : Nat) :
    evSs ⟨call, io, []⟩ (m + 50) earlyBody [some (.int size), some (tN line), some (.lst true (held.map nt)), some (nt k), some (nt own), none] =
      if held.contains own then some (.nx [some (.int size), some (tN line), some (.lst true (((held.filter fun z => z != own) ++ if k + size < line.length then [k + size] else []).map nt)), some (nt k), some (nt own), none])
      else some (.rt (nt k) [some (.int size), some (tN line), some (.lst true (held.map nt)), some (nt k), some (nt own), none]) := by
  have an := any_eq_nts own held
  have fh := nts_fz held
  have fq := nts_frz held
  have fl := nts_fz line
  have ok := oks_nts 58 held
  have t1 : evT ⟨call, io, []⟩ (m + 48) (.cmp .notin (.var 4) (.var 2)) [some (.int size), some (tN line), some (.lst true (held.map nt)), some (nt k), some (nt own), none] = some (!held.contains own, [some (.int size), some (tN line), some (.lst true (held.map nt)), some (nt k), some (nt own), none]) := by
    generalize held.contains own = c at *
    simp [fh, cmpD, plain, ok, an]
  cases hc : held.contains own with
  | false =>
    rw [hc] at t1
    rw [if_neg (by simp)]
    refine evSs_stop _ (m + 49) _ _ _ ((evS_if_t _ (m + 48) _ _ _ _ t1).trans ?_)
    exact evSs_ret _ (m + 46) _ _ _ (by simp)
  | true =>
    rw [hc] at t1
    rw [if_pos rfl]
    refine (evSs_cons _ (m + 49) _ _ _ ((evS_if_f _ (m + 48) _ _ _ _ t1).trans (evSs_nil _ (m + 47) _))).trans ?_
    have hi : evIt ⟨call, io, []⟩ (m + 45) .val [(.var 2)] [some (.int size), some (tN line), some (.lst true (held.map nt)), some (nt k), some (nt own), none] = some (held.map nt, [some (.int size), some (tN line), some (.lst false (held.map nt)), some (nt k), some (nt own), none]) := by
      simp [fh, fq]
    have e1 : evE ⟨call, io, []⟩ (m + 46) (.lc (.var 5) (.nm 5) .val [(.var 2)] [(.cmp .ne (.var 5) (.var 4))] [5]) [some (.int size), some (tN line), some (.lst true (held.map nt)), some (nt k), some (nt own), none] =
        some (.tmp (.lst true ((held.filter fun z => z != own).map nt)), [some (.int size), some (tN line), some (.lst false (held.map nt)), some (nt k), some (nt own), none]) := by
      refine (ev_lcIf (C := ⟨call, io, []⟩) (n := m + 44) (v := 5) (p := fun d => match d with
        | .int z => z.toNat != own
        | _ => false) (f := fun d => d) rfl hi (by simp) (by simp [ownFz]) (by simp [cap]; omega) (fun x hx => ?_) (fun x hx hp => ?_)).trans ?_
      · obtain ⟨w, _, rfl⟩ := List.mem_map.mp hx
        simp [plain, nat_beq, bne]
      · obtain ⟨w, _, rfl⟩ := List.mem_map.mp hx
        simp
      · simp only [List.filter_map]
        simp [Function.comp_def]
    have lf := List.length_filter_le (fun z => z != own) held
    generalize (held.filter fun z => z != own) = h2 at *
    have f2 := nts_fz h2
    refine (evSs_cons _ (m + 48) _ _ _ (δ1 := [some (.int size), some (tN line), some (.lst true (h2.map nt)), some (nt k), some (nt own), none]) ?_).trans ?_
    · rw [qevS_asg, qevV_1, e1]
      simp
    · have t2 : evT ⟨call, io, []⟩ (m + 46) (.cmp .lt (.bin .add (.var 3) (.var 0)) (.bi .len [(.var 1)])) [some (.int size), some (tN line), some (.lst true (h2.map nt)), some (nt k), some (nt own), none] = some (decide (k + size < line.length), [some (.int size), some (tN line), some (.lst true (h2.map nt)), some (nt k), some (nt own), none]) := by
        have e : decide ((k : Int) + (size : Int) < (line.length : Int)) = decide (k + size < line.length) := by
          rw [decide_eq_decide]
          omega
        simp [fl, e]
      by_cases hlt : k + size < line.length
      · rw [decide_eq_true hlt] at t2
        rw [if_pos hlt]
        refine (evSs_cons _ (m + 47) _ _ _ ((evS_if_t _ (m + 46) _ _ _ _ t2).trans ?_)).trans (evSs_nil _ (m + 46) _)
        have lt : h2.length < cap := by unfold cap; omega
        have e3 : evE ⟨call, io, []⟩ (m + 44) (.meth .append (.var 2) [(.bin .add (.var 3) (.var 0))]) [some (.int size), some (tN line), some (.lst true (h2.map nt)), some (nt k), some (nt own), none] = some (.tmp .non, [some (.int size), some (tN line), some (.lst true ((h2 ++ [k + size]).map nt)), some (nt k), some (nt own), none]) := by
          rw [qevE_append]
          rw [show evE ⟨call, io, []⟩ (m + 43) (.var 2) [some (.int size), some (tN line), some (.lst true (h2.map nt)), some (nt k), some (nt own), none] = some (.bor 2 [], [some (.int size), some (tN line), some (.lst true (h2.map nt)), some (nt k), some (nt own), none]) by simp [f2]]
          refine (methX_run (s := 2) (δ1 := [some (.int size), some (tN line), some (.lst true (h2.map nt)), some (nt k), some (nt own), none]) (δ2 := [some (.int size), some (tN line), some (.lst true (h2.map nt)), some (nt k), some (nt own), none]) (δ3 := [some (.int size), some (tN line), some (.lst true (h2.map nt)), some (nt k), some (nt own), none]) (as := [.tmp (nt (k + size))]) rfl rfl (by simp) rfl rfl (d' := .lst true ((h2 ++ [k + size]).map nt)) (r := .non) ?_).trans ?_
          · simp [methD, lt]
          · rfl
        rw [evSs_cons _ (m + 45) _ _ _ (show evS _ (m + 45) _ _ = _ by rw [qevS_expr, e3]), evSs_nil]
      · rw [decide_eq_false hlt] at t2
        rw [if_neg hlt, List.append_nil]
        exact (evSs_cons _ (m + 47) _ _ _ ((evS_if_f _ (m + 46) _ _ _ _ t2).trans (evSs_nil _ (m + 45) _))).trans (evSs_nil _ (m + 46) _)

theorem early_loop : ∀ (rest : List Nat) (k : Nat) (held : List Nat) (a3 a4 : Option D), held.length + rest.length ≤ 100000 → ∃ δ', forL (setT [] (.tp [3, 4])) (evSs ⟨call, io, []⟩ 97 earlyBody) (enumD k (rest.map nt)) [some (.int size), some (tN line), some (.lst true (held.map nt)), a3, a4, none] =
    match earlyGo size line.length k rest held with
    | some j => some (.rt (nt j) δ')
    | none => some (.nx δ')
  | [], k, held, a3, a4, _ => ⟨_, rfl⟩
  | own :: rest, k, held, a3, a4, hl => by
    simp only [List.length_cons] at hl
    have t := early_turn (call := call) (io := io) (size := size) (line := line) (k := k) (own := own) (held := held) (by omega) 47
    have s : setT [] (.tp [3, 4]) (.tup [.int k, nt own]) [some (.int size), some (tN line), some (.lst true (held.map nt)), a3, a4, none] = some [some (.int size), some (tN line), some (.lst true (held.map nt)), some (nt k), some (nt own), none] := by simp
    simp only [List.map_cons, enumD, forL, s, t]
    unfold earlyGo
    cases hc : held.contains own with
    | false =>
      simp only [Bool.false_eq_true, if_false]
      exact ⟨_, rfl⟩
    | true =>
      simp only [if_true]
      have lf := List.length_filter_le (fun z => z != own) held
      refine early_loop rest (k + 1) _ (some (nt k)) (some (nt own)) ?_
      rw [List.length_append]
      split
      · simp only [List.length_singleton]; omega
      · simp only [List.length_nil]; omega
theorem early_run (hs : size ≤ 1000) (hl : line.length ≤ 1000) : runF ⟨call, io, []⟩ f_law_early [.int size, tN line] = some (match earlyM size line with
    | some j => nt j
    | none => .non, []) := by
  have fl := nts_fz line
  have fq := nts_frz line
  have em : (if (line.length : Int) < (size : Int) then (line.length : Int) else (size : Int)) = ((min size line.length : Nat) : Int) := by
    split <;> omega
  have r := rangeOf1 (t := min size line.length) (by omega)
  have lc : min size line.length ≤ cap := by unfold cap; omega
  have s1 : evS ⟨call, io, []⟩ 99 (.asg (.nm 2) (.bi .lrange [(.bi .min2 [(.var 0), (.bi .len [(.var 1)])])])) [some (.int size), some (tN line), none, none, none, none] = some (.nx [some (.int size), some (tN line), some (.lst true ((List.range (min size line.length)).map nt)), none, none, none]) := by
    have e0 : evE ⟨call, io, []⟩ 95 (.bi .min2 [(.var 0), (.bi .len [(.var 1)])]) [some (.int size), some (tN line), none, none, none, none] = some (.tmp (.int (min size line.length : Nat)), [some (.int size), some (tN line), none, none, none, none]) := by
      rw [← em]
      simp [fl]
    rw [qevS_asg, qevV_1, qevE_bi, qevAs_2, e0]
    generalize min size line.length = w at *
    simp [r, rangeD_up0, lc]
  have hi : evIt ⟨call, io, []⟩ 97 .enum [(.var 1)] [some (.int size), some (tN line), some (.lst true ((List.range (min size line.length)).map nt)), none, none, none] = some (enumD 0 (line.map nt), [some (.int size), some (tN line), some (.lst true ((List.range (min size line.length)).map nt)), none, none, none]) := by
    simp [fl, fq]
  obtain ⟨δ', h⟩ := early_loop (call := call) (io := io) (size := size) (line := line) line 0 (List.range (min size line.length)) none none (by simp; omega)
  unfold earlyM
  cases he : earlyGo size line.length 0 line (List.range (min size line.length)) with
  | none =>
    rw [he] at h
    refine runF_rt (f := f_law_early) (δ0 := [some (.int size), some (tN line), none, none, none, none]) rfl rfl (δ := δ') ?_ (by simp [f_law_early])
    refine (evSs_cons _ 99 _ _ _ s1).trans ((evSs_cons _ 98 _ _ _ (evS_for _ 97 _ _ _ _ _ hi h)).trans ?_)
    exact evSs_ret _ 96 _ _ _ (by simp)
  | some j =>
    rw [he] at h
    refine runF_rt (f := f_law_early) (δ0 := [some (.int size), some (tN line), none, none, none, none]) rfl rfl (δ := δ') ?_ (by simp [f_law_early])
    refine (evSs_cons _ 99 _ _ _ s1).trans ?_
    exact evSs_stop _ 98 _ _ _ (evS_for _ 97 _ _ _ _ _ hi h)
end
def allM (size n : Nat) : List (List Nat) := (rowsM n).filter fun row => (earlyM size row).isNone
def f_law_all (ir ie : Nat) : Fn := { n := 3, ps := 2, io := [], body := [.ret (.lc (.var 2) (.nm 2) .val [(.call ir [(.var 1)])] [(.cmp .isn (.call ie [(.var 0), (.var 2)]) .non)] [2])] }
theorem all_run {call : Nat → List D → Option (D × List D)} {io : Nat → List Nat} {ir ie : Nat} (hr : io ir = []) (he : io ie = []) {size n : Nat} (hs : size ≤ 1000) (hn : n ≤ 1000)
    (h1 : call ir [.int n] = some (.lst false ((rowsM n).map tN), []) ∨ call ir [.int n] = some (.lst true ((rowsM n).map tN), [])) (hl : (rowsM n).length ≤ 9000)
    (h2 : ∀ line : List Nat, line.length ≤ 1000 → call ie [.int size, tN line] = some (match earlyM size line with
      | some j => nt j
      | none => .non, [])) : runF ⟨call, io, []⟩ (f_law_all ir ie) [.int size, .int n] = some (.lst true ((allM size n).map tN), []) := by
  have hi : evIt ⟨call, io, []⟩ 97 .val [(.call ir [(.var 1)])] [some (.int size), some (.int n), none] = some ((rowsM n).map tN, [some (.int size), some (.int n), none]) := by
    have f := tNs_frz (rowsM n)
    rcases h1 with h | h <;> simp [hr, h, f]
  refine runF_rt (f := f_law_all ir ie) (δ0 := [some (.int size), some (.int n), none]) rfl rfl (δ := [some (.int size), some (.int n), none]) (evSs_ret _ 98 _ _ _ ?_) rfl
  refine (ev_lcIf (C := ⟨call, io, []⟩) (n := 96) (v := 2) (p := fun d => match d with
      | .tup xs => match call ie [.int size, .tup xs] with
        | some (.non, _) => true
        | _ => false
      | _ => false) (f := fun d => d) rfl hi (by simp) (by simp [ownFz]) (by simp [cap]; omega) (fun x hx => ?_) (fun x hx hp => ?_)).trans ?_
  · obtain ⟨y, hy, rfl⟩ := List.mem_map.mp hx
    have ly := (rowsK_len n n).1 y hy
    have f := nts_fz y
    have h := h2 y (by omega)
    simp only [tN] at h ⊢
    cases e : earlyM size y with
    | none => rw [e] at h; simp only at h; simp [f, he, h, isNon]
    | some j => rw [e] at h; simp only at h; simp [f, he, h, isNon]
  · obtain ⟨y, _, rfl⟩ := List.mem_map.mp hx
    have f := nts_fz y
    simp [f]
  · simp only [List.map_id', List.filter_map]
    have : ((rowsM n).filter ((fun d => match d with
      | .tup xs => match call ie [.int size, .tup xs] with
        | some (.non, _) => true
        | _ => false
      | _ => false) ∘ tN)) = allM size n := by
      unfold allM
      apply List.filter_congr
      intro y hy
      have ly := (rowsK_len n n).1 y hy
      have h := h2 y (by omega)
      simp only [tN] at h
      simp only [Function.comp, h]
      cases earlyM size y <;> rfl
    rw [this]
end Ev

set_option linter.all false
set_option maxRecDepth 100000
set_option maxHeartbeats 4000000
/-! MN: buffers, the plain law: choices, rows, numbers -/
namespace Ev.Bu
def idx (x : Nat) : List Nat → Option Nat
  | [] => none
  | y :: ys => if y = x then some 0 else (idx x ys).map (· + 1)
/-- what is taken next -/
def nxt (size n k : Nat) : List Nat := if k + size < n then [k + size] else []
def chGo (size n : Nat) : Nat → List Nat → List Nat → Option (List Nat)
  | _, [], _ => some []
  | k, x :: xs, held => match idx x held with
    | none => none
    | some j => (chGo size n (k + 1) xs (held.eraseIdx j ++ nxt size n k)).map (j :: ·)
def rowGo (size n : Nat) : Nat → List Nat → List Nat → Option (List Nat)
  | _, [], _ => some []
  | k, c :: cs, held => match held[c]? with
    | none => none
    | some x => (rowGo size n (k + 1) cs (held.eraseIdx c ++ nxt size n k)).map (x :: ·)
def held0 (size n : Nat) : List Nat := List.range (min size n)
def chM (size : Nat) (row : List Nat) : Option (List Nat) := chGo size row.length 0 row (held0 size row.length)
def rowM (size : Nat) (cs : List Nat) : Option (List Nat) := rowGo size cs.length 0 cs (held0 size cs.length)
def tooGo (size : Nat) : Nat → List Nat → Option Nat
  | _, [] => none
  | k, x :: xs => if k + size < x + 1 then some k else tooGo size (k + 1) xs
def tooM (size : Nat) (row : List Nat) : Option Nat := tooGo size 0 row
theorem idx_get : ∀ {l : List Nat} {c x : Nat}, l.Nodup → l[c]? = some x → idx x l = some c
  | [], c, x, _, e => by simp at e
  | y :: ys, 0, x, _, e => by simp at e; simp [idx, e]
  | y :: ys, c + 1, x, nd, e => by
    simp only [List.getElem?_cons_succ] at e
    rw [List.nodup_cons] at nd
    have hne : y ≠ x := fun h => nd.1 (h ▸ List.mem_of_getElem? e)
    simp [idx, hne, idx_get nd.2 e]
theorem idx_some : ∀ {l : List Nat} {j x : Nat}, idx x l = some j → l[j]? = some x
  | [], j, x, e => by simp [idx] at e
  | y :: ys, j, x, e => by
    unfold idx at e
    split at e
    · cases e; simp; assumption
    · rw [Option.map_eq_some_iff] at e
      obtain ⟨i, h, rfl⟩ := e
      simpa using idx_some h
theorem idx_mem : ∀ {l : List Nat} {x : Nat}, x ∈ l → ∃ j, idx x l = some j
  | [], x, h => by cases h
  | y :: ys, x, h => by
    unfold idx
    by_cases hy : y = x
    · exact ⟨0, by simp [hy]⟩
    · obtain ⟨j, e⟩ := idx_mem (l := ys) (x := x) (by rcases List.mem_cons.mp h with h | h; exact absurd h.symm hy; exact h)
      exact ⟨j + 1, by simp [hy, e]⟩
theorem idx_append : ∀ {l : List Nat} {x j : Nat} (m : List Nat), idx x l = some j → idx x (l ++ m) = some j
  | [], x, j, m, e => by simp [idx] at e
  | y :: ys, x, j, m, e => by
    simp only [List.cons_append]
    unfold idx at e ⊢
    split
    · rename_i h; rw [if_pos h] at e; exact e
    · rename_i h
      rw [if_neg h, Option.map_eq_some_iff] at e
      obtain ⟨i, h1, rfl⟩ := e
      rw [idx_append m h1]; rfl
/-- ascending, all below -/
def Asc (l : List Nat) (b : Nat) : Prop := l.Pairwise (· < ·) ∧ ∀ x ∈ l, x < b
theorem Asc.nodup {l : List Nat} {b : Nat} (h : Asc l b) : l.Nodup := h.1.imp fun h => Nat.ne_of_lt h
theorem asc0 (size n : Nat) : Asc (held0 size n) (0 + size) := by
  unfold held0
  exact ⟨List.pairwise_lt_range, fun x h => by have := List.mem_range.mp h; omega⟩
theorem Asc.step {l : List Nat} {size n k : Nat} (h : Asc l (k + size)) (c : Nat) : Asc (l.eraseIdx c ++ nxt size n k) (k + 1 + size) := by
  have sub := List.eraseIdx_sublist l c
  refine ⟨?_, fun x hx => ?_⟩
  · rw [List.pairwise_append]
    refine ⟨h.1.sublist sub, ?_, fun a ha b hb => ?_⟩
    · unfold nxt; split <;> simp
    · have := h.2 a (sub.subset ha)
      unfold nxt at hb
      split at hb
      · simp at hb; omega
      · cases hb
  · rcases List.mem_append.mp hx with hx | hx
    · have := h.2 x (sub.subset hx); omega
    · unfold nxt at hx
      split at hx
      · simp at hx; omega
      · cases hx
theorem ch_row {size n : Nat} : ∀ {cs held row : List Nat} {k : Nat}, Asc held (k + size) → rowGo size n k cs held = some row → chGo size n k row held = some cs
  | [], held, row, k, _, e => by simp [rowGo] at e; subst e; rfl
  | c :: cs, held, row, k, ha, e => by
    unfold rowGo at e
    split at e
    · cases e
    · rename_i x hx
      rw [Option.map_eq_some_iff] at e
      obtain ⟨r, h1, rfl⟩ := e
      unfold chGo
      rw [idx_get ha.nodup hx]
      simp only [ch_row (ha.step c) h1, Option.map_some]
theorem row_ch {size n : Nat} : ∀ {row held cs : List Nat} {k : Nat}, chGo size n k row held = some cs → rowGo size n k cs held = some row
  | [], held, cs, k, e => by simp [chGo] at e; subst e; rfl
  | x :: xs, held, cs, k, e => by
    unfold chGo at e
    split at e
    · cases e
    · rename_i j hj
      rw [Option.map_eq_some_iff] at e
      obtain ⟨r, h1, rfl⟩ := e
      unfold rowGo
      rw [idx_some hj]
      simp only [row_ch h1, Option.map_some]
theorem rowGo_len {size n : Nat} : ∀ {cs held row : List Nat} {k : Nat}, rowGo size n k cs held = some row → row.length = cs.length
  | [], held, row, k, e => by simp [rowGo] at e; subst e; rfl
  | c :: cs, held, row, k, e => by
    unfold rowGo at e
    split at e
    · cases e
    · rw [Option.map_eq_some_iff] at e
      obtain ⟨r, h1, rfl⟩ := e
      simp [rowGo_len h1]
theorem rowM_chM {size : Nat} {cs row : List Nat} (h : rowM size cs = some row) : chM size row = some cs := by
  unfold chM
  rw [rowGo_len h]
  exact ch_row (asc0 size cs.length) h
theorem chGo_len {size n : Nat} {row held cs : List Nat} {k : Nat} (e : chGo size n k row held = some cs) : cs.length = row.length := (rowGo_len (row_ch e)).symm
theorem chM_rowM {size : Nat} {cs row : List Nat} (h : chM size row = some cs) : rowM size cs = some row := by
  unfold rowM
  rw [chGo_len h]
  exact row_ch h
/-! which choices there are -/
def Val (size n : Nat) : Nat → List Nat → Prop
  | _, [] => True
  | k, c :: cs => c < heldM size n k ∧ Val size n (k + 1) cs
theorem step_len {size n k c : Nat} {held : List Nat} (hs : 0 < size) (hk : k < n) (hl : held.length = heldM size n k) (hc : c < held.length) : (held.eraseIdx c ++ nxt size n k).length = heldM size n (k + 1) := by
  rw [List.length_append, List.length_eraseIdx, if_pos hc, hl]
  rw [hl] at hc
  unfold heldM nxt at *
  split
  · simp; omega
  · simp; omega
theorem held0_len (size n : Nat) : (held0 size n).length = heldM size n 0 := by simp [held0, heldM]
theorem row_val {size n : Nat} (hs : 0 < size) : ∀ {cs held : List Nat} {k : Nat}, k + cs.length = n → held.length = heldM size n k → Val size n k cs → ∃ row, rowGo size n k cs held = some row
  | [], held, k, _, _, _ => ⟨[], rfl⟩
  | c :: cs, held, k, hn, hl, hv => by
    simp only [List.length_cons] at hn
    obtain ⟨h1, h2⟩ := hv
    have hc : c < held.length := by omega
    obtain ⟨r, e⟩ := row_val hs (cs := cs) (held := held.eraseIdx c ++ nxt size n k) (k := k + 1) (by omega) (step_len hs (by omega) hl hc) h2
    refine ⟨held[c] :: r, ?_⟩
    unfold rowGo
    rw [List.getElem?_eq_getElem hc]
    simp only [e, Option.map_some]
theorem val_row {size n : Nat} (hs : 0 < size) : ∀ {cs held row : List Nat} {k : Nat}, k + cs.length = n → held.length = heldM size n k → rowGo size n k cs held = some row → Val size n k cs
  | [], held, row, k, _, _, _ => trivial
  | c :: cs, held, row, k, hn, hl, e => by
    simp only [List.length_cons] at hn
    unfold rowGo at e
    split at e
    · cases e
    · rename_i x hx
      rw [Option.map_eq_some_iff] at e
      obtain ⟨r, h1, rfl⟩ := e
      have hc : c < held.length := (List.getElem?_eq_some_iff.mp hx).1
      exact ⟨by omega, val_row hs (by omega) (step_len hs (by omega) hl hc) h1⟩
/-! order -/
def ltN : List Nat → List Nat → Bool
  | [], [] => false
  | [], _ :: _ => true
  | _ :: _, [] => false
  | x :: xs, y :: ys => if x = y then ltN xs ys else decide (x < y)
theorem row_lt {size n : Nat} : ∀ {cs ds held row sow : List Nat} {k : Nat}, Asc held (k + size) → rowGo size n k cs held = some row → rowGo size n k ds held = some sow → ltN cs ds = true → ltN row sow = true
  | [], [], held, row, sow, k, _, e1, e2, h => by simp [ltN] at h
  | [], d :: ds, held, row, sow, k, _, e1, e2, h => by
    have := rowGo_len e1
    have := rowGo_len e2
    cases row with
    | nil => cases sow with
      | nil => simp at this
      | cons => rfl
    | cons => simp at *
  | c :: cs, [], held, row, sow, k, _, e1, e2, h => by simp [ltN] at h
  | c :: cs, d :: ds, held, row, sow, k, ha, e1, e2, h => by
    unfold rowGo at e1 e2
    split at e1
    · cases e1
    · rename_i x hx
      split at e2
      · cases e2
      · rename_i y hy
        rw [Option.map_eq_some_iff] at e1 e2
        obtain ⟨r, h1, rfl⟩ := e1
        obtain ⟨s, h2, rfl⟩ := e2
        unfold ltN at h ⊢
        by_cases hcd : c = d
        · subst hcd
          rw [hx] at hy
          cases hy
          rw [if_pos rfl] at h
          simp only [if_true]
          exact row_lt (ha.step c) h1 h2 h
        · rw [if_neg hcd, decide_eq_true_eq] at h
          obtain ⟨p1, q1⟩ := List.getElem?_eq_some_iff.mp hx
          obtain ⟨p2, q2⟩ := List.getElem?_eq_some_iff.mp hy
          have := List.pairwise_iff_getElem.mp ha.1 c d p1 p2 h
          rw [q1, q2] at this
          rw [if_neg (by omega), decide_eq_true this]
/-! numbers -/
def prodF (size n : Nat) : Nat → Nat → Nat
  | _, 0 => 1
  | k, m + 1 => heldM size n k * prodF size n (k + 1) m
def enc (size n : Nat) : Nat → List Nat → Nat
  | _, [] => 0
  | k, c :: cs => c * prodF size n (k + 1) cs.length + enc size n (k + 1) cs
theorem enc_lt {size n : Nat} : ∀ {cs : List Nat} {k : Nat}, Val size n k cs → enc size n k cs < prodF size n k cs.length
  | [], k, _ => by simp [enc, prodF]
  | c :: cs, k, ⟨h1, h2⟩ => by
    have := enc_lt h2
    simp only [enc, prodF, List.length_cons]
    generalize prodF size n (k + 1) cs.length = P at *
    have : (c + 1) * P ≤ heldM size n k * P := Nat.mul_le_mul_right P h1
    rw [Nat.add_mul, Nat.one_mul] at this
    omega
theorem enc_mono {size n : Nat} : ∀ {cs ds : List Nat} {k : Nat}, cs.length = ds.length → Val size n k cs → Val size n k ds → ltN cs ds = true → enc size n k cs < enc size n k ds
  | [], [], k, _, _, _, h => by simp [ltN] at h
  | [], _ :: _, k, e, _, _, _ => by simp at e
  | _ :: _, [], k, e, _, _, _ => by simp at e
  | c :: cs, d :: ds, k, e, ⟨a1, a2⟩, ⟨b1, b2⟩, h => by
    simp only [List.length_cons, Nat.add_right_cancel_iff] at e
    unfold ltN at h
    simp only [enc, e]
    by_cases hcd : c = d
    · rw [if_pos hcd] at h
      have := enc_mono e a2 b2 h
      subst hcd
      omega
    · rw [if_neg hcd, decide_eq_true_eq] at h
      have := enc_lt a2
      rw [e] at this
      generalize prodF size n (k + 1) ds.length = P at *
      have : (c + 1) * P ≤ d * P := Nat.mul_le_mul_right P h
      rw [Nat.add_mul, Nat.one_mul] at this
      omega
theorem ltN_tri : ∀ {cs ds : List Nat}, cs.length = ds.length → ltN cs ds = true ∨ cs = ds ∨ ltN ds cs = true
  | [], [], _ => .inr (.inl rfl)
  | [], _ :: _, e => by simp at e
  | _ :: _, [], e => by simp at e
  | c :: cs, d :: ds, e => by
    simp only [List.length_cons, Nat.add_right_cancel_iff] at e
    by_cases h : c = d
    · subst h
      rcases ltN_tri e with h | h | h
      · exact .inl (by simp [ltN, h])
      · exact .inr (.inl (by rw [h]))
      · exact .inr (.inr (by simp [ltN, h]))
    · rcases Nat.lt_or_ge c d with g | g
      · exact .inl (by simp [ltN, h, g])
      · exact .inr (.inr (by simp [ltN, Ne.symm h, show d < c by omega]))
theorem enc_inj {size n : Nat} {cs ds : List Nat} {k : Nat} (e : cs.length = ds.length) (a : Val size n k cs) (b : Val size n k ds) (h : enc size n k cs = enc size n k ds) : cs = ds := by
  rcases ltN_tri e with g | g | g
  · have := enc_mono e a b g; omega
  · exact g
  · have := enc_mono e.symm b a g; omega
theorem lt_of_enc {size n : Nat} {cs ds : List Nat} {k : Nat} (e : cs.length = ds.length) (a : Val size n k cs) (b : Val size n k ds) (h : enc size n k cs < enc size n k ds) : ltN cs ds = true := by
  rcases ltN_tri e with g | g | g
  · exact g
  · subst g; omega
  · have := enc_mono e.symm b a g; omega
/-- Horner's way -/
def horn (size n : Nat) : Nat → Nat → List Nat → Nat
  | _, a, [] => a
  | k, a, c :: cs => horn size n (k + 1) (a * heldM size n k + c) cs
theorem horn_enc {size n : Nat} : ∀ (cs : List Nat) (k a : Nat), horn size n k a cs = a * prodF size n k cs.length + enc size n k cs
  | [], k, a => by simp [horn, enc, prodF]
  | c :: cs, k, a => by
    simp only [horn, horn_enc cs, enc, prodF, List.length_cons]
    rw [Nat.add_mul, Nat.mul_assoc]
    omega
/-- the digits, the last one first: the steps m - 1, .. , 0 -/
def digs (size n : Nat) : Nat → Nat → List Nat
  | 0, _ => []
  | m + 1, x => x % heldM size n m :: digs size n m (x / heldM size n m)
theorem digs_len (size n : Nat) : ∀ m x, (digs size n m x).length = m
  | 0, _ => rfl
  | m + 1, x => by simp [digs, digs_len size n m]
theorem prodF_snoc (size n : Nat) : ∀ (m k : Nat), prodF size n k (m + 1) = prodF size n k m * heldM size n (k + m)
  | 0, k => by simp [prodF]
  | m + 1, k => by
    rw [prodF, prodF_snoc size n m (k + 1), prodF, Nat.mul_assoc, show k + 1 + m = k + (m + 1) by omega]
theorem enc_snoc (size n : Nat) : ∀ (cs : List Nat) (k c : Nat), enc size n k (cs ++ [c]) = enc size n k cs * heldM size n (k + cs.length) + c
  | [], k, c => by simp [enc, prodF]
  | d :: cs, k, c => by
    simp only [List.cons_append, enc, List.length_append, List.length_singleton, enc_snoc size n cs, prodF_snoc, List.length_cons]
    rw [show k + 1 + cs.length = k + (cs.length + 1) by omega, Nat.add_mul, Nat.mul_assoc, Nat.add_assoc, show cs.length + ([] : List Nat).length.succ = cs.length + 1 from rfl, prodF_snoc, show k + 1 + cs.length = k + (cs.length + 1) by omega]
theorem val_snoc (size n : Nat) : ∀ (cs : List Nat) (k c : Nat), Val size n k cs → c < heldM size n (k + cs.length) → Val size n k (cs ++ [c])
  | [], k, c, _, h => ⟨h, trivial⟩
  | d :: cs, k, c, ⟨h1, h2⟩, h => ⟨h1, val_snoc size n cs (k + 1) c h2 (by rw [List.length_cons] at h; rw [show k + 1 + cs.length = k + (cs.length + 1) by omega]; exact h)⟩
theorem digs_val {size n : Nat} (hs : 0 < size) : ∀ (m x : Nat), m ≤ n → Val size n 0 (digs size n m x).reverse
  | 0, _, _ => trivial
  | m + 1, x, h => by
    simp only [digs, List.reverse_cons]
    refine val_snoc size n _ 0 _ (digs_val hs m _ (by omega)) ?_
    rw [List.length_reverse, digs_len, Nat.zero_add]
    refine Nat.mod_lt _ ?_
    unfold heldM; omega
theorem enc_digs {size n : Nat} (hs : 0 < size) : ∀ (m x : Nat), m ≤ n → x < prodF size n 0 m → enc size n 0 (digs size n m x).reverse = x
  | 0, x, _, h => by simp [prodF] at h; subst h; rfl
  | m + 1, x, hm, h => by
    rw [prodF_snoc, Nat.zero_add] at h
    simp only [digs, List.reverse_cons]
    rw [enc_snoc, enc_digs hs m _ (by omega) (Nat.div_lt_of_lt_mul (by rw [Nat.mul_comm]; exact h)), List.length_reverse, digs_len, Nat.zero_add, Nat.mul_comm]
    exact Nat.div_add_mod _ _
theorem many_prod (size n : Nat) : ∀ m, (List.range m).foldl (fun a step => a * heldM size n step) 1 = prodF size n 0 m
  | 0 => rfl
  | m + 1 => by rw [List.range_succ, List.foldl_append, many_prod size n m, prodF_snoc, Nat.zero_add]; rfl
theorem manyM_prod (size n : Nat) : manyM size n = prodF size n 0 n := many_prod size n n
def numM (size : Nat) (cs : List Nat) : Nat := horn size cs.length 0 0 cs
theorem numM_enc (size : Nat) (cs : List Nat) : numM size cs = enc size cs.length 0 cs := by
  unfold numM
  rw [horn_enc]
  simp
def withM (size n x : Nat) : List Nat := (digs size n n x).reverse
theorem withM_len (size n x : Nat) : (withM size n x).length = n := by simp [withM, digs_len]
theorem num_with {size n x : Nat} (hs : 0 < size) (h : x < manyM size n) : numM size (withM size n x) = x := by
  rw [numM_enc, withM_len]
  exact enc_digs hs n x (Nat.le_refl _) (by rw [← manyM_prod]; exact h)
theorem with_num {size : Nat} {cs : List Nat} (hs : 0 < size) (hv : Val size cs.length 0 cs) : withM size cs.length (numM size cs) = cs := by
  have hl : numM size cs < manyM size cs.length := by rw [numM_enc, manyM_prod]; exact enc_lt hv
  have h := num_with (n := cs.length) hs hl
  rw [numM_enc, withM_len] at h
  rw [numM_enc] at h ⊢
  exact enc_inj (withM_len _ _ _) (digs_val hs _ _ (Nat.le_refl _)) hv h
theorem num_lt {size : Nat} {cs : List Nat} (hv : Val size cs.length 0 cs) : numM size cs < manyM size cs.length := by
  rw [numM_enc, manyM_prod]
  exact enc_lt hv
/-! a greater size -/
theorem ch_wide {size n : Nat} : ∀ {row held cs : List Nat} {k : Nat}, chGo size n k row held = some cs → chGo (size + 1) n k row (held ++ nxt size n k) = some cs
  | [], held, cs, k, e => by simp [chGo] at e; subst e; rfl
  | x :: xs, held, cs, k, e => by
    unfold chGo at e
    split at e
    · cases e
    · rename_i j hj
      rw [Option.map_eq_some_iff] at e
      obtain ⟨r, h1, rfl⟩ := e
      have hlt : j < held.length := (List.getElem?_eq_some_iff.mp (idx_some hj)).1
      have h2 := ch_wide h1
      unfold chGo
      rw [idx_append _ hj]
      have e1 : (held ++ nxt size n k).eraseIdx j ++ nxt (size + 1) n k = held.eraseIdx j ++ nxt size n k ++ nxt size n (k + 1) := by
        rw [List.eraseIdx_append_of_lt_length hlt, show nxt (size + 1) n k = nxt size n (k + 1) by unfold nxt; rw [show k + (size + 1) = k + 1 + size by omega]]
      simp only [e1, h2, Option.map_some]
theorem held0_wide (size n : Nat) : held0 (size + 1) n = held0 size n ++ nxt size n 0 := by
  unfold held0 nxt
  rw [Nat.zero_add]
  split
  · rw [show min (size + 1) n = min size n + 1 by omega, List.range_succ, show min size n = size by omega]
  · rw [List.append_nil, show min (size + 1) n = min size n by omega]
theorem chM_wide {size : Nat} {row cs : List Nat} (h : chM size row = some cs) : chM (size + 1) row = some cs := by
  unfold chM at *
  rw [held0_wide]
  exact ch_wide h
theorem horn_wide {size n : Nat} : ∀ (cs : List Nat) (k a b : Nat), a ≤ b → horn size n k a cs ≤ horn (size + 1) n k b cs
  | [], k, a, b, h => h
  | c :: cs, k, a, b, h => by
    simp only [horn]
    refine horn_wide cs _ _ _ (Nat.add_le_add_right ?_ c)
    refine Nat.mul_le_mul h ?_
    unfold heldM; omega
theorem num_wide (size : Nat) (cs : List Nat) : numM size cs ≤ numM (size + 1) cs := horn_wide cs 0 0 0 (Nat.le_refl _)
theorem prod_wide (size n : Nat) : ∀ m k, prodF size n k m ≤ prodF (size + 1) n k m
  | 0, _ => Nat.le_refl _
  | m + 1, k => Nat.mul_le_mul (by unfold heldM; omega) (prod_wide size n m (k + 1))
theorem many_wide (size n : Nat) : manyM size n ≤ manyM (size + 1) n := by
  rw [manyM_prod, manyM_prod]
  exact prod_wide size n n 0
/-! too early -/
theorem ch_too {size n : Nat} : ∀ {row held cs : List Nat} {k : Nat}, Asc held (k + size) → chGo size n k row held = some cs → tooGo size k row = none
  | [], held, cs, k, _, _ => rfl
  | x :: xs, held, cs, k, ha, e => by
    unfold chGo at e
    split at e
    · cases e
    · rename_i j hj
      rw [Option.map_eq_some_iff] at e
      obtain ⟨r, h1, rfl⟩ := e
      have := ha.2 x (List.mem_of_getElem? (idx_some hj))
      unfold tooGo
      rw [if_neg (by omega)]
      exact ch_too (ha.step j) h1
theorem chM_too {size : Nat} {row cs : List Nat} (h : chM size row = some cs) : tooM size row = none := ch_too (asc0 size row.length) h
/-! the next number -/
theorem enc_zero {size n : Nat} (hs : 0 < size) : ∀ {cs : List Nat} {k : Nat}, k + cs.length ≤ n → enc size n k cs = 0 → ∀ x ∈ cs, x = 0
  | [], k, _, _, x, h => by cases h
  | c :: cs, k, hn, e, x, h => by
    simp only [enc] at e
    simp only [List.length_cons] at hn
    have p : 0 < prodF size n (k + 1) cs.length := by
      have : ∀ (m k : Nat), k + m ≤ n → 0 < prodF size n k m := fun m => by
        induction m with
        | zero => intro k _; simp [prodF]
        | succ m ih => intro k hk; exact Nat.mul_pos (by unfold heldM; omega) (ih (k + 1) (by omega))
      exact this _ _ (by omega)
    have e1 : c * prodF size n (k + 1) cs.length = 0 := by omega
    have e2 : enc size n (k + 1) cs = 0 := by omega
    rcases List.mem_cons.mp h with h | h
    · rw [Nat.mul_eq_zero] at e1; omega
    · exact enc_zero hs (by omega) e2 x h
def Tops (size n : Nat) : Nat → List Nat → Prop
  | _, [] => True
  | k, c :: cs => c + 1 = heldM size n k ∧ Tops size n (k + 1) cs
theorem enc_top {size n : Nat} : ∀ {cs : List Nat} {k : Nat}, Val size n k cs → enc size n k cs + 1 = prodF size n k cs.length → Tops size n k cs
  | [], k, _, _ => trivial
  | c :: cs, k, ⟨h1, h2⟩, e => by
    simp only [enc, prodF, List.length_cons] at e
    have l := enc_lt h2
    generalize hP : prodF size n (k + 1) cs.length = P at *
    have hc : c + 1 = heldM size n k := by
      refine Nat.le_antisymm h1 ?_
      refine Nat.le_of_mul_le_mul_right (c := P) ?_ (by omega)
      rw [Nat.add_mul, Nat.one_mul]
      omega
    refine ⟨hc, enc_top h2 ?_⟩
    rw [← hc, Nat.add_mul, Nat.one_mul] at e
    have l2 : enc size n (k + 1) cs + 1 = P := by omega
    rw [l2, hP]
theorem enc_next {size n : Nat} (hs : 0 < size) : ∀ {cs ds : List Nat} {k : Nat}, cs.length = ds.length → k + cs.length ≤ n → Val size n k cs → Val size n k ds → enc size n k ds = enc size n k cs + 1 →
    ∃ pre c t u, cs = pre ++ c :: t ∧ ds = pre ++ (c + 1) :: u ∧ (∀ x ∈ u, x = 0) ∧ Tops size n (k + pre.length + 1) t
  | [], [], k, _, _, _, _, e => by simp [enc] at e
  | [], _ :: _, k, e, _, _, _, _ => by simp at e
  | _ :: _, [], k, e, _, _, _, _ => by simp at e
  | c :: cs, d :: ds, k, e, hn, ⟨a1, a2⟩, ⟨b1, b2⟩, h => by
    simp only [List.length_cons, Nat.add_right_cancel_iff] at e
    simp only [List.length_cons] at hn
    simp only [enc, e] at h
    have l1 := enc_lt a2
    have l2 := enc_lt b2
    rw [e] at l1
    by_cases hcd : d = c
    · subst hcd
      obtain ⟨pre, c', t, u, r1, r2, r3, r4⟩ := enc_next hs e (by omega) a2 b2 (by omega)
      refine ⟨d :: pre, c', t, u, by rw [r1]; rfl, by rw [r2]; rfl, r3, ?_⟩
      rw [List.length_cons, show k + (pre.length + 1) + 1 = k + 1 + pre.length + 1 by omega]
      exact r4
    · generalize hP : prodF size n (k + 1) ds.length = P at *
      have hlt : c < d := by
        rcases Nat.lt_or_ge c d with g | g
        · exact g
        · have : (d + 1) * P ≤ c * P := Nat.mul_le_mul_right P (by omega)
          rw [Nat.add_mul, Nat.one_mul] at this
          omega
      have hd : d = c + 1 := by
        rcases Nat.lt_or_ge (c + 1) d with g | g
        · have : (c + 2) * P ≤ d * P := Nat.mul_le_mul_right P (by omega)
          rw [Nat.add_mul] at this
          omega
        · omega
      subst hd
      rw [Nat.add_mul, Nat.one_mul] at h
      refine ⟨[], c, cs, ds, rfl, rfl, enc_zero (size := size) (n := n) (k := k + 1) hs (by omega) (by omega), ?_⟩
      refine enc_top (k := k + 1) a2 ?_
      rw [e, hP]
      omega
end Ev.Bu

set_option linter.all false
set_option maxRecDepth 100000
set_option maxHeartbeats 4000000
/-! MO: buffers, the walks -/
namespace Ev.Bu
open PySem Ev
def tooBody : List S := [.ifs (.cmp .gt (.var 3) (.bin .sub (.bin .add (.var 2) (.var 0)) (.int 1))) [.ret (.var 2)] []]
def f_too_early (it : Nat) : Fn := { n := 4, ps := 2, io := [], body := [.for_ (.tp [2, 3]) .enum [(.call it [(.var 1)])] tooBody,
    .ret .non] }
def f_can_come (it : Nat) : Fn := { n := 2, ps := 2, io := [], body := [.ret (.cmp .isn (.call it [(.var 0), (.var 1)]) .non)] }
def optN : Option Nat → D
  | some j => nt j
  | none => .non
section
variable {call : Nat → List D → Option (D × List D)} {io : Nat → List Nat}
theorem too_loop {size : Nat} {d : Option D} : ∀ (rest : List Nat) (k : Nat) (a2 a3 : Option D), ∃ δ', forL (setT [] (.tp [2, 3])) (evSs ⟨call, io, []⟩ 99 tooBody) (enumD k (rest.map nt)) [some (.int size), d, a2, a3] =
    match tooGo size k rest with
    | some j => some (.rt (nt j) δ')
    | none => some (.nx δ')
  | [], k, a2, a3 => ⟨_, rfl⟩
  | x :: xs, k, a2, a3 => by
    have s : setT [] (.tp [2, 3]) (.tup [.int k, nt x]) [some (.int size), d, a2, a3] = some [some (.int size), d, some (nt k), some (nt x)] := by simp
    simp only [List.map_cons, enumD, forL, s]
    unfold tooGo
    by_cases h : k + size < x + 1
    · rw [if_pos h]
      have h' : (k : Int) + size - 1 < x := by omega
      refine ⟨[some (.int size), d, some (nt k), some (nt x)], ?_⟩
      simp [tooBody, h']
    · rw [if_neg h]
      have h' : ¬ (k : Int) + size - 1 < x := by omega
      obtain ⟨δ', e⟩ := too_loop (size := size) (d := d) xs (k + 1) (some (nt k)) (some (nt x))
      refine ⟨δ', ?_⟩
      rw [← e]
      simp [tooBody, h']
theorem too_run {it size : Nat} {d : D} {row : List Nat} (hit : io it = []) (fd : d.fz = true) (ht : call it [d] = some (tN row, [])) : runF ⟨call, io, []⟩ (f_too_early it) [.int size, d] = some (optN (tooM size row), []) := by
  obtain ⟨δ', h⟩ := too_loop (call := call) (io := io) (size := size) (d := some d) row 0 none none
  have f := nts_fz row
  have q := nts_frz row
  have hi : evIt ⟨call, io, []⟩ 99 .enum [(.call it [(.var 1)])] [some (.int size), some d, none, none] = some (enumD 0 (row.map nt), [some (.int size), some d, none, none]) := by
    simp [hit, ht, fd, f, q]
  unfold tooM
  cases he : tooGo size 0 row with
  | none =>
    rw [he] at h
    refine runF_rt (f := f_too_early it) (δ0 := [some (.int size), some d, none, none]) rfl rfl (δ := δ') ?_ (by simp [f_too_early])
    refine (evSs_cons _ 99 _ _ _ (evS_for _ 98 _ _ _ _ _ (by simpa using hi) h)).trans ?_
    exact evSs_ret _ 97 _ _ _ (by simp [optN])
  | some j =>
    rw [he] at h
    refine runF_rt (f := f_too_early it) (δ0 := [some (.int size), some d, none, none]) rfl rfl (δ := δ') ?_ (by simp [f_too_early])
    exact evSs_stop _ 99 _ _ _ (evS_for _ 98 _ _ _ _ _ (by simpa using hi) h)
theorem can_run {it size : Nat} {d : D} {row : List Nat} (hit : io it = []) (fd : d.fz = true) (ht : call it [.int size, d] = some (optN (tooM size row), [])) : runF ⟨call, io, []⟩ (f_can_come it) [.int size, d] = some (.bl (tooM size row).isNone, []) := by
  have e : isNon (optN (tooM size row)) = (tooM size row).isNone := by cases tooM size row <;> rfl
  refine runF_rt (f := f_can_come it) (δ0 := [some (.int size), some d]) rfl rfl (δ := [some (.int size), some d]) ?_ rfl
  refine evSs_ret _ 98 _ _ _ ?_
  simp [hit, ht, fd, cmpD, e]
theorem idx_ixOf (x : Nat) : ∀ l : List Nat, ixOf (x : Int) (l.map fun (n : Nat) => (n : Int)) = idx x l
  | [] => rfl
  | y :: ys => by
    simp only [List.map_cons, ixOf, idx, idx_ixOf x ys]
    by_cases h : y = x
    · rw [if_pos h, if_pos (by omega)]
    · rw [if_neg h, if_neg (by omega)]
      cases idx x ys <;> rfl
theorem eraseIdx_mapN {α β : Type} (f : α → β) : ∀ (l : List α) (j : Nat), (l.map f).eraseIdx j = (l.eraseIdx j).map f
  | [], _ => rfl
  | _ :: _, 0 => rfl
  | x :: xs, j + 1 => by simp only [List.map_cons, List.eraseIdx_cons_succ, eraseIdx_mapN f xs j]
theorem eraseIdx_ints (l : List Nat) (j : Nat) : ((l.map fun (n : Nat) => (n : Int)).eraseIdx j).map D.int = (l.eraseIdx j).map nt := by
  rw [eraseIdx_mapN, List.map_map]; rfl
def chBody : List S := [.expr (.meth .append (.var 5) [(.meth .index (.var 4) [(.var 7)])]),
    .expr (.meth .remove (.var 4) [(.var 7)]),
    .ifs (.cmp .lt (.bin .add (.var 6) (.var 0)) (.bi .len [(.var 2)])) [.expr (.meth .append (.var 4) [(.bin .add (.var 6) (.var 0))])] []]
theorem ch_turn {size k x j : Nat} {row held found : List Nat} {d a3 : Option D} (hh : held.length ≤ 1000) (hf : found.length ≤ 1000) (hj : idx x held = some j) :
    evSs ⟨call, io, []⟩ 94 chBody [some (.int size), d, some (tN row), a3, some (.lst true (held.map nt)), some (.lst true (found.map nt)), some (nt k), some (nt x)] =
    some (.nx [some (.int size), d, some (tN row), a3, some (.lst true ((held.eraseIdx j ++ nxt size row.length k).map nt)), some (.lst true ((found ++ [j]).map nt)), some (nt k), some (nt x)]) := by
  have f1 := nts_fz held
  have f2 := nts_fz found
  have f3 := nts_fz row
  have i1 := intsOf_nts held
  have x1 := idx_ixOf x held
  rw [hj] at x1
  have l1 : found.length < cap := by unfold cap; omega
  have l2 : (held.eraseIdx j).length < cap := by have := (List.eraseIdx_sublist held j).length_le; unfold cap; omega
  have fe := nts_fz (held.eraseIdx j)
  have er := eraseIdx_ints held j
  refine (evSs_cons _ _ _ _ _ (by simp [chBody, f1, f2, methX, methR, methD, i1, x1, l1, isLst, noPath]; rfl)).trans ?_
  refine (evSs_cons _ _ _ _ _ (by simp [f1, f2, methX, methR, methD, i1, x1, l1, isLst, noPath, er]; rfl)).trans ?_
  unfold nxt
  by_cases h : k + size < row.length
  · have h' : (k : Int) + size < row.length := by omega
    rw [if_pos h]
    simp [f1, f2, f3, fe, methX, methR, methD, isLst, noPath, h', l2]
  · have h' : ¬ (k : Int) + size < row.length := by omega
    rw [if_neg h]
    simp [f1, f2, f3, fe, h']
theorem ch_loop {size : Nat} {row : List Nat} {d a3 : Option D} (hs : 0 < size) (hr : row.length ≤ 100) : ∀ (rest : List Nat) (k : Nat) (held found cs : List Nat) (a6 a7 : Option D), held.length ≤ 100 + k → found.length ≤ 1000 → k + rest.length ≤ 100 → found.length ≤ k → chGo size row.length k rest held = some cs → ∃ (held' : List Nat) (a6' a7' : Option D), forL (setT [] (.tp [6, 7])) (evSs ⟨call, io, []⟩ 94 chBody) (enumD k (rest.map nt)) [some (.int size), d, some (tN row), a3, some (.lst true (held.map nt)), some (.lst true (found.map nt)), a6, a7] =
    some (.nx [some (.int size), d, some (tN row), a3, some (.lst true (held'.map nt)), some (.lst true ((found ++ cs).map nt)), a6', a7'])
  | [], k, held, found, cs, a6, a7, _, _, _, _, e => by
    simp [chGo] at e
    subst e
    exact ⟨held, a6, a7, by simp [enumD, forL]⟩
  | x :: xs, k, held, found, cs, a6, a7, h1, h2, h3, h4, e => by
    unfold chGo at e
    split at e
    · cases e
    · rename_i j hj
      rw [Option.map_eq_some_iff] at e
      obtain ⟨r, e1, rfl⟩ := e
      simp only [List.length_cons] at h3
      have s : setT [] (.tp [6, 7]) (.tup [.int k, nt x]) [some (.int size), d, some (tN row), a3, some (.lst true (held.map nt)), some (.lst true (found.map nt)), a6, a7] = some [some (.int size), d, some (tN row), a3, some (.lst true (held.map nt)), some (.lst true (found.map nt)), some (nt k), some (nt x)] := by simp
      have t := ch_turn (call := call) (io := io) (size := size) (k := k) (row := row) (d := d) (a3 := a3) (held := held) (found := found) (by omega) (by omega) hj
      have hl : (held.eraseIdx j ++ nxt size row.length k).length ≤ 100 + (k + 1) := by
        have := (List.eraseIdx_sublist held j).length_le
        rw [List.length_append]
        unfold nxt
        split <;> simp <;> omega
      obtain ⟨held', a6', a7', q⟩ := ch_loop (d := d) (a3 := a3) hs hr xs (k + 1) _ (found ++ [j]) r (some (nt k)) (some (nt x)) hl (by simp; omega) (by omega) (by simp; omega) e1
      refine ⟨held', a6', a7', ?_⟩
      simp only [List.map_cons, enumD, forL, s, t]
      rw [q]
      simp
def f_choices (it ih ie : Nat) : Fn := { n := 8, ps := 2, io := [], body := [.asg (.nm 2) (.call it [(.var 1)]),
    .asg (.nm 3) (.call ie [(.var 0), (.var 2)]),
    .ifs (.cmp .isnotn (.var 3) .non) [.bad] [],
    .par [4, 5] [(.bi .lrange [(.call ih [(.var 0), (.bi .len [(.var 2)]), (.int 0)])]), (.lst [])],
    .for_ (.tp [6, 7]) .enum [(.var 2)] chBody,
    .ret (.bi .tuple1 [(.var 5)])] }
theorem choices_run {it ih ie size : Nat} {d : D} {row cs : List Nat} (hit : io it = []) (hih : io ih = []) (hie : io ie = []) (fd : d.fz = true) (hs : 0 < size) (hr : row.length ≤ 99)
    (ht : call it [d] = some (tN row, [])) (hh : call ih [.int size, .int row.length, .int 0] = some (.int (min size row.length : Nat), [])) (he : call ie [.int size, tN row] = some (.non, [])) (hc : chM size row = some cs) :
    runF ⟨call, io, []⟩ (f_choices it ih ie) [.int size, d] = some (tN cs, []) := by
  have f3 := nts_fz row
  have q3 := nts_frz row
  have f4 := nts_fz cs
  have r := rangeOf1 (t := min size row.length) (by omega)
  have lc : min size row.length ≤ cap := by unfold cap; omega
  obtain ⟨held', a6', a7', q⟩ := ch_loop (call := call) (io := io) (d := some d) (a3 := some .non) hs (by omega) row 0 (held0 size row.length) [] cs none none (by simp [held0]; omega) (by simp) (by omega) (by simp) hc
  have hi : evIt ⟨call, io, []⟩ 94 .enum [(.var 2)] [some (.int size), some d, some (tN row), some .non, some (.lst true ((held0 size row.length).map nt)), some (.lst true []), none, none] = some (enumD 0 (row.map nt), [some (.int size), some d, some (tN row), some .non, some (.lst true ((held0 size row.length).map nt)), some (.lst true []), none, none]) := by
    simp [f3, q3]
  refine runF_rt (f := f_choices it ih ie) (δ0 := [some (.int size), some d, none, none, none, none, none, none]) rfl rfl (δ := [some (.int size), some d, some (tN row), some .non, some (.lst true (held'.map nt)), some (.lst true (cs.map nt)), a6', a7']) ?_ rfl
  refine (evSs_cons _ _ _ _ _ (by simp [hit, ht, fd]; rfl)).trans ?_
  refine (evSs_cons _ _ _ _ _ (by simp [hie, he, f3]; rfl)).trans ?_
  refine (evSs_cons _ _ _ _ _ (by simp [cmpD, isNon]; rfl)).trans ?_
  generalize hw : min size row.length = w at *
  refine (evSs_cons _ _ _ _ _ (δ1 := [some (.int size), some d, some (tN row), some .non, some (.lst true ((held0 size row.length).map nt)), some (.lst true []), none, none]) (by simp [hih, hh, f3, r, lc, rangeD_up0, held0, hw, cap])).trans ?_
  refine (evSs_cons _ _ _ _ _ (evS_for _ _ _ _ _ _ _ hi q)).trans ?_
  have f5 := nts_fz cs
  exact evSs_ret _ _ _ _ _ (by simp [f5, items])
/-! the row that comes by choices -/
def roBody : List S := [.ifs (.cmp .ge (.var 6) (.bi .len [(.var 3)])) [.bad] [],
    .expr (.meth .append (.var 4) [(.meth .popAt (.var 3) [(.var 6)])]),
    .ifs (.cmp .lt (.bin .add (.var 5) (.var 0)) (.bi .len [(.var 2)])) [.expr (.meth .append (.var 3) [(.bin .add (.var 5) (.var 0))])] []]
theorem ixN_nat {n c : Nat} (h : c < n) : ixN n (c : Int) = some c := by
  unfold ixN
  rw [if_pos (by omega), if_pos (by omega), Int.toNat_natCast]
theorem sm62n {t : Nat} (h : t ≤ 1000000) : small62 (t : Int) = true := sm62 h
theorem ro_turn {size k c x : Nat} {row held found : List Nat} {d : Option D} (hh : held.length ≤ 1000) (hf : found.length ≤ 1000) (hx : held[c]? = some x) :
    evSs ⟨call, io, []⟩ 96 roBody [some (.int size), d, some (tN row), some (.lst true (held.map nt)), some (.lst true (found.map nt)), some (nt k), some (nt c)] =
    some (.nx [some (.int size), d, some (tN row), some (.lst true ((held.eraseIdx c ++ nxt size row.length k).map nt)), some (.lst true ((found ++ [x]).map nt)), some (nt k), some (nt c)]) := by
  have f1 := nts_fz held
  have f2 := nts_fz found
  have f3 := nts_fz row
  have l1 : found.length < cap := by unfold cap; omega
  have l2 : (held.eraseIdx c).length < cap := by have := (List.eraseIdx_sublist held c).length_le; unfold cap; omega
  have hc : c < held.length := (List.getElem?_eq_some_iff.mp hx).1
  have fe := nts_fz (held.eraseIdx c)
  have ix := ixN_nat hc
  have s6 := sm62n (t := c) (by omega)
  have ge : ¬ (held.length : Int) ≤ c := by omega
  have er := eraseIdx_mapN nt held c
  refine (evSs_cons _ _ _ _ _ (by simp [roBody, f1, cmpD, ge]; rfl)).trans ?_
  refine (evSs_cons _ _ _ _ _ (by simp [f1, f2, methX, methR, methD, l1, isLst, noPath, s6, ix, hx, er]; rfl)).trans ?_
  unfold nxt
  by_cases h : k + size < row.length
  · have h' : (k : Int) + size < row.length := by omega
    rw [if_pos h]
    simp [f1, f2, f3, fe, methX, methR, methD, isLst, noPath, h', l2]
  · have h' : ¬ (k : Int) + size < row.length := by omega
    rw [if_neg h]
    simp [f1, f2, f3, fe, h']
theorem ro_loop {size : Nat} {row : List Nat} {d : Option D} (hs : 0 < size) (hr : row.length ≤ 100) : ∀ (rest : List Nat) (k : Nat) (held found cs : List Nat) (a6 a7 : Option D), held.length ≤ 100 + k → found.length ≤ 1000 → k + rest.length ≤ 100 → found.length ≤ k → rowGo size row.length k rest held = some cs → ∃ (held' : List Nat) (a6' a7' : Option D), forL (setT [] (.tp [5, 6])) (evSs ⟨call, io, []⟩ 96 roBody) (enumD k (rest.map nt)) [some (.int size), d, some (tN row), some (.lst true (held.map nt)), some (.lst true (found.map nt)), a6, a7] =
    some (.nx [some (.int size), d, some (tN row), some (.lst true (held'.map nt)), some (.lst true ((found ++ cs).map nt)), a6', a7'])
  | [], k, held, found, cs, a6, a7, _, _, _, _, e => by
    simp [rowGo] at e
    subst e
    exact ⟨held, a6, a7, by simp [enumD, forL]⟩
  | x :: xs, k, held, found, cs, a6, a7, h1, h2, h3, h4, e => by
    unfold rowGo at e
    split at e
    · cases e
    · rename_i j hj
      rw [Option.map_eq_some_iff] at e
      obtain ⟨r, e1, rfl⟩ := e
      simp only [List.length_cons] at h3
      have s : setT [] (.tp [5, 6]) (.tup [.int k, nt x]) [some (.int size), d, some (tN row), some (.lst true (held.map nt)), some (.lst true (found.map nt)), a6, a7] = some [some (.int size), d, some (tN row), some (.lst true (held.map nt)), some (.lst true (found.map nt)), some (nt k), some (nt x)] := by simp
      have t := ro_turn (call := call) (io := io) (size := size) (k := k) (row := row) (d := d) (held := held) (found := found) (by omega) (by omega) hj
      have hl : (held.eraseIdx x ++ nxt size row.length k).length ≤ 100 + (k + 1) := by
        have := (List.eraseIdx_sublist held x).length_le
        rw [List.length_append]
        unfold nxt
        split <;> simp <;> omega
      obtain ⟨held', a6', a7', q⟩ := ro_loop (d := d) hs hr xs (k + 1) _ (found ++ [j]) r (some (nt k)) (some (nt x)) hl (by simp; omega) (by omega) (by simp; omega) e1
      refine ⟨held', a6', a7', ?_⟩
      simp only [List.map_cons, enumD, forL, s, t]
      rw [q]
      simp
def f_row_of (it ih : Nat) : Fn := { n := 7, ps := 2, io := [], body := [.asg (.nm 2) (.call it [(.var 1)]),
    .par [3, 4] [(.bi .lrange [(.call ih [(.var 0), (.bi .len [(.var 2)]), (.int 0)])]), (.lst [])],
    .for_ (.tp [5, 6]) .enum [(.var 2)] roBody,
    .ret (.bi .tuple1 [(.var 4)])] }
theorem row_of_run {it ih size : Nat} {d : D} {row cs : List Nat} (hit : io it = []) (hih : io ih = []) (fd : d.fz = true) (hs : 0 < size) (hr : cs.length ≤ 99)
    (ht : call it [d] = some (tN cs, [])) (hh : call ih [.int size, .int cs.length, .int 0] = some (.int (min size cs.length : Nat), [])) (hc : rowM size cs = some row) :
    runF ⟨call, io, []⟩ (f_row_of it ih) [.int size, d] = some (tN row, []) := by
  have f3 := nts_fz cs
  have q3 := nts_frz cs
  have f4 := nts_fz row
  have r := rangeOf1 (t := min size cs.length) (by omega)
  have lc : min size cs.length ≤ cap := by unfold cap; omega
  obtain ⟨held', a6', a7', q⟩ := ro_loop (call := call) (io := io) (d := some d) hs (by omega) cs 0 (held0 size cs.length) [] row none none (by simp [held0]; omega) (by simp) (by omega) (by simp) hc
  have hi : evIt ⟨call, io, []⟩ 96 .enum [(.var 2)] [some (.int size), some d, some (tN cs), some (.lst true ((held0 size cs.length).map nt)), some (.lst true []), none, none] = some (enumD 0 (cs.map nt), [some (.int size), some d, some (tN cs), some (.lst true ((held0 size cs.length).map nt)), some (.lst true []), none, none]) := by
    simp [f3, q3]
  refine runF_rt (f := f_row_of it ih) (δ0 := [some (.int size), some d, none, none, none, none, none]) rfl rfl (δ := [some (.int size), some d, some (tN cs), some (.lst true (held'.map nt)), some (.lst true (row.map nt)), a6', a7']) ?_ rfl
  refine (evSs_cons _ _ _ _ _ (by simp [hit, ht, fd]; rfl)).trans ?_
  generalize hw : min size cs.length = w at *
  refine (evSs_cons _ _ _ _ _ (δ1 := [some (.int size), some d, some (tN cs), some (.lst true ((held0 size cs.length).map nt)), some (.lst true []), none, none]) (by simp [hih, hh, f3, r, lc, rangeD_up0, held0, hw, cap])).trans ?_
  refine (evSs_cons _ _ _ _ _ (evS_for _ _ _ _ _ _ _ hi q)).trans ?_
  exact evSs_ret _ _ _ _ _ (by simp [f4, items])
/-! numbers -/
def nuBody (ih : Nat) : List S := [.asg (.nm 3) (.bin .add (.bin .mul (.var 3) (.call ih [(.var 0), (.bi .len [(.var 2)]), (.var 4)])) (.var 5))]
def f_number_of (ic ih : Nat) : Fn := { n := 6, ps := 2, io := [], body := [.par [2, 3] [(.call ic [(.var 0), (.var 1)]), (.int 0)],
    .for_ (.tp [4, 5]) .enum [(.var 2)] (nuBody ih),
    .ret (.var 3)] }
theorem nu_loop {ih size : Nat} {cs : List Nat} {d : Option D} (hih : io ih = []) (hh : ∀ k, k ≤ cs.length → call ih [.int size, .int cs.length, .int k] = some (.int (heldM size cs.length k), [])) (hs : size ≤ 1000) : ∀ (rest : List Nat) (k a : Nat) (a4 a5 : Option D), k + rest.length ≤ cs.length → ∃ (a4' a5' : Option D), forL (setT [] (.tp [4, 5])) (evSs ⟨call, io, []⟩ 97 (nuBody ih)) (enumD k (rest.map nt)) [some (.int size), d, some (tN cs), some (.int a), a4, a5] =
    some (.nx [some (.int size), d, some (tN cs), some (.int (horn size cs.length k a rest : Nat)), a4', a5'])
  | [], k, a, a4, a5, _ => ⟨a4, a5, rfl⟩
  | x :: xs, k, a, a4, a5, hl => by
    simp only [List.length_cons] at hl
    have f3 := nts_fz cs
    have s : setT [] (.tp [4, 5]) (.tup [.int k, nt x]) [some (.int size), d, some (tN cs), some (.int a), a4, a5] = some [some (.int size), d, some (tN cs), some (.int a), some (nt k), some (nt x)] := by simp
    have hk := hh k (by omega)
    have s6 : small64 (heldM size cs.length k : Nat) = true := sm64n (by unfold heldM; omega)
    have t : evSs ⟨call, io, []⟩ 97 (nuBody ih) [some (.int size), d, some (tN cs), some (.int a), some (nt k), some (nt x)] = some (.nx [some (.int size), d, some (tN cs), some (.int (a * heldM size cs.length k + x : Nat)), some (nt k), some (nt x)]) := by
      simp [nuBody, hih, f3, hk, binD, s6]
    obtain ⟨a4', a5', q⟩ := nu_loop (d := d) hih hh hs xs (k + 1) (a * heldM size cs.length k + x) (some (nt k)) (some (nt x)) (by omega)
    refine ⟨a4', a5', ?_⟩
    simp only [List.map_cons, enumD, forL, s, t]
    rw [q]
    rfl
theorem number_run {ic ih size : Nat} {cs : List Nat} {d : D} (hic : io ic = []) (hih : io ih = []) (fd : d.fz = true) (hs : size ≤ 1000) (hr : cs.length ≤ 100) (hc : call ic [.int size, d] = some (tN cs, []))
    (hh : ∀ k, k ≤ cs.length → call ih [.int size, .int cs.length, .int k] = some (.int (heldM size cs.length k), [])) : runF ⟨call, io, []⟩ (f_number_of ic ih) [.int size, d] = some (.int (numM size cs), []) := by
  have f3 := nts_fz cs
  have q3 := nts_frz cs
  obtain ⟨a4', a5', q⟩ := nu_loop (call := call) (io := io) (d := some d) hih hh hs cs 0 0 none none (by omega)
  have hi : evIt ⟨call, io, []⟩ 97 .enum [(.var 2)] [some (.int size), some d, some (tN cs), some (.int (0 : Nat)), none, none] = some (enumD 0 (cs.map nt), [some (.int size), some d, some (tN cs), some (.int (0 : Nat)), none, none]) := by
    simp [f3, q3]
  refine runF_rt (f := f_number_of ic ih) (δ0 := [some (.int size), some d, none, none, none, none]) rfl rfl (δ := [some (.int size), some d, some (tN cs), some (.int (numM size cs)), a4', a5']) ?_ rfl
  refine (evSs_cons _ _ _ _ _ (δ1 := [some (.int size), some d, some (tN cs), some (.int (0 : Nat)), none, none]) (by simp [hic, hc, fd, f3])).trans ?_
  refine (evSs_cons _ _ _ _ _ (evS_for _ _ _ _ _ _ _ hi q)).trans ?_
  exact evSs_ret _ _ _ _ _ (by simp [numM])
/-! the row with a number -/
def rwBody (ih : Nat) : List S := [.asg (.tp [5, 6]) (.bi .divmod [(.var 5), (.call ih [(.var 0), (.var 1), (.var 3)])]),
    .expr (.meth .append (.var 4) [(.var 6)])]
def f_row_with (im ih iro : Nat) : Fn := { n := 7, ps := 3, io := [], body := [.ifs (.bnot (.chain .le .lt (.int 0) (.var 2) (.call im [(.var 0), (.var 1)]))) [.bad] [],
    .par [4, 5] [(.lst []), (.var 2)],
    .for_ (.nm 3) .range [(.bin .sub (.var 1) (.int 1)), (.neg (.int 1)), (.neg (.int 1))] (rwBody ih),
    .ret (.call iro [(.var 0), (.bi .tuple1 [(.rev (.var 4))])])] }
theorem rangeD_down : ∀ m : Nat, rangeD ((m : Int) - 1) (-1) m = (List.range m).reverse.map nt
  | 0 => rfl
  | m + 1 => by
    rw [rangeD, show (((m + 1 : Nat) : Int) - 1 + -1) = (m : Int) - 1 by omega, rangeD_down m, List.range_succ, List.reverse_append]
    simp
theorem rangeOf_down {n : Nat} (h : n ≤ 1000) : rangeOf [.int ((n : Int) - 1), .int (-1), .int (-1)] = some ((List.range n).reverse.map nt) := by
  have f1 : fits9 ((n : Int) - 1) = true := by
    cases n with
    | zero => decide +kernel
    | succ n => rw [show (((n + 1 : Nat) : Int) - 1) = (n : Int) by omega]; show Nat.ble n 1000000000 = true; rw [Nat.ble_eq]; omega
  have f2 : fits9 (-1) = true := by decide +kernel
  have rn : rangeN ((n : Int) - 1) (-1) (-1) = n := by
    unfold rangeN Builtin.Range.rangeSize
    rw [if_neg (by omega)]
    rw [show (n : Int) - 1 - -1 - 1 = (n : Int) - 1 by omega]
    split
    · simp
    · omega
  have e : rangeOf [.int ((n : Int) - 1), .int (-1), .int (-1)] = if ((fits9 ((n : Int) - 1) && fits9 (-1) && fits9 (-1)) && decide ((-1 : Int) ≠ 0) && decide ((-1 : Int).natAbs < 1000000)) = true then some (rangeD ((n : Int) - 1) (-1) (rangeN ((n : Int) - 1) (-1) (-1))) else none := by unfold rangeOf; rfl
  rw [e, f1, f2, rn, rangeD_down]
  rfl
theorem rw_loop {ih size n : Nat} (hih : io ih = []) (hs : 0 < size) (hs2 : size ≤ 1000) (hn : n ≤ 1000) (hh : ∀ k, k ≤ n → call ih [.int size, .int n, .int k] = some (.int (heldM size n k), [])) {a2 : Option D} : ∀ (m x : Nat) (told : List Nat) (a3 a6 : Option D), m ≤ n → told.length + m ≤ n → ∃ (x' : Nat) (a3' a6' : Option D), forL (setT [] (.nm 3)) (evSs ⟨call, io, []⟩ 96 (rwBody ih)) ((List.range m).reverse.map nt) [some (.int size), some (.int n), a2, a3, some (.lst true (told.map nt)), some (.int x), a6] =
    some (.nx [some (.int size), some (.int n), a2, a3', some (.lst true ((told ++ digs size n m x).map nt)), some (.int x'), a6'])
  | 0, x, told, a3, a6, _, _ => ⟨x, a3, a6, by simp [forL, digs]⟩
  | m + 1, x, told, a3, a6, hm, hl => by
    have f1 := nts_fz told
    have s : setT [] (.nm 3) (nt m) [some (.int size), some (.int n), a2, a3, some (.lst true (told.map nt)), some (.int x), a6] = some [some (.int size), some (.int n), a2, some (nt m), some (.lst true (told.map nt)), some (.int x), a6] := by simp
    have hk := hh m (by omega)
    have p1 : (0 : Int) < (heldM size n m : Nat) := by unfold heldM; omega
    have p0 : 0 < heldM size n m := by unfold heldM; omega
    have p2 : ((heldM size n m : Nat) : Int) < 1073741824 := by unfold heldM; omega
    have lc : told.length < cap := by unfold cap; omega
    have t : evSs ⟨call, io, []⟩ 96 (rwBody ih) [some (.int size), some (.int n), a2, some (nt m), some (.lst true (told.map nt)), some (.int x), a6] = some (.nx [some (.int size), some (.int n), a2, some (nt m), some (.lst true ((told ++ [x % heldM size n m]).map nt)), some (.int (x / heldM size n m : Nat)), some (.int (x % heldM size n m : Nat))]) := by
      generalize heldM size n m = h at *
      refine (evSs_cons _ _ _ _ _ (by simp [rwBody, hih, hk, biD, p0, p2]; rfl)).trans ?_
      simp [f1, methX, methD, isLst, lc]
    obtain ⟨x', a3', a6', q⟩ := rw_loop hih hs hs2 hn hh (a2 := a2) m (x / heldM size n m) (told ++ [x % heldM size n m]) (some (nt m)) (some (.int (x % heldM size n m : Nat))) (by omega) (by simp; omega)
    refine ⟨x', a3', a6', ?_⟩
    rw [List.range_succ, List.reverse_append]
    simp only [List.reverse_cons, List.reverse_nil, List.nil_append, List.singleton_append, List.map_cons, forL, s, t]
    rw [q]
    simp [digs]
theorem row_with_run {im ih iro size n x : Nat} {row : List Nat} (him : io im = []) (hih : io ih = []) (hiro : io iro = []) (hs : 0 < size) (hs2 : size ≤ 1000) (hn : n ≤ 1000) (hx : x < manyM size n)
    (hm : call im [.int size, .int n] = some (.int (manyM size n), [])) (hh : ∀ k, k ≤ n → call ih [.int size, .int n, .int k] = some (.int (heldM size n k), []))
    (hr : call iro [.int size, tN (withM size n x)] = some (tN row, [])) : runF ⟨call, io, []⟩ (f_row_with im ih iro) [.int size, .int n, .int x] = some (tN row, []) := by
  obtain ⟨x', a3', a6', q⟩ := rw_loop (call := call) (io := io) hih hs hs2 hn hh (a2 := some (.int x)) n x [] none none (Nat.le_refl _) (by simp)
  have rd := rangeOf_down (n := n) (by omega)
  have f4 := nts_fz (digs size n n x)
  have f5 := nts_fz (withM size n x)
  have l1 : (withM size n x).length ≤ cap := by rw [withM_len]; unfold cap; omega
  have c1 : (0 : Int) ≤ (x : Int) := by omega
  have c2 : (x : Int) < (manyM size n : Nat) := by omega
  have hi : evIt ⟨call, io, []⟩ 96 .range [(.bin .sub (.var 1) (.int 1)), (.neg (.int 1)), (.neg (.int 1))] [some (.int size), some (.int n), some (.int x), none, some (.lst true []), some (.int x), none] = some ((List.range n).reverse.map nt, [some (.int size), some (.int n), some (.int x), none, some (.lst true []), some (.int x), none]) := by
    simp [rd]
  have er : (List.map nt (digs size n n x)).reverse = (withM size n x).map nt := by simp [withM]
  refine runF_rt (f := f_row_with im ih iro) (δ0 := [some (.int size), some (.int n), some (.int x), none, none, none, none]) rfl rfl (δ := [some (.int size), some (.int n), some (.int x), a3', some (.lst true ((digs size n n x).map nt)), some (.int x'), a6']) ?_ rfl
  generalize manyM size n = mm at *
  refine (evSs_cons _ _ _ _ _ (by simp [him, hm, cmpD, c1, c2]; rfl)).trans ?_
  refine (evSs_cons _ _ _ _ _ (by simp; rfl)).trans ?_
  refine (evSs_cons _ _ _ _ _ (evS_for _ _ _ _ _ _ _ (by simpa using hi) (by simpa using q))).trans ?_
  exact evSs_ret _ _ _ _ _ (by simp [f4, f5, er, revD, items, hiro, hr, l1])
/-! a drawn row that a buffer can give -/
def gvBody (it : Nat) : List S := [.expr (.meth .append (.var 5) [(.meth .popAt (.var 4) [(.call it [(.var 0), (.bi .len [(.var 4)])])])]),
    .ifs (.cmp .lt (.bin .add (.var 3) (.var 1)) (.var 2)) [.expr (.meth .append (.var 4) [(.bin .add (.var 3) (.var 1))])] []]
def f_law_given (it : Nat) : Fn := { n := 6, ps := 3, io := [0], body := [.par [4, 5] [(.bi .lrange [(.bi .min2 [(.var 1), (.var 2)])]), (.lst [])],
    .for_ (.nm 3) .range [(.var 2)] (gvBody it),
    .ret (.bi .tuple1 [(.var 5)])] }
theorem up_succ (k m : Nat) : up k (m + 1) = k :: up (k + 1) m := by
  unfold up
  rw [List.range_succ_eq_map]
  simp only [List.map_cons, Nat.add_zero, List.map_map]
  congr 1
  apply List.map_congr_left
  intro x _
  simp only [Function.comp_apply]
  omega
theorem gv_loop {it size n : Nat} (hit : io it = [0]) (TS : TakeSp call it) (hs : 0 < size) (hn : n ≤ 100) : ∀ (m k : Nat) (held found : List Nat) (d : D) (c : Int) (a3 : Option D), k + m = n → held.length = heldM size n k → found.length ≤ k → Box c d → c + m < 1000000000000 →
    ∃ (cs row held' : List Nat) (d' : D) (a3' : Option D), forL (setT [0] (.nm 3)) (evSs ⟨call, io, [0]⟩ 97 (gvBody it)) ((up k m).map nt) [some d, some (.int size), some (.int n), a3, some (.lst true (held.map nt)), some (.lst true (found.map nt))] =
      some (.nx [some d', some (.int size), some (.int n), a3', some (.lst true (held'.map nt)), some (.lst true ((found ++ row).map nt))]) ∧ rowGo size n k cs held = some row ∧ Val size n k cs ∧ cs.length = m ∧ Box (c + m) d'
  | 0, k, held, found, d, c, a3, h1, h2, h3, hb, hc => ⟨[], [], held, d, a3, by simp [up, forL], rfl, trivial, rfl, by simpa using hb⟩
  | m + 1, k, held, found, d, c, a3, h1, h2, h3, hb, hc => by
    have hl0 : 0 < held.length := by rw [h2]; unfold heldM; omega
    have hl1 : held.length ≤ 100 := by rw [h2]; unfold heldM; omega
    obtain ⟨r, d1, g1, hr, b1⟩ := TS d c held.length hb (by omega) hl0 (by omega)
    obtain ⟨x0, rfl, f0, _⟩ := box_lst hb
    obtain ⟨x1, rfl, f1, _⟩ := box_lst b1
    have f2 := nts_fz held
    have f3 := nts_fz found
    have fe := nts_fz (held.eraseIdx r)
    have l1 : found.length < cap := by unfold cap; omega
    have le : (held.eraseIdx r).length < cap := by have := (List.eraseIdx_sublist held r).length_le; unfold cap; omega
    have ix := ixN_nat hr
    have s6 := sm62n (t := r) (by omega)
    have hx : held[r]? = some held[r] := List.getElem?_eq_getElem hr
    have er := eraseIdx_mapN nt held r
    have s : setT [0] (.nm 3) (nt k) [some (.lst true x0), some (.int size), some (.int n), a3, some (.lst true (held.map nt)), some (.lst true (found.map nt))] = some [some (.lst true x0), some (.int size), some (.int n), some (nt k), some (.lst true (held.map nt)), some (.lst true (found.map nt))] := by simp
    have t : evSs ⟨call, io, [0]⟩ 97 (gvBody it) [some (.lst true x0), some (.int size), some (.int n), some (nt k), some (.lst true (held.map nt)), some (.lst true (found.map nt))] = some (.nx [some (.lst true x1), some (.int size), some (.int n), some (nt k), some (.lst true ((held.eraseIdx r ++ nxt size n k).map nt)), some (.lst true ((found ++ [held[r]]).map nt))]) := by
      generalize held[r] = y at *
      refine (evSs_cons _ _ _ _ _ (by simp [gvBody, f2, f3, methX, methD, l1, isLst, noPath, s6, ix, hx, er, hit, ioOf, backOf, g1]; rfl)).trans ?_
      unfold nxt
      by_cases h : k + size < n
      · have h' : (k : Int) + size < n := by omega
        rw [if_pos h]
        simp [f2, f3, fe, methX, methR, methD, isLst, noPath, h', le]
      · have h' : ¬ (k : Int) + size < n := by omega
        rw [if_neg h]
        simp [f2, f3, fe, h']
    obtain ⟨cs, row, held', d', a3', q1, q2, q3, q4, q5⟩ := gv_loop hit TS hs hn m (k + 1) (held.eraseIdx r ++ nxt size n k) (found ++ [held[r]]) (.lst true x1) (c + 1) (some (nt k)) (by omega) (step_len hs (by omega) h2 hr) (by simp; omega) b1 (by omega)
    refine ⟨r :: cs, held[r] :: row, held', d', a3', ?_, ?_, ⟨by omega, q3⟩, by simp [q4], q5.mono (by omega)⟩
    · rw [up_succ]
      simp only [List.map_cons, forL, s, t]
      rw [q1]
      simp
    · unfold rowGo
      rw [hx]
      simp only [q2, Option.map_some]
def GivenSp (call : Nat → List D → Option (D × List D)) (ig : Nat) : Prop := ∀ (d : D) (c : Int) (size n : Nat), Box c d → c < 900000000000 → 0 < size → size ≤ 1000 → n ≤ 100 → ∃ (cs row : List Nat) (d' : D), call ig [d, .int size, .int n] = some (tN row, [d']) ∧ rowM size cs = some row ∧ Val size n 0 cs ∧ cs.length = n ∧ Box (c + n) d'
theorem given_run {it : Nat} (hit : io it = [0]) (TS : TakeSp call it) {d : D} {c : Int} {size n : Nat} (hb : Box c d) (hc : c < 900000000000) (hs : 0 < size) (hs2 : size ≤ 1000) (hn : n ≤ 100) :
    ∃ (cs row : List Nat) (d' : D), runF ⟨call, io, [0]⟩ (f_law_given it) [d, .int size, .int n] = some (tN row, [d']) ∧ rowM size cs = some row ∧ Val size n 0 cs ∧ cs.length = n ∧ Box (c + n) d' := by
  obtain ⟨cs, row, held', d', a3', q1, q2, q3, q4, q5⟩ := gv_loop (call := call) (io := io) hit TS hs hn n 0 (held0 size n) [] d c none (by omega) (held0_len size n) (by simp) hb (by omega)
  obtain ⟨x0, rfl, f0, _⟩ := box_lst hb
  obtain ⟨x1, rfl, f1, g1⟩ := box_lst q5
  have r := rangeOf1 (t := min size n) (by omega)
  have r2 := rangeOf1 (t := n) (by omega)
  have lc : min size n ≤ cap := by unfold cap; omega
  have f4 := nts_fz row
  have em : (if (n : Int) < (size : Int) then (n : Int) else (size : Int)) = ((min size n : Nat) : Int) := by split <;> omega
  have u0 : (up 0 n).map nt = (List.range n).map nt := by simp [up]
  rw [u0] at q1
  have hi : evIt ⟨call, io, [0]⟩ 97 .range [(.var 2)] [some (.lst true x0), some (.int size), some (.int n), none, some (.lst true ((held0 size n).map nt)), some (.lst true [])] = some ((List.range n).map nt, [some (.lst true x0), some (.int size), some (.int n), none, some (.lst true ((held0 size n).map nt)), some (.lst true [])]) := by
    simp [r2, rangeD_up0]
  refine ⟨cs, row, .lst true x1, ?_, by unfold rowM; rw [q4]; exact q2, q3, q4, q5⟩
  refine runF_rt (f := f_law_given it) (δ0 := [some (.lst true x0), some (.int size), some (.int n), none, none, none]) rfl rfl (δ := [some (.lst true x1), some (.int size), some (.int n), a3', some (.lst true (held'.map nt)), some (.lst true (row.map nt))]) ?_ (by simp [f_law_given, outsOf, flatOwn, g1])
  have e0 : evE ⟨call, io, [0]⟩ 95 (.bi .min2 [(.var 1), (.var 2)]) [some (.lst true x0), some (.int size), some (.int n), none, none, none] = some (.tmp (.int (min size n : Nat)), [some (.lst true x0), some (.int size), some (.int n), none, none, none]) := by
    rw [← em]; simp
  generalize hw : min size n = w at *
  refine (evSs_cons _ _ _ _ _ (δ1 := [some (.lst true x0), some (.int size), some (.int n), none, some (.lst true ((held0 size n).map nt)), some (.lst true [])]) ?_).trans ?_
  · rw [qevS_par, qevAs_2, qevE_bi, qevAs_2, e0]
    simp [r, lc, rangeD_up0, held0, hw, cap]
  refine (evSs_cons _ _ _ _ _ (evS_for _ _ _ _ _ _ _ hi q1)).trans ?_
  exact evSs_ret _ _ _ _ _ (by simp [f4, items])
end
theorem tNs_fz1 (l : List Nat) : (tN l).fz = true := by rw [qfz_tup]; exact nts_fz l
theorem shapes_nts (m : Nat) : ∀ l : List Nat, shapes m (l.map nt) = true
  | [] => by cases m <;> rfl
  | x :: xs => by
    simp only [List.map_cons]
    unfold shapes
    rw [shapes_nts m xs]
    cases m <;> rfl
theorem shape_tN (m : Nat) (l : List Nat) (h : l.length ≤ 1000) : shape (m + 1) (tN l) = true := by
  show (decide ((l.map nt).length ≤ cap) && shapes m (l.map nt)) = true
  rw [shapes_nts, List.length_map, decide_eq_true (show l.length ≤ cap by unfold cap; omega)]
  rfl
theorem shape_lN (m : Nat) (o : Bool) (l : List Nat) (h : l.length ≤ 1000) : shape (m + 1) (.lst o (l.map nt)) = true := by
  show (decide ((l.map nt).length ≤ cap) && shapes m (l.map nt)) = true
  rw [shapes_nts, List.length_map, decide_eq_true (show l.length ≤ cap by unfold cap; omega)]
  rfl
theorem tupMs_nts : ∀ l : List Nat, tupMs (l.map nt) = l.map nt
  | [] => rfl
  | x :: xs => by
    simp only [List.map_cons]
    unfold tupMs
    rw [tupMs_nts xs]
    rfl
theorem tupled_tN {T : List Fn} {it : Nat} (h : T[it]? = some (f_tupled it)) (k : Nat) (row : List Nat) (hl : row.length ≤ 1000) : evF T (k + 3) it [tN row] = some (tN row, []) := by
  have := tupled_sp (k := k + 2) h (tNs_fz1 row) (shape_tN _ row hl)
  rw [this]
  show some (D.tup (tupMs (row.map nt)), []) = _
  rw [tupMs_nts]
theorem tupled_lN {T : List Fn} {it : Nat} (h : T[it]? = some (f_tupled it)) (k : Nat) (row : List Nat) (hl : row.length ≤ 1000) : evF T (k + 3) it [.lst false (row.map nt)] = some (tN row, []) := by
  have := tupled_sp (k := k + 2) h (d := .lst false (row.map nt)) (by rw [qfz_lst, nts_fz]; rfl) (shape_lN _ _ row hl)
  rw [this]
  show some (D.tup (tupMs (row.map nt)), []) = _
  rw [tupMs_nts]
end Ev.Bu

set_option linter.all false
set_option maxRecDepth 100000
set_option maxHeartbeats 4000000
/-! MW: what a block ends in -/
namespace Ev
open PySem
def W (C : Ctx) (n : Nat) (ss : List S) (δ : Dl) (Q : Fl → Prop) : Prop := ∃ r, evSs C n ss δ = some r ∧ Q r
section
variable {C : Ctx} {n : Nat} {s : S} {ss : List S} {δ δ1 : Dl} {Q Q' : Fl → Prop}
theorem W.imp (h : W C n ss δ Q) (q : ∀ r, Q r → Q' r) : W C n ss δ Q' := by
  obtain ⟨r, h1, h2⟩ := h
  exact ⟨r, h1, q r h2⟩
theorem W.nil (h : Q (.nx δ)) : W C (n + 1) [] δ Q := ⟨_, rfl, h⟩
theorem W.cons (h : evS C n s δ = some (.nx δ1)) (h2 : W C n ss δ1 Q) : W C (n + 1) (s :: ss) δ Q := by
  obtain ⟨r, h3, h4⟩ := h2
  exact ⟨r, (evSs_cons _ _ _ _ _ h).trans h3, h4⟩
theorem W.one {r : Fl} (h : evS C n s δ = some r) (hr : ∀ δ1, r ≠ .nx δ1) (q : Q r) : W C (n + 1) (s :: ss) δ Q := by
  refine ⟨r, ?_, q⟩
  simp only [evSs, h]
  cases r with
  | nx δ => exact absurd rfl (hr δ)
  | _ => rfl
theorem W.ret {d : D} {e : E} (h : evE C n e δ = some (.tmp d, δ1)) (q : Q (.rt d δ1)) : W C (n + 2) (.ret e :: ss) δ Q := ⟨_, evSs_ret _ _ _ _ _ h, q⟩
theorem W.retO {d : D} {e : E} {i : Nat} (h : evE C n e δ = some (.bor i [], δ1)) (hs : slot δ1 i = some d) (hl : C.lock.contains i = false) (q : Q (.rt d (δ1.set i none))) : W C (n + 2) (.ret e :: ss) δ Q :=
  ⟨_, evSs_stop _ _ _ _ _ (evS_retO _ _ _ _ _ h hs hl), q⟩
theorem W.seq (h : W C (n + 1) [s] δ Q') (h2 : ∀ r, Q' r → match r with
    | .nx δ2 => W C n ss δ2 Q
    | r => Q r) : W C (n + 1) (s :: ss) δ Q := by
  obtain ⟨r, h3, h4⟩ := h
  have h5 := h2 r h4
  simp only [evSs] at h3
  cases hs : evS C n s δ with
  | none => rw [hs] at h3; cases h3
  | some r0 =>
    rw [hs] at h3
    cases r0 with
    | nx δ2 =>
      cases n with
      | zero => simp [evS] at hs
      | succ n =>
        simp only [evSs] at h3
        cases h3
        obtain ⟨r', h6, h7⟩ := h5
        exact ⟨r', (evSs_cons _ _ _ _ _ hs).trans h6, h7⟩
    | rt d δ2 => cases h3; exact ⟨_, by simp only [evSs, hs], h5⟩
    | bk δ2 => cases h3; exact ⟨_, by simp only [evSs, hs], h5⟩
    | ct δ2 => cases h3; exact ⟨_, by simp only [evSs, hs], h5⟩
/-- behind a statement's own block -/
def Then (C : Ctx) (n : Nat) (ss : List S) (Q : Fl → Prop) : Fl → Prop
  | .nx δ2 => W C n ss δ2 Q
  | r => Q r
theorem W.blk {r : Option Fl} (h : evS C n s δ = r) (hw : ∃ r0, r = some r0 ∧ Then C n ss Q r0) : W C (n + 1) (s :: ss) δ Q := by
  obtain ⟨r0, rfl, h2⟩ := hw
  cases r0 with
  | nx δ2 =>
    obtain ⟨r', h6, h7⟩ := h2
    exact ⟨r', (evSs_cons _ _ _ _ _ h).trans h6, h7⟩
  | rt d δ2 => exact ⟨_, by simp only [evSs, h], h2⟩
  | bk δ2 => exact ⟨_, by simp only [evSs, h], h2⟩
  | ct δ2 => exact ⟨_, by simp only [evSs, h], h2⟩
theorem W.ifT {c : E} {a b : List S} (h : evT C n c δ = some (true, δ1)) (hw : W C n a δ1 (Then C (n + 1) ss Q)) : W C (n + 2) (.ifs c a b :: ss) δ Q := W.blk (evS_if_t _ _ _ _ _ _ h) hw
theorem W.ifF {c : E} {a b : List S} (h : evT C n c δ = some (false, δ1)) (hw : W C n b δ1 (Then C (n + 1) ss Q)) : W C (n + 2) (.ifs c a b :: ss) δ Q := W.blk (evS_if_f _ _ _ _ _ _ h) hw
/-- no else, and the test fails -/
theorem W.skip {c : E} {a : List S} (h : evT C (n + 1) c δ = some (false, δ1)) (hw : W C (n + 2) ss δ1 Q) : W C (n + 3) (.ifs c a [] :: ss) δ Q := W.ifF h (W.nil hw)
/-- a test that is one of two -/
theorem W.ifB {c : E} {a b : List S} {t : Bool} (h : evT C n c δ = some (t, δ1)) (h1 : t = true → W C n a δ1 (Then C (n + 1) ss Q)) (h2 : t = false → W C n b δ1 (Then C (n + 1) ss Q)) : W C (n + 2) (.ifs c a b :: ss) δ Q := by
  cases t with
  | true => exact W.ifT h (h1 rfl)
  | false => exact W.ifF h (h2 rfl)
theorem forL_W {α : Type} {set : D → Dl → Option Dl} {body : Dl → Option Fl} (I : List α → Dl → Prop) (R : Fl → Prop) (em : α → D) (all : List α)
    (h : ∀ pre x post δ, all = pre ++ x :: post → I pre δ → ∃ δ1 r, set (em x) δ = some δ1 ∧ body δ1 = some r ∧ (match r with
      | .nx δ2 => I (pre ++ [x]) δ2
      | .ct δ2 => I (pre ++ [x]) δ2
      | .bk δ2 => R (.nx δ2)
      | .rt d δ2 => R (.rt d δ2))) (hend : ∀ δ, I all δ → R (.nx δ)) :
    ∀ (xs pre : List α) (δ : Dl), all = pre ++ xs → I pre δ → ∃ r, forL set body (xs.map em) δ = some r ∧ R r
  | [], pre, δ, e, i => ⟨.nx δ, rfl, hend δ (by rw [e, List.append_nil]; exact i)⟩
  | x :: xs, pre, δ, e, i => by
    obtain ⟨δ1, r, h1, h2, h3⟩ := h pre x xs δ e i
    cases r with
    | nx δ2 =>
      obtain ⟨r', h4, h5⟩ := forL_W (set := set) (body := body) I R em all h hend xs (pre ++ [x]) δ2 (by rw [e]; simp) h3
      exact ⟨r', by simp only [List.map_cons, forL, h1, h2]; exact h4, h5⟩
    | ct δ2 =>
      obtain ⟨r', h4, h5⟩ := forL_W (set := set) (body := body) I R em all h hend xs (pre ++ [x]) δ2 (by rw [e]; simp) h3
      exact ⟨r', by simp only [List.map_cons, forL, h1, h2]; exact h4, h5⟩
    | bk δ2 => exact ⟨.nx δ2, by simp only [List.map_cons, forL, h1, h2], h3⟩
    | rt d δ2 => exact ⟨.rt d δ2, by simp only [List.map_cons, forL, h1, h2], h3⟩
/-- what a turn ends in -/
def Turn (I : Dl → Prop) (R : Fl → Prop) : Fl → Prop
  | .nx δ2 => I δ2
  | .ct δ2 => I δ2
  | .bk δ2 => R (.nx δ2)
  | .rt d δ2 => R (.rt d δ2)
theorem W.for {α : Type} {tg : Tg} {k : ItK} {its : List E} {body : List S} (I : List α → Dl → Prop) (em : α → D) (xs : List α) (hi : evIt C n k its δ = some (xs.map em, δ1)) (h0 : I [] δ1)
    (h : ∀ pre x post δ, xs = pre ++ x :: post → I pre δ → ∃ δ2, setT C.lock tg (em x) δ = some δ2 ∧ W C n body δ2 (Turn (I (pre ++ [x])) (Then C (n + 1) ss Q)))
    (hend : ∀ δ, I xs δ → W C (n + 1) ss δ Q) : W C (n + 2) (.for_ tg k its body :: ss) δ Q := by
  obtain ⟨r, h1, h2⟩ := forL_W (set := setT C.lock tg) (body := evSs C n body) I (Then C (n + 1) ss Q) em xs (fun pre x post δ e i => by
    obtain ⟨δ2, a, r, b, c⟩ := h pre x post δ e i
    refine ⟨δ2, r, a, b, ?_⟩
    cases r <;> exact c) hend xs [] δ1 rfl h0
  exact W.blk (evS_for _ _ _ _ _ _ _ hi h1) ⟨r, rfl, h2⟩
end
theorem W.run {C : Ctx} {f : Fn} {ds : List D} {d : D} {δ0 : Dl} {outs : List D} (hl : ds.length = f.ps) (h0 : startD f ds = δ0) (h : W C 100 f.body δ0 (fun r => ∃ δ, r = .rt d δ ∧ outsOf δ f.io 0 f.ps = some outs)) : runF C f ds = some (d, outs) := by
  obtain ⟨r, h1, δ, rfl, h2⟩ := h
  exact runF_rt hl h0 h1 h2
/-- what a def gives -/
def Gives (f : Fn) (P : D → List D → Prop) : Fl → Prop
  | .rt d δ => ∃ outs, outsOf δ f.io 0 f.ps = some outs ∧ P d outs
  | .nx δ => ∃ outs, outsOf δ f.io 0 f.ps = some outs ∧ P .non outs
  | _ => False
theorem W.def {C : Ctx} {f : Fn} {ds : List D} {δ0 : Dl} {P : D → List D → Prop} (hl : ds.length = f.ps) (h0 : startD f ds = δ0) (h : W C 100 f.body δ0 (Gives f P)) : ∃ d outs, runF C f ds = some (d, outs) ∧ P d outs := by
  obtain ⟨r, h1, h2⟩ := h
  subst h0
  cases r with
  | rt d δ =>
    obtain ⟨outs, a, b⟩ := h2
    exact ⟨d, outs, runF_rt hl rfl h1 a, b⟩
  | nx δ =>
    obtain ⟨outs, a, b⟩ := h2
    refine ⟨.non, outs, ?_, b⟩
    unfold runF
    rw [if_pos hl, h1]
    simp [a]
  | bk δ => exact h2.elim
  | ct δ => exact h2.elim
end Ev

set_option linter.all false
set_option maxRecDepth 100000
set_option maxHeartbeats 4000000
/-! MV: helpers of the walks -/
namespace Ev.U
open PySem Ev Ev.Bu
theorem tkI {call : Nat → List D → Option (D × List D)} {it : Nat} (h : TakeSp call it) (d : D) (c b : Int) (hb : Box c d) (hc : c < 1000000000000) (h0 : 0 < b) (h1 : b < 1000000000) : ∃ (r : Nat) (d' : D), call it [d, .int b] = some (.int r, [d']) ∧ (r : Int) < b ∧ Box (c + 1) d' := by
  obtain ⟨r, d', e, l, x⟩ := h d c b.toNat hb hc (by omega) (by omega)
  rw [show ((b.toNat : Nat) : Int) = b by omega] at e
  exact ⟨r, d', e, by omega, x⟩
theorem ixN_zero (n : Nat) : ixN (n + 1) 0 = some 0 := by unfold ixN; rw [if_pos (by omega), if_pos (by omega)]; rfl
theorem ltI_nts : ∀ a b : List Nat, ltI (a.map fun (n : Nat) => (n : Int)) (b.map fun (n : Nat) => (n : Int)) = ltN a b
  | [], [] => rfl
  | [], _ :: _ => rfl
  | _ :: _, [] => rfl
  | x :: xs, y :: ys => by
    simp only [List.map_cons, ltI, ltN, ltI_nts xs ys]
    by_cases h : x = y
    · rw [if_pos h, if_pos (by omega)]
    · rw [if_neg h, if_neg (by omega)]
      rw [decide_eq_decide]
      omega
theorem lt_tN (a b : List Nat) : cmpD .lt (tN a) (tN b) = some (ltN a b) := by
  show (match intsOf (a.map nt), intsOf (b.map nt) with
    | some ns, some ms => some (ltI ns ms)
    | _, _ => none) = _
  rw [intsOf_nts, intsOf_nts]
  simp only [ltI_nts]
theorem cutD_from {α : Type} (em : α → D) (l : List α) (lo : Nat) : cutD (l.map em) (some (lo : Int)) none = (l.drop lo).map em := by
  have e : (if (lo : Int) < 0 then max ((lo : Int) + ((l.map em).length : Int)) 0 else min (lo : Int) ((l.map em).length : Int)).toNat = min lo l.length := by
    rw [if_neg (by omega), List.length_map]; omega
  have e2 : (l.map em).drop (min lo l.length) = (l.drop lo).map em := by
    rw [← List.map_drop]
    congr 1
    by_cases h : lo ≤ l.length
    · rw [Nat.min_eq_left h]
    · rw [Nat.min_eq_right (by omega), List.drop_eq_nil_of_le (Nat.le_refl _), List.drop_eq_nil_of_le (by omega)]
  have e3 : sIx (l.map em).length 0 (some (lo : Int)) = min lo l.length := e
  unfold cutD
  rw [e3, e2]
  refine List.take_of_length_le ?_
  simp only [sIx, List.length_map, List.length_drop]
  omega
theorem lcN {C : Ctx} {v : Nat} {c : E} {k : ItK} {its : List E} {δ δ0 : Dl} {xs : List Nat} (p : Nat → Bool) (hl : C.lock.contains v = false) (hi : ∀ m, evIt C (m + 18) k its δ0 = some (xs.map nt, δ)) (hv : v < δ.length) (ho : ownFz δ [v] = true) (hc : xs.length ≤ cap)
    (ht : ∀ w ∈ xs, ∀ m, evT C (m + 17) c (δ.set v (some (nt w))) = some (p w, δ.set v (some (nt w)))) (m : Nat) : evE C (m + 20) (.lc (.var v) (.nm v) k its [c] [v]) δ0 = some (.tmp (.lst true ((xs.filter p).map nt)), δ) := by
  refine (ev_lcIf (C := C) (n := m + 18) (v := v) (p := fun d => match d with
        | .int z => p z.toNat
        | _ => false) (f := fun d => d) hl (hi (m + 1)) hv ho (by simpa using hc) (fun x hx => ?_) (fun x hx hp => ?_)).trans ?_
  · obtain ⟨w, hw, rfl⟩ := List.mem_map.mp hx
    simpa using ht w hw (m + 1)
  · obtain ⟨w, _, rfl⟩ := List.mem_map.mp hx
    have : slot (δ.set v (some (nt w))) v = some (nt w) := by unfold slot; rw [List.getElem?_set_self hv]
    simp [this]
  · simp only [List.filter_map, List.map_id']
    simp [Function.comp_def]
theorem rangeD_up' (lo n : Nat) : rangeD ((lo : Int) + 1) 1 n = (up (lo + 1) n).map nt := by
  have := rangeD_up (lo + 1) n
  rw [show (((lo + 1 : Nat)) : Int) = (lo : Int) + 1 by omega] at this
  exact this

theorem retP {d d' : D} {δ : Dl} {io : List Nat} {ps : Nat} {outs : List D} (h : d' = d) (ho : outsOf δ io 0 ps = some outs) : ∃ δ', Fl.rt d' δ = .rt d δ' ∧ outsOf δ' io 0 ps = some outs := ⟨δ, by rw [h], ho⟩
theorem cutD_to {α : Type} (em : α → D) (l : List α) (hi : Nat) : cutD (l.map em) none (some (hi : Int)) = (l.take hi).map em := by
  have e : sIx (l.map em).length (l.map em).length (some (hi : Int)) = min hi l.length := by
    simp only [sIx, List.length_map]
    rw [if_neg (by omega)]
    omega
  unfold cutD
  rw [show sIx (l.map em).length 0 none = 0 from rfl]
  rw [show (List.take (sIx (List.map em l).length (List.map em l).length (some ↑hi) - 0) (List.drop 0 (List.map em l))) = List.take (sIx (List.map em l).length (List.map em l).length (some ↑hi)) (List.map em l) by simp]
  rw [e, ← List.map_take, ← List.take_eq_take_min]
theorem in_tN (x : Nat) (l : List Nat) : cmpD .isin (nt x) (tN l) = some (l.contains x) := by
  show (if (nt x).flat && flats (l.map nt) then some ((l.map nt).any fun y => y.eq (nt x)) else none) = _
  rw [flats_nts, any_eq_nts]
  rfl
theorem notin_tN (x : Nat) (l : List Nat) : cmpD .notin (nt x) (tN l) = some (!l.contains x) := by
  show (if (nt x).flat && flats (l.map nt) then some (!(l.map nt).any fun y => y.eq (nt x)) else none) = _
  rw [flats_nts, any_eq_nts]
  rfl
theorem in_lN (x : Nat) (o : Bool) (l : List Nat) : cmpD .isin (nt x) (.lst o (l.map nt)) = some (l.contains x) := by
  show (if plain (nt x) && oks 58 (l.map nt) then some ((l.map nt).any fun y => y.eq (nt x)) else none) = _
  rw [oks_nts, any_eq_nts]
  rfl
theorem notin_lN (x : Nat) (o : Bool) (l : List Nat) : cmpD .notin (nt x) (.lst o (l.map nt)) = some (!l.contains x) := by
  show (if plain (nt x) && oks 58 (l.map nt) then some (!(l.map nt).any fun y => y.eq (nt x)) else none) = _
  rw [oks_nts, any_eq_nts]
  rfl
theorem sorted_nts (o : Bool) (l : List Nat) : biD .sorted1 [.lst o (l.map nt)] = some (.lst true ((sortN l).map nt)) := by
  rw [qbi_sort1, intsOf_nts]
  simp only [sortI_nts, map_int_nt]
theorem neg_last {l : List D} {x : D} : ixN (l ++ [x]).length (-1) = some l.length := by
  unfold ixN
  rw [List.length_append, List.length_singleton, if_neg (by omega), if_pos (by omega)]
  congr 1
  omega
theorem insN_len (x : Nat) : ∀ l : List Nat, (insN x l).length = l.length + 1
  | [] => rfl
  | y :: ys => by
    unfold insN
    split <;> simp [insN_len x ys]
theorem sortN_len : ∀ l : List Nat, (sortN l).length = l.length
  | [] => rfl
  | x :: xs => by unfold sortN; rw [insN_len, sortN_len xs]; rfl
end Ev.U

set_option linter.all false
set_option maxRecDepth 100000
set_option maxHeartbeats 4000000
/-! MP: going on with another deal -/
namespace Ev.Ch
open PySem Ev Ev.U Ev.Bu
def lostM (u1 u2 : List Nat) (used : Nat) : List Nat := sortN ((u2.take used).filter fun p => !(u1.take used).contains p)
def doubledM (u1 u2 : List Nat) (used : Nat) : List Nat := sortN ((u1.take used).filter fun p => (u2.drop used).contains p)
def endsGo : Nat → List (List Nat) → List Nat
  | a, [] => [a]
  | a, b :: bs => a :: endsGo (a + b.length) bs
def endsM (bs : List (List Nat)) : List Nat := endsGo 0 bs
def goodM (u1 u2 : List Nat) (bs : List (List Nat)) : List Nat := (endsM bs).filter fun used => (lostM u1 u2 used).isEmpty && (doubledM u1 u2 used).isEmpty
def partGo (u1 u2 : List Nat) : Nat → Nat → Option Nat
  | 0, _ => none
  | m + 1, k => if u1[k]? = u2[k]? then partGo u1 u2 m (k + 1) else some k
def partedM (u1 u2 : List Nat) : Option Nat := partGo u1 u2 (max u1.length u2.length) 0
def backGo (ahead : List Nat) : List Nat → Nat
  | [] => 0
  | p :: ps => if ahead.contains p then backGo ahead ps + 1 else 0
def backM (u1 u2 : List Nat) (used : Nat) : Nat := backGo (u1.take used) u2
def f_parts (iu : Nat) : Fn := { n := 5, ps := 4, io := [], body := [.asg (.nm 4) (.call iu [(.var 0), (.var 2)]),
    .ifs (.cmp .gt (.var 3) (.bi .len [(.var 4)])) [.bad] [],
    .ret (.tup [(.slice (.var 4) none (some (.var 3))), (.slice (.call iu [(.var 1), (.var 2)]) (some (.var 3)) none)])] }
def f_lost (ip iu : Nat) : Fn := { n := 6, ps := 4, io := [], body := [.asg (.nm 4) (.sub (.call ip [(.var 0), (.var 1), (.var 2), (.var 3)]) (.int 0)),
    .ret (.bi .sorted1 [(.lc (.var 5) (.nm 5) .val [(.slice (.call iu [(.var 1), (.var 2)]) none (some (.var 3)))] [(.cmp .notin (.var 5) (.var 4))] [5])])] }
def f_doubled (ip : Nat) : Fn := { n := 7, ps := 4, io := [], body := [.asg (.tp [4, 5]) (.call ip [(.var 0), (.var 1), (.var 2), (.var 3)]),
    .ret (.bi .sorted1 [(.lc (.var 6) (.nm 6) .val [(.var 4)] [(.cmp .isin (.var 6) (.var 5))] [6])])] }
def f_good_moments (ib il id : Nat) : Fn := { n := 6, ps := 3, io := [], body := [.asg (.nm 3) (.lst [(.int 0)]),
    .for_ (.nm 4) .val [(.call ib [(.var 0), (.var 2)])] [.expr (.meth .append (.var 3) [(.bin .add (.sub (.var 3) (.neg (.int 1))) (.bi .len [(.var 4)]))])],
    .ret (.lc (.var 5) (.nm 5) .val [(.var 3)] [(.chain .eq .eq (.bi .len [(.call il [(.var 0), (.var 1), (.var 2), (.var 5)])]) (.bi .len [(.call id [(.var 0), (.var 1), (.var 2), (.var 5)])]) (.int 0))] [5])] }
def f_parted (iu : Nat) : Fn := { n := 6, ps := 3, io := [], body := [.par [4, 5] [(.call iu [(.var 0), (.var 2)]), (.call iu [(.var 1), (.var 2)])],
    .for_ (.nm 3) .range [(.bi .max2 [(.bi .len [(.var 4)]), (.bi .len [(.var 5)])])] [.ifs (.cmp .ne (.slice (.var 4) (some (.var 3)) (some (.bin .add (.var 3) (.int 1)))) (.slice (.var 5) (some (.var 3)) (some (.bin .add (.var 3) (.int 1))))) [.ret (.var 3)] []],
    .ret .non] }
def f_go_back (ip iu : Nat) : Fn := { n := 7, ps := 4, io := [], body := [.asg (.nm 4) (.sub (.call ip [(.var 0), (.var 1), (.var 2), (.var 3)]) (.int 0)),
    .asg (.nm 5) (.int 0),
    .for_ (.nm 6) .val [(.call iu [(.var 1), (.var 2)])] [.ifs (.cmp .notin (.var 6) (.var 4)) [.brk] [],
    .aug 5 .add (.int 1)],
    .ret (.var 5)] }
section
variable {call : Nat → List D → Option (D × List D)} {io : Nat → List Nat} {iu ip il id ib : Nat} {d1 d2 : D} {u1 u2 : List Nat} {n used : Nat}
theorem parts_run (hu : io iu = []) (f1 : d1.fz = true) (f2 : d2.fz = true) (c1 : call iu [d1, .int n] = some (tN u1, [])) (c2 : call iu [d2, .int n] = some (tN u2, [])) (hl : used ≤ u1.length) : runF ⟨call, io, []⟩ (f_parts iu) [d1, d2, .int n, .int used] = some (.tup [tN (u1.take used), tN (u2.drop used)], []) := by
  have z1 := nts_fz u1
  have z2 := nts_fz u2
  have t1 := cutD_to nt u1 used
  have t2 := cutD_from nt u2 used
  have g1 := nts_fz (u1.take used)
  have g2 := nts_fz (u2.drop used)
  have q1 := nts_frz (u1.take used)
  have q2 := nts_frz (u2.drop used)
  have h : ¬ (u1.length : Int) < used := by omega
  refine W.run (δ0 := [some d1, some d2, some (.int n), some (.int used), none]) rfl rfl ?_
  refine W.cons (by simp [hu, f1, c1]; rfl) ?_
  refine W.skip (by simp [z1, cmpD, h]; rfl) ?_
  refine W.ret (d := .tup [tN (u1.take used), tN (u2.drop used)]) (δ1 := [some d1, some d2, some (.int n), some (.int used), some (tN u1)]) ?_ ⟨_, rfl, rfl⟩
  generalize u1.take used = w1 at *
  generalize u2.drop used = w2 at *
  simp [hu, f2, c2, z1, t1, t2, partsOf, cap, g1, g2, q1, q2]
theorem lost_run (hu : io iu = []) (hp : io ip = []) (f1 : d1.fz = true) (f2 : d2.fz = true) (c1 : call ip [d1, d2, .int n, .int used] = some (.tup [tN (u1.take used), tN (u2.drop used)], [])) (c2 : call iu [d2, .int n] = some (tN u2, [])) (hl : u2.length ≤ 100000) : runF ⟨call, io, []⟩ (f_lost ip iu) [d1, d2, .int n, .int used] = some (.lst true ((lostM u1 u2 used).map nt), []) := by
  have z2 := nts_fz u2
  have t2 := cutD_to nt u2 used
  have g1 := nts_fz (u1.take used)
  have g2 := nts_fz (u2.drop used)
  have lt : (u2.take used).length ≤ 100000 := Nat.le_trans (by rw [List.length_take]; omega) hl
  refine W.run (δ0 := [some d1, some d2, some (.int n), some (.int used), none, none]) rfl rfl ?_
  refine W.cons (by simp [hu, hp, f1, f2, c1, g1, g2, ixN]; rfl) ?_
  unfold lostM
  generalize u1.take used = w1 at *
  generalize u2.take used = w2 at *
  have g3 := nts_fz w2
  have q3 := nts_frz w2
  have elc := lcN (C := ⟨call, io, []⟩) (v := 5) (c := .cmp .notin (.var 5) (.var 4)) (k := .val) (its := [.slice (.call iu [(.var 1), (.var 2)]) none (some (.var 3))]) (δ0 := [some d1, some d2, some (.int n), some (.int used), some (tN w1), none]) (δ := [some d1, some d2, some (.int n), some (.int used), some (tN w1), none]) (xs := w2) (fun p => !w1.contains p) rfl
    (fun m => by simp [hu, f2, c2, z2, t2, partsOf, g3, q3]) (by simp) (by simp [ownFz]) (by unfold cap; omega) (fun w hw m => by have e := notin_tN w w1; simp [g1, e])
  generalize w2.filter (fun p => !w1.contains p) = w3 at *
  have so := sorted_nts true w3
  refine W.ret (by simp [elc, -qevE_lc, -qbi_sort1, so]; rfl) ⟨_, rfl, rfl⟩
theorem doubled_run (hp : io ip = []) (f1 : d1.fz = true) (f2 : d2.fz = true) (c1 : call ip [d1, d2, .int n, .int used] = some (.tup [tN (u1.take used), tN (u2.drop used)], [])) (hl : u1.length ≤ 100000) : runF ⟨call, io, []⟩ (f_doubled ip) [d1, d2, .int n, .int used] = some (.lst true ((doubledM u1 u2 used).map nt), []) := by
  have g1 := nts_fz (u1.take used)
  have g2 := nts_fz (u2.drop used)
  have lt : (u1.take used).length ≤ 100000 := Nat.le_trans (by rw [List.length_take]; omega) hl
  unfold doubledM
  generalize u1.take used = w1 at *
  generalize u2.drop used = w2 at *
  refine W.run (δ0 := [some d1, some d2, some (.int n), some (.int used), none, none, none]) rfl rfl ?_
  refine W.cons (by simp [hp, f1, f2, c1, g1, g2]; rfl) ?_
  have q1 := nts_frz w1
  have elc := lcN (C := ⟨call, io, []⟩) (v := 6) (c := .cmp .isin (.var 6) (.var 5)) (k := .val) (its := [.var 4]) (δ0 := [some d1, some d2, some (.int n), some (.int used), some (tN w1), some (tN w2), none]) (δ := [some d1, some d2, some (.int n), some (.int used), some (tN w1), some (tN w2), none]) (xs := w1) (fun p => w2.contains p) rfl
    (fun m => by simp [g1, q1]) (by simp) (by simp [ownFz]) (by unfold cap; omega) (fun w hw m => by have e := in_tN w w2; simp [g2, e])
  generalize w1.filter (fun p => w2.contains p) = w3 at *
  have so := sorted_nts true w3
  refine W.ret (by simp [elc, -qevE_lc, -qbi_sort1, so]; rfl) ⟨_, rfl, rfl⟩
theorem rangeD_up0' (n : Nat) : rangeD 0 1 n = (List.range n).map nt := rangeD_up0 n
theorem range_split {n x : Nat} {pre post : List Nat} (h : List.range n = pre ++ x :: post) : x = pre.length ∧ pre.length < n := by
  have hl := congrArg List.length h
  simp at hl
  have lt : pre.length < n := by omega
  have e : (List.range n)[pre.length]? = some pre.length := by rw [List.getElem?_range lt]
  rw [h, List.getElem?_append_right (Nat.le_refl _), Nat.sub_self] at e
  simp at e
  exact ⟨e, lt⟩
theorem take1 (l : List Nat) (k : Nat) : (l.drop k).take 1 = (l[k]?).toList := by
  rw [← List.head?_drop]
  cases l.drop k <;> simp
theorem endsGo_snoc : ∀ (bs : List (List Nat)) (a : Nat) (b : List Nat), endsGo a (bs ++ [b]) = endsGo a bs ++ [a + (bs ++ [b]).flatten.length]
  | [], a, b => by simp [endsGo]
  | c :: bs, a, b => by
    simp only [List.cons_append, endsGo, endsGo_snoc bs, List.flatten_cons, List.length_append, Nat.add_assoc]
theorem endsGo_last : ∀ (bs : List (List Nat)) (a : Nat), ∃ l, endsGo a bs = l ++ [a + bs.flatten.length]
  | [], a => ⟨[], by simp [endsGo]⟩
  | b :: bs, a => by
    obtain ⟨l, e⟩ := endsGo_last bs (a + b.length)
    exact ⟨a :: l, by simp [endsGo, e, Nat.add_assoc]⟩
theorem endsGo_len : ∀ (bs : List (List Nat)) (a : Nat), (endsGo a bs).length = bs.length + 1
  | [], a => rfl
  | b :: bs, a => by simp [endsGo, endsGo_len bs]
theorem good_run {bs : List (List Nat)} (hb : io ib = []) (hl : io il = []) (hd : io id = []) (f1 : d1.fz = true) (f2 : d2.fz = true) (cb : call ib [d1, .int n] = some (.lst true (bs.map tN), [])) (hbl : bs.length ≤ 1000)
    (cl : ∀ used ∈ endsM bs, call il [d1, d2, .int n, .int used] = some (.lst true ((lostM u1 u2 used).map nt), [])) (cd : ∀ used ∈ endsM bs, call id [d1, d2, .int n, .int used] = some (.lst true ((doubledM u1 u2 used).map nt), [])) :
    runF ⟨call, io, []⟩ (f_good_moments ib il id) [d1, d2, .int n] = some (.lst true ((goodM u1 u2 bs).map nt), []) := by
  have zb := tNs_fz bs
  have qb := tNs_frz bs
  refine W.run (δ0 := [some d1, some d2, some (.int n), none, none, none]) rfl rfl ?_
  refine W.cons (by simp [cap]; rfl) ?_
  refine W.for (fun pre δ => ∃ a4 : Option D, δ = [some d1, some d2, some (.int n), some (.lst true ((endsM pre).map nt)), a4, none]) tN bs (δ1 := [some d1, some d2, some (.int n), some (.lst true [.int 0]), none, none]) (by simp [hb, f1, cb, qb]) ⟨none, rfl⟩ ?_ ?_
  · rintro pre x post δ eq ⟨a4, rfl⟩
    refine ⟨[some d1, some d2, some (.int n), some (.lst true ((endsM pre).map nt)), some (tN x), none], by simp, ?_⟩
    obtain ⟨l, el⟩ := endsGo_last pre 0
    have es := endsGo_snoc pre 0 x
    have ll := endsGo_len pre 0
    rw [el] at ll
    have lp : pre.length ≤ 1000 := by have := congrArg List.length eq; simp at this; omega
    have zx := nts_fz x
    have zl := nts_fz l
    unfold endsM at *
    rw [el] at es ⊢
    rw [es]
    have ix : ixN (l.length + 1) (-1) = some l.length := by have := neg_last (l := l.map nt) (x := nt 0); rw [List.length_append, List.length_map, List.length_singleton] at this; exact this
    have lc : l.length + 1 < cap := by rw [List.length_append, List.length_singleton] at ll; unfold cap; omega
    have en : (((0 + (pre ++ [x]).flatten.length : Nat)) : Int) = ((0 + pre.flatten.length : Nat) : Int) + (x.length : Int) := by simp
    generalize 0 + (pre ++ [x]).flatten.length = y at *
    generalize 0 + pre.flatten.length = z at *
    refine W.cons (δ1 := [some d1, some d2, some (.int n), some (.lst true ((l ++ [z] ++ [y]).map nt)), some (tN x), none]) ?_ (W.nil ⟨some (tN x), rfl⟩)
    simp [zx, zl, methX, methD, isLst, ix, lc, en]
  · rintro δ ⟨a4, rfl⟩
    have ze := nts_fz (endsM bs)
    have qe := nts_frz (endsM bs)
    have le := endsGo_len bs 0
    have elc := lcN (C := ⟨call, io, []⟩) (v := 5) (c := .chain .eq .eq (.bi .len [(.call il [(.var 0), (.var 1), (.var 2), (.var 5)])]) (.bi .len [(.call id [(.var 0), (.var 1), (.var 2), (.var 5)])]) (.int 0)) (k := .val) (its := [.var 3]) (δ0 := [some d1, some d2, some (.int n), some (.lst true ((endsM bs).map nt)), a4, none]) (δ := [some d1, some d2, some (.int n), some (.lst false ((endsM bs).map nt)), a4, none]) (xs := endsM bs) (fun used => (lostM u1 u2 used).isEmpty && (doubledM u1 u2 used).isEmpty) rfl
      (fun m => by simp [ze, qe]) (by simp) (by simp [ownFz]) (by unfold endsM; rw [le]; unfold cap; omega) (fun w hw m => by
        have e1 := cl w hw
        have e2 := cd w hw
        generalize lostM u1 u2 w = l1 at *
        generalize doubledM u1 u2 w = l2 at *
        have y1 := nts_fz l1
        have y2 := nts_fz l2
        have eb : ((l1.length : Int) == (l2.length : Int)) = (l1.length == l2.length) := nat_beq _ _
        have e0 : ((l2.length : Int) == 0) = (l2.length == 0) := nat_beq _ 0
        have fin : ((l1.length == l2.length) && (l2.length == 0)) = (l1.isEmpty && l2.isEmpty) := by
          cases l1 <;> cases l2 <;> simp
        by_cases h : l1.length = l2.length
        · have h2 : ((l1.length : Int) == (l2.length : Int)) = true := by rw [eb, beq_iff_eq]; exact h
          have h3 : (l2.length == 0) = (l1.isEmpty && l2.isEmpty) := by rw [← fin, h]; simp
          generalize (l1.isEmpty && l2.isEmpty) = b at *
          simp [hl, hd, f1, f2, e1, e2, y1, y2, plain, h2, e0, h3]
        · have h2 : ((l1.length : Int) == (l2.length : Int)) = false := by rw [eb, beq_eq_false_iff_ne]; exact h
          have h3 : (l1.isEmpty && l2.isEmpty) = false := by rw [← fin, beq_eq_false_iff_ne.mpr h]; rfl
          rw [h3]
          simp [hl, hd, f1, f2, e1, e2, y1, y2, plain, h2])
    rw [show (endsM bs).filter (fun used => (lostM u1 u2 used).isEmpty && (doubledM u1 u2 used).isEmpty) = goodM u1 u2 bs from rfl] at elc
    refine W.ret (by simp [elc, -qevE_lc]; rfl) ⟨_, rfl, rfl⟩
theorem parted_run (hu : io iu = []) (f1 : d1.fz = true) (f2 : d2.fz = true) (c1 : call iu [d1, .int n] = some (tN u1, [])) (c2 : call iu [d2, .int n] = some (tN u2, [])) (l1 : u1.length ≤ 100000) (l2 : u2.length ≤ 100000) : runF ⟨call, io, []⟩ (f_parted iu) [d1, d2, .int n] = some (optN (partedM u1 u2), []) := by
  have z1 := nts_fz u1
  have z2 := nts_fz u2
  have rn := rangeOf1 (t := max u1.length u2.length) (by omega)
  have em : (if (u2.length : Int) > (u1.length : Int) then (u2.length : Int) else (u1.length : Int)) = ((max u1.length u2.length : Nat) : Int) := by split <;> omega
  refine W.run (δ0 := [some d1, some d2, some (.int n), none, none, none]) rfl rfl ?_
  refine W.cons (by simp [hu, f1, f2, c1, c2]; rfl) ?_
  have e0 : evE ⟨call, io, []⟩ 95 (.bi .max2 [(.bi .len [(.var 4)]), (.bi .len [(.var 5)])]) [some d1, some d2, some (.int n), none, some (tN u1), some (tN u2)] = some (.tmp (.int (max u1.length u2.length : Nat)), [some d1, some d2, some (.int n), none, some (tN u1), some (tN u2)]) := by
    rw [← em]; simp [z1, z2]
  refine W.for (fun pre δ => (∃ a3 : Option D, δ = [some d1, some d2, some (.int n), a3, some (tN u1), some (tN u2)]) ∧ partedM u1 u2 = partGo u1 u2 (max u1.length u2.length - pre.length) pre.length) nt (List.range (max u1.length u2.length)) (δ1 := [some d1, some d2, some (.int n), none, some (tN u1), some (tN u2)]) ?_ ⟨⟨none, rfl⟩, rfl⟩ ?_ ?_
  · rw [qevIt_1, qevAs_2, e0]
    simp only [← rangeD_up0'] at *
    generalize max u1.length u2.length = w at *
    simp [rn]
  · rintro pre x post δ eq ⟨⟨a3, rfl⟩, ip⟩
    obtain ⟨rfl, hlt⟩ := range_split eq
    generalize max u1.length u2.length = N at *
    obtain ⟨m, hm⟩ : ∃ m, N - pre.length = m + 1 := ⟨N - pre.length - 1, by omega⟩
    rw [hm] at ip
    have s1 := cutD_nat nt u1 pre.length (pre.length + 1)
    have s2 := cutD_nat nt u2 pre.length (pre.length + 1)
    rw [show pre.length + 1 - pre.length = 1 by omega, show (((pre.length + 1 : Nat)) : Int) = (pre.length : Int) + 1 by omega] at s1 s2
    have eqs' := eqs_nts ((u1.drop pre.length).take 1) ((u2.drop pre.length).take 1)
    have ok1 := oks_nts 59 ((u1.drop pre.length).take 1)
    have ok2 := oks_nts 59 ((u2.drop pre.length).take 1)
    have dec : ((u1.drop pre.length).take 1 == (u2.drop pre.length).take 1) = decide (u1[pre.length]? = u2[pre.length]?) := by
      rw [take1, take1]
      rw [Bool.eq_iff_iff]
      cases u1[pre.length]? <;> cases u2[pre.length]? <;> simp
    rw [dec] at eqs'
    refine ⟨[some d1, some d2, some (.int n), some (nt pre.length), some (tN u1), some (tN u2)], by simp, ?_⟩
    generalize (u1.drop pre.length).take 1 = w1 at *
    generalize (u2.drop pre.length).take 1 = w2 at *
    unfold partGo at ip
    by_cases h : u1[pre.length]? = u2[pre.length]?
    · rw [if_pos h] at ip
      rw [decide_eq_true h] at eqs'
      refine W.skip (by simp [z1, z2, s1, s2, partsOf, plain, ok1, ok2, eqs']; rfl) (W.nil ⟨⟨_, rfl⟩, ?_⟩)
      rw [List.length_append, List.length_singleton, show N - (pre.length + 1) = m by omega]
      exact ip
    · rw [if_neg h] at ip
      rw [decide_eq_false h] at eqs'
      refine W.ifT (by simp [z1, z2, s1, s2, partsOf, plain, ok1, ok2, eqs']; rfl) ?_
      refine W.ret (by simp; exact ⟨rfl, rfl⟩) ?_
      refine retP ?_ rfl
      rw [ip]; rfl
  · rintro δ ⟨⟨a3, rfl⟩, ip⟩
    rw [List.length_range, Nat.sub_self] at ip
    refine W.ret (by simp; exact ⟨rfl, rfl⟩) ?_
    refine retP ?_ rfl
    rw [ip]; rfl
theorem backGo_app (ahead : List Nat) : ∀ (pre rest : List Nat), (∀ x ∈ pre, ahead.contains x = true) → backGo ahead (pre ++ rest) = pre.length + backGo ahead rest
  | [], rest, _ => by simp
  | x :: pre, rest, h => by
    rw [List.cons_append, backGo, if_pos (h x (by simp)), backGo_app ahead pre rest fun y hy => h y (by simp [hy]), List.length_cons]
    omega
theorem back_run (hu : io iu = []) (hp : io ip = []) (f1 : d1.fz = true) (f2 : d2.fz = true) (c1 : call ip [d1, d2, .int n, .int used] = some (.tup [tN (u1.take used), tN (u2.drop used)], [])) (c2 : call iu [d2, .int n] = some (tN u2, [])) : runF ⟨call, io, []⟩ (f_go_back ip iu) [d1, d2, .int n, .int used] = some (.int (backM u1 u2 used : Nat), []) := by
  have z2 := nts_fz u2
  have q2 := nts_frz u2
  have g1 := nts_fz (u1.take used)
  have g2 := nts_fz (u2.drop used)
  unfold backM
  generalize u1.take used = w1 at *
  generalize u2.drop used = w2 at *
  refine W.run (δ0 := [some d1, some d2, some (.int n), some (.int used), none, none, none]) rfl rfl ?_
  refine W.cons (by simp [hp, f1, f2, c1, g1, g2, ixN]; rfl) ?_
  refine W.cons (δ1 := [some d1, some d2, some (.int n), some (.int used), some (tN w1), some (.int ((0 : Nat) : Int)), none]) (by simp) ?_
  refine W.for (fun pre δ => (∃ a6 : Option D, δ = [some d1, some d2, some (.int n), some (.int used), some (tN w1), some (nt pre.length), a6]) ∧ ∀ x ∈ pre, w1.contains x = true) nt u2 (δ1 := [some d1, some d2, some (.int n), some (.int used), some (tN w1), some (.int ((0 : Nat) : Int)), none]) (by simp [hu, f2, c2, z2, q2]) ⟨⟨none, rfl⟩, fun x h => by cases h⟩ ?_ ?_
  · rintro pre x post δ eq ⟨⟨a6, rfl⟩, ip⟩
    refine ⟨[some d1, some d2, some (.int n), some (.int used), some (tN w1), some (nt pre.length), some (nt x)], by simp, ?_⟩
    have e := notin_tN x w1
    have eb := backGo_app w1 pre (x :: post) ip
    rw [← eq] at eb
    cases hx : w1.contains x with
    | true =>
      rw [hx] at e
      refine W.skip (by simp [g1, e]; rfl) ?_
      refine W.cons (δ1 := [some d1, some d2, some (.int n), some (.int used), some (tN w1), some (nt (pre ++ [x]).length), some (nt x)]) (by simp [augI]) (W.nil ⟨⟨_, rfl⟩, fun y hy => ?_⟩)
      rcases List.mem_append.mp hy with hy | hy
      · exact ip y hy
      · simp at hy; subst hy; exact hx
    | false =>
      rw [hx] at e
      refine W.ifT (by simp [g1, e]; rfl) ?_
      refine W.one (r := .bk [some d1, some d2, some (.int n), some (.int used), some (tN w1), some (nt pre.length), some (nt x)]) (by simp) (fun _ h => by cases h) ?_
      refine W.ret (d := nt pre.length) (δ1 := [some d1, some d2, some (.int n), some (.int used), some (tN w1), some (nt pre.length), some (nt x)]) (by simp) ?_
      refine retP ?_ rfl
      rw [eb, backGo, hx]
      simp
  · rintro δ ⟨⟨a6, rfl⟩, ip⟩
    have eb := backGo_app w1 u2 [] ip
    rw [List.append_nil] at eb
    refine W.ret (by simp; exact ⟨rfl, rfl⟩) ?_
    refine retP ?_ rfl
    rw [eb]; rfl
end
end Ev.Ch

set_option linter.all false
set_option maxRecDepth 100000
set_option maxHeartbeats 4000000
/-! MQ: least sizes; drawn rows -/
namespace Ev.Bu
open PySem Ev Ev.U Ev.Ch
def diffsI : Nat → List Nat → List Int
  | _, [] => []
  | k, x :: xs => ((x : Int) - k) :: diffsI (k + 1) xs
def leastI (row : List Nat) : Int := 1 + match diffsI 0 row with
  | [] => 0
  | n :: ms => maxI n ms
def f_least_size (it : Nat) : Fn := { n := 3, ps := 1, io := [], body := [.ret (.bin .add (.int 1) (.bi .maxd [(.lc (.bin .sub (.var 2) (.var 1)) (.tp [1, 2]) .enum [(.call it [(.var 0)])] [] [1, 2]), (.int 0)]))] }
def f_law_pick (it : Nat) : Fn := { n := 6, ps := 3, io := [0], body := [.par [4, 5] [(.bi .list1 [(.var 1)]), (.lst [])],
    .for_ (.nm 3) .range [(.bi .min2 [(.var 2), (.bi .len [(.var 4)])])] [.expr (.meth .append (.var 5) [(.meth .popAt (.var 4) [(.call it [(.var 0), (.bi .len [(.var 4)])])])])],
    .ret (.var 5)] }
def f_law_row (ip : Nat) : Fn := { n := 2, ps := 2, io := [0], body := [.ret (.bi .tuple1 [(.call ip [(.var 0), (.bi .lrange [(.var 1)]), (.var 1)])])] }
def f_law_any (it ir ig ip : Nat) : Fn := { n := 6, ps := 3, io := [0], body := [.asg (.nm 3) (.call it [(.var 0), (.int 4)]),
    .ifs (.cmp .eq (.var 3) (.int 0)) [.ret (.call ir [(.var 0), (.var 2)])] [],
    .asg (.nm 4) (.bi .list1 [(.call ig [(.var 0), (.bin .add (.var 1) (.bi .int1 [(.cmp .eq (.var 3) (.int 2))])), (.var 2)])]),
    .ifs (.band [(.cmp .eq (.var 3) (.int 3)), (.cmp .gt (.var 2) (.int 1))]) [.asg (.nm 5) (.call ip [(.var 0), (.bi .lrange [(.var 2)]), (.int 2)]),
    .swapIx (.var 4) (.sub (.var 5) (.int 0)) (.var 4) (.sub (.var 5) (.int 1)) (.tup [(.sub (.var 4) (.sub (.var 5) (.int 1))), (.sub (.var 4) (.sub (.var 5) (.int 0)))])] [],
    .ret (.bi .tuple1 [(.var 4)])] }
theorem box_fz {c : Int} {x : List D} (h : Box c (.lst true x)) : fzs x = true ∧ flats x = true := by
  obtain ⟨y, e, f, g⟩ := box_lst h
  cases e
  exact ⟨f, g⟩
def subF : D → D
  | .tup [.int a, .int b] => .int (b - a)
  | _ => .non
theorem mul2 {o : Bool} {xs : List D} (h : fzs xs = true) (hl : xs.length ≤ 1000) : binD .mul (.lst o xs) (.int 2) = some (.lst true (xs ++ xs)) := by
  show (if fzs xs && decide ((0 : Int) ≤ 2) && decide ((2 : Int) ≤ 1000) && decide (xs.length ≤ 1000) then some (D.lst true (List.replicate (2 : Int).toNat xs).flatten) else none) = _
  rw [h, decide_eq_true hl]
  simp [List.replicate]
theorem enum_mem : ∀ {row : List Nat} {k : Nat} {x : D}, x ∈ enumD k (row.map nt) → ∃ j y : Nat, x = .tup [.int j, nt y]
  | [], k, x, h => by simp [enumD] at h
  | r :: rs, k, x, h => by
    simp only [List.map_cons, enumD, List.mem_cons] at h
    rcases h with h | h
    · exact ⟨k, r, h⟩
    · exact enum_mem h
theorem enum_sub : ∀ (row : List Nat) (k : Nat), (enumD k (row.map nt)).map subF = (diffsI k row).map .int
  | [], k => rfl
  | r :: rs, k => by
    simp only [List.map_cons, enumD, diffsI, enum_sub rs]
    rfl
theorem enumD_len : ∀ (xs : List D) (k : Nat), (enumD k xs).length = xs.length
  | [], k => rfl
  | x :: xs, k => by simp only [enumD, List.length_cons, enumD_len xs]
theorem intsOf_ints : ∀ l : List Int, intsOf (l.map D.int) = some l
  | [] => rfl
  | x :: xs => by simp only [List.map_cons, intsOf, intsOf_ints xs, Option.map_some]
section
variable {call : Nat → List D → Option (D × List D)} {io : Nat → List Nat}
theorem least_run {it : Nat} {d : D} {row : List Nat} (hit : io it = []) (fd : d.fz = true) (ht : call it [d] = some (tN row, [])) (hl : row.length ≤ 1000) : runF ⟨call, io, []⟩ (f_least_size it) [d] = some (.int (leastI row), []) := by
  have f := nts_fz row
  have q := nts_frz row
  have elc : ∀ m, evE ⟨call, io, []⟩ (m + 20) (.lc (.bin .sub (.var 2) (.var 1)) (.tp [1, 2]) .enum [(.call it [(.var 0)])] [] [1, 2]) [some d, none, none] = some (.tmp (.lst true ((diffsI 0 row).map .int)), [some d, none, none]) := fun m => by
    rw [← enum_sub]
    refine ev_lcG (C := ⟨call, io, []⟩) (n := m + 19) (δ := [some d, none, none]) (xs := enumD 0 (row.map nt)) (f := subF) (by simp [hit, fd, ht, f, q]) rfl (by rw [enumD_len, List.length_map]; unfold cap; omega) rfl (fun x hx => ?_) (by omega)
    obtain ⟨j, y, rfl⟩ := enum_mem hx
    exact ⟨[some d, some (nt j), some (nt y)], [some d, some (nt j), some (nt y)], by simp [wipeD], by simp [subF], by simp [wipeD]⟩
  refine W.run (δ0 := [some d, none, none]) rfl rfl ?_
  refine W.ret (d := .int (leastI row)) (δ1 := [some d, none, none]) ?_ (retP rfl rfl)
  have i := intsOf_ints (diffsI 0 row)
  unfold leastI
  generalize diffsI 0 row = l at *
  cases l with
  | nil =>
    simp only [List.map_nil] at i elc
    simp [elc, -qevE_lc, i]
  | cons x xs =>
    simp only [List.map_cons] at i elc
    simp [elc, -qevE_lc, i]
theorem perm_eraseIdx {l : List Nat} {r : Nat} {y : Nat} (h : l[r]? = some y) : l.Perm (y :: l.eraseIdx r) := by
  induction l generalizing r with
  | nil => simp at h
  | cons x xs ih =>
    cases r with
    | zero => simp at h; subst h; exact .refl _
    | succ r =>
      simp only [List.getElem?_cons_succ] at h
      simp only [List.eraseIdx_cons_succ]
      exact ((ih h).cons x).trans (.swap _ _ _)
def PickSp (call : Nat → List D → Option (D × List D)) (ip : Nat) : Prop := ∀ (d : D) (c : Int) (o : Bool) (names : List Nat) (many : Nat), Box c d → c < 900000000000 → names.length ≤ 100 → many ≤ 100 → ∃ (l rest : List Nat) (d' : D), call ip [d, .lst o (names.map nt), .int many] = some (.lst true (l.map nt), [d']) ∧ (l ++ rest).Perm names ∧ l.length = min many names.length ∧ Box (c + 100) d'
theorem pick_run {it : Nat} (hit : io it = [0]) (TS : TakeSp call it) {d : D} {c : Int} {o : Bool} {names : List Nat} {many : Nat} (hb : Box c d) (hc : c < 900000000000) (hn : names.length ≤ 100) (hm : many ≤ 100) :
    ∃ (l rest : List Nat) (d' : D), runF ⟨call, io, [0]⟩ (f_law_pick it) [d, .lst o (names.map nt), .int many] = some (.lst true (l.map nt), [d']) ∧ (l ++ rest).Perm names ∧ l.length = min many names.length ∧ Box (c + 100) d' := by
  obtain ⟨x0, rfl, f0, _⟩ := box_lst hb
  have f1 := nts_fz names
  have rn := rangeOf1 (t := min many names.length) (by omega)
  have em : (if (names.length : Int) < (many : Int) then (names.length : Int) else (many : Int)) = ((min many names.length : Nat) : Int) := by split <;> omega
  obtain ⟨d, outs, e, P⟩ : ∃ d outs, runF ⟨call, io, [0]⟩ (f_law_pick it) [.lst true x0, .lst o (names.map nt), .int many] = some (d, outs) ∧ ∃ (l rest : List Nat) (d' : D), d = .lst true (l.map nt) ∧ outs = [d'] ∧ (l ++ rest).Perm names ∧ l.length = min many names.length ∧ Box (c + 100) d' := by
    refine W.def (f := f_law_pick it) (P := fun d outs => ∃ (l rest : List Nat) (d' : D), d = .lst true (l.map nt) ∧ outs = [d'] ∧ (l ++ rest).Perm names ∧ l.length = min many names.length ∧ Box (c + 100) d') (δ0 := [some (.lst true x0), some (.lst o (names.map nt)), some (.int many), none, none, none]) rfl rfl ?_
    refine W.cons (δ1 := [some (.lst true x0), some (.lst o (names.map nt)), some (.int many), none, some (.lst true (names.map nt)), some (.lst true [])]) (by cases o <;> simp [f1, items, cap]) ?_
    have e0 : evE ⟨call, io, [0]⟩ 95 (.bi .min2 [(.var 2), (.bi .len [(.var 4)])]) [some (.lst true x0), some (.lst o (names.map nt)), some (.int many), none, some (.lst true (names.map nt)), some (.lst true [])] = some (.tmp (.int (min many names.length : Nat)), [some (.lst true x0), some (.lst o (names.map nt)), some (.int many), none, some (.lst true (names.map nt)), some (.lst true [])]) := by
      rw [← em]; simp [f1]
    refine W.for (fun pre δ => ∃ (l rest : List Nat) (x : List D) (a3 : Option D), δ = [some (.lst true x), some (.lst o (names.map nt)), some (.int many), a3, some (.lst true (rest.map nt)), some (.lst true (l.map nt))] ∧ (l ++ rest).Perm names ∧ l.length = pre.length ∧ Box (c + pre.length) (.lst true x)) nt (List.range (min many names.length)) (δ1 := [some (.lst true x0), some (.lst o (names.map nt)), some (.int many), none, some (.lst true (names.map nt)), some (.lst true [])]) ?_ ⟨[], names, x0, none, rfl, .refl _, rfl, by simpa using hb⟩ ?_ ?_
    · rw [qevIt_1, qevAs_2, e0]
      rw [rangeD_up0'] at rn
      generalize min many names.length = w at *
      simp [rn]
    · rintro pre t post δ eq ⟨l, rest, x, a3, rfl, hp, hl, hb'⟩
      obtain ⟨rfl, hlt⟩ := range_split eq
      have ln := hp.length_eq
      rw [List.length_append] at ln
      have hr0 : 0 < rest.length := by omega
      obtain ⟨r, d1, g1, hr, b1⟩ := TS _ _ rest.length hb' (by omega) hr0 (by omega)
      obtain ⟨fx, _⟩ := box_fz hb'
      obtain ⟨x1, rfl, fx1, _⟩ := box_lst b1
      have f2 := nts_fz rest
      have f3 := nts_fz l
      have l1 : l.length < cap := by unfold cap; omega
      have ix := ixN_nat hr
      have s6 := sm62n (t := r) (by omega)
      have hx : rest[r]? = some rest[r] := List.getElem?_eq_getElem hr
      have er := eraseIdx_mapN nt rest r
      have pe := perm_eraseIdx hx
      refine ⟨[some (.lst true x), some (.lst o (names.map nt)), some (.int many), some (nt pre.length), some (.lst true (rest.map nt)), some (.lst true (l.map nt))], by simp, ?_⟩
      generalize rest[r] = y at *
      refine W.cons (δ1 := [some (.lst true x1), some (.lst o (names.map nt)), some (.int many), some (nt pre.length), some (.lst true ((rest.eraseIdx r).map nt)), some (.lst true ((l ++ [y]).map nt))]) (by simp [f2, f3, methX, methD, l1, isLst, noPath, s6, ix, hx, er, hit, ioOf, backOf, g1]) (W.nil ⟨l ++ [y], rest.eraseIdx r, x1, _, rfl, ?_, by simp [hl], b1.mono (by simp; omega)⟩)
      rw [List.append_assoc, List.singleton_append]
      exact ((List.Perm.append_left l pe).symm).trans hp
    · rintro δ ⟨l, rest, x, a3, rfl, hp, hl, hb'⟩
      rw [List.length_range] at hl hb'
      obtain ⟨fx, gx⟩ := box_fz hb'
      have f3 := nts_fz l
      refine W.retO (d := .lst true (l.map nt)) (i := 5) (δ1 := [some (.lst true x), some (.lst o (names.map nt)), some (.int many), a3, some (.lst true (rest.map nt)), some (.lst true (l.map nt))]) (by simp [f3]) (by simp) rfl ?_
      exact ⟨[.lst true x], by simp [f_law_pick, outsOf, flatOwn, gx], l, rest, _, rfl, rfl, hp, hl, hb'.mono (by omega)⟩
  obtain ⟨l, rest, d', rfl, rfl, h1, h2, h3⟩ := P
  exact ⟨l, rest, d', e, h1, h2, h3⟩
def RowSp (call : Nat → List D → Option (D × List D)) (ir : Nat) : Prop := ∀ (d : D) (c : Int) (n : Nat), Box c d → c < 900000000000 → n ≤ 100 → ∃ (row : List Nat) (d' : D), call ir [d, .int n] = some (tN row, [d']) ∧ row.Perm (List.range n) ∧ Box (c + 100) d'
theorem row_run {ip : Nat} (hip : io ip = [0]) (PS : PickSp call ip) {d : D} {c : Int} {n : Nat} (hb : Box c d) (hc : c < 900000000000) (hn : n ≤ 100) :
    ∃ (row : List Nat) (d' : D), runF ⟨call, io, [0]⟩ (f_law_row ip) [d, .int n] = some (tN row, [d']) ∧ row.Perm (List.range n) ∧ Box (c + 100) d' := by
  obtain ⟨l, rest, d1, e, h1, h2, h3⟩ := PS d c true (List.range n) n hb hc (by simpa using hn) hn
  rw [List.length_range, Nat.min_self] at h2
  have hr : rest = [] := by
    have := h1.length_eq
    rw [List.length_append, List.length_range] at this
    exact List.eq_nil_of_length_eq_zero (by omega)
  subst hr
  rw [List.append_nil] at h1
  obtain ⟨x0, rfl, f0, _⟩ := box_lst hb
  obtain ⟨x1, rfl, f1, g1⟩ := box_lst h3
  have rn := rangeOf1 (t := n) (by omega)
  have lc : n ≤ cap := by unfold cap; omega
  have f2 := nts_fz (List.range n)
  have f3 := nts_fz l
  refine ⟨l, .lst true x1, ?_, h1, h3⟩
  rw [rangeD_up0'] at rn
  refine runF_rt (f := f_law_row ip) (δ0 := [some (.lst true x0), some (.int n)]) rfl rfl (δ := [some (.lst true x1), some (.int n)]) ?_ (by simp [f_law_row, outsOf, flatOwn, g1])
  refine evSs_ret _ _ _ _ _ ?_
  simp [rn, lc, hip, ioOf, backOf, e, items, f3]
/-! a row with two exchanged -/
def swapL (l : List Nat) (i j : Nat) (a b : Nat) : List Nat := (l.set i b).set j a
theorem swap_perm {l : List Nat} {i j a b : Nat} (hi : l[i]? = some a) (hj : l[j]? = some b) (ne : i ≠ j) : (swapL l i j a b).Perm l := by
  obtain ⟨li, ei⟩ := List.getElem?_eq_some_iff.mp hi
  obtain ⟨lj, ej⟩ := List.getElem?_eq_some_iff.mp hj
  rw [List.perm_iff_count]
  intro x
  unfold swapL
  rw [List.count_set (by rw [List.length_set]; exact lj), List.count_set li]
  rw [List.getElem_set_ne ne]
  rw [ei, ej]
  have c1 : (if a == x then 1 else 0) ≤ l.count x := by
    split
    · rename_i h
      rw [beq_iff_eq] at h
      subst h
      exact List.count_pos_iff.mpr (List.mem_of_getElem? hi)
    · omega
  have c2 : (if b == x then 1 else 0) ≤ l.count x := by
    split
    · rename_i h
      rw [beq_iff_eq] at h
      subst h
      exact List.count_pos_iff.mpr (List.mem_of_getElem? hj)
    · omega
  omega
/-- what comes by choices is a row -/
theorem rowGo_perm {size n : Nat} : ∀ {cs held row : List Nat} {k : Nat}, k + cs.length = n → rowGo size n k cs held = some row → (0 < size) → held.length = heldM size n k → row.Perm (held ++ up (k + size) (n - (k + size)))
  | [], held, row, k, hn, e, hs, hl => by
    simp [rowGo] at e
    subst e
    simp only [List.length_nil, Nat.add_zero] at hn
    have h0 : held = [] := List.eq_nil_of_length_eq_zero (by rw [hl]; unfold heldM; omega)
    rw [h0, show n - (k + size) = 0 by omega]
    exact .refl _
  | c :: cs, held, row, k, hn, e, hs, hl => by
    simp only [List.length_cons] at hn
    unfold rowGo at e
    split at e
    · cases e
    · rename_i x hx
      rw [Option.map_eq_some_iff] at e
      obtain ⟨r, h1, rfl⟩ := e
      have hc : c < held.length := (List.getElem?_eq_some_iff.mp hx).1
      have ih := rowGo_perm (by omega) h1 hs (step_len hs (by omega) hl hc)
      have e1 : nxt size n k ++ up (k + 1 + size) (n - (k + 1 + size)) = up (k + size) (n - (k + size)) := by
        unfold nxt
        split
        · rename_i h
          rw [show n - (k + size) = (n - (k + 1 + size)) + 1 by omega, up_succ, show k + size + 1 = k + 1 + size by omega]
          rfl
        · rw [show n - (k + 1 + size) = 0 by omega, show n - (k + size) = 0 by omega]
          rfl
      rw [List.append_assoc, e1] at ih
      refine (ih.cons x).trans ?_
      have := (perm_eraseIdx hx).symm.append_right (up (k + size) (n - (k + size)))
      exact this
theorem rowM_perm {size n : Nat} {cs row : List Nat} (hs : 0 < size) (hn : cs.length = n) (e : rowM size cs = some row) : row.Perm (List.range n) := by
  unfold rowM at e
  rw [hn] at e
  have h := rowGo_perm (k := 0) (by omega) e hs (held0_len size n)
  rw [Nat.zero_add] at h
  have e1 : held0 size n ++ up size (n - size) = List.range n := by
    unfold held0
    by_cases hl : size ≤ n
    · rw [Nat.min_eq_left hl]
      have : List.range n = List.range (size + (n - size)) := by rw [show size + (n - size) = n by omega]
      rw [this, List.range_add]
      rfl
    · rw [Nat.min_eq_right (by omega), show n - size = 0 by omega]
      simp [up]
  rw [e1] at h
  exact h
def AnySp (call : Nat → List D → Option (D × List D)) (ia : Nat) : Prop := ∀ (d : D) (c : Int) (size n : Nat), Box c d → c < 800000000000 → 0 < size → size ≤ 100 → n ≤ 100 → ∃ (row : List Nat) (d' : D), call ia [d, .int size, .int n] = some (tN row, [d']) ∧ row.Perm (List.range n) ∧ Box (c + 300) d'
theorem any_run {it ir ig ip : Nat} (hit : io it = [0]) (hir : io ir = [0]) (hig : io ig = [0]) (hip : io ip = [0]) (TS : TakeSp call it) (RS : RowSp call ir) (GS : GivenSp call ig) (PS : PickSp call ip) {d : D} {c : Int} {size n : Nat} (hb : Box c d) (hc : c < 800000000000) (hs : 0 < size) (hs2 : size ≤ 100) (hn : n ≤ 100) :
    ∃ (row : List Nat) (d' : D), runF ⟨call, io, [0]⟩ (f_law_any it ir ig ip) [d, .int size, .int n] = some (tN row, [d']) ∧ row.Perm (List.range n) ∧ Box (c + 300) d' := by
  obtain ⟨r0, d1, g1, h1, b1⟩ := tkI TS d c 4 hb (by omega) (by omega) (by omega)
  obtain ⟨x0, rfl, f0, _⟩ := box_lst hb
  obtain ⟨x1, rfl, f1, t1⟩ := box_lst b1
  obtain ⟨dd, outs, e, P⟩ : ∃ d outs, runF ⟨call, io, [0]⟩ (f_law_any it ir ig ip) [.lst true x0, .int size, .int n] = some (d, outs) ∧ ∃ (row : List Nat) (d' : D), d = tN row ∧ outs = [d'] ∧ row.Perm (List.range n) ∧ Box (c + 300) d' := by
    refine W.def (f := f_law_any it ir ig ip) (P := fun d outs => ∃ (row : List Nat) (d' : D), d = tN row ∧ outs = [d'] ∧ row.Perm (List.range n) ∧ Box (c + 300) d') (δ0 := [some (.lst true x0), some (.int size), some (.int n), none, none, none]) rfl rfl ?_
    refine W.cons (by simp [hit, ioOf, backOf, g1]; rfl) ?_
    by_cases hz : r0 = 0
    · obtain ⟨row, d2, g2, p2, b2⟩ := RS _ _ n b1 (by omega) hn
      obtain ⟨x2, rfl, f2, t2⟩ := box_lst b2
      have f3 := nts_fz row
      subst hz
      refine W.ifT (by simp [plain]; rfl) ?_
      refine W.ret (d := tN row) (δ1 := [some (.lst true x2), some (.int size), some (.int n), some (.int 0), none, none]) (by simp [hir, ioOf, backOf, g2]) ?_
      exact ⟨[.lst true x2], by simp [f_law_any, outsOf, flatOwn, t2], row, _, rfl, rfl, p2, b2.mono (by omega)⟩
    · have z0 : ((r0 : Int) == 0) = false := by rw [show ((r0 : Int) == 0) = (r0 == 0) from nat_beq r0 0, beq_eq_false_iff_ne]; exact hz
      refine W.skip (by simp [plain, z0]; rfl) ?_
      obtain ⟨s', hs', hsl, hsu⟩ : ∃ s' : Nat, (size : Int) + (if ((r0 : Int) == 2) = true then 1 else 0) = (s' : Int) ∧ 0 < s' ∧ s' ≤ 101 := by
        by_cases h2 : (r0 : Int) == 2
        · exact ⟨size + 1, by rw [if_pos h2]; omega, by omega, by omega⟩
        · exact ⟨size, by rw [if_neg h2]; omega, by omega, by omega⟩
      obtain ⟨cs, row, d2, g2, p2, v2, l2, b2⟩ := GS _ _ s' n b1 (by omega) (by omega) (by omega) hn
      obtain ⟨x2, rfl, f2, t2⟩ := box_lst b2
      have f3 := nts_fz row
      have pr := rowM_perm hsl l2 p2
      have lr : row.length = n := by have := pr.length_eq; simpa using this
      refine W.cons (δ1 := [some (.lst true x2), some (.int size), some (.int n), some (.int r0), some (.lst true (row.map nt)), none]) ?_ ?_
      · by_cases h2 : (r0 : Int) == 2
        · rw [if_pos h2] at hs'
          simp [plain, h2, hig, ioOf, backOf, hs', g2, items, f3]
        · rw [if_neg h2] at hs'
          rw [Bool.not_eq_true] at h2
          have hs'' : s' = size := by omega
          subst hs''
          simp [plain, h2, hig, ioOf, backOf, g2, items, f3]
      refine W.seq (Q' := fun r => ∃ (x : List D) (row' : List Nat) (a5 : Option D), r = .nx [some (.lst true x), some (.int size), some (.int n), some (.int r0), some (.lst true (row'.map nt)), a5] ∧ row'.Perm (List.range n) ∧ Box (c + 300) (.lst true x)) ?_ ?_
      · by_cases h3 : ((r0 : Int) == 3) = true ∧ (1 : Int) < n
        · obtain ⟨h3, h4⟩ := h3
          obtain ⟨l, rest, d3, g3, p3, l3, b3⟩ := PS _ _ true (List.range n) 2 b2 (by omega) (by simpa using hn) (by omega)
          obtain ⟨x3, rfl, f4, t3⟩ := box_lst b3
          rw [List.length_range] at l3
          obtain ⟨i, j, rfl⟩ : ∃ i j, l = [i, j] := by
            match l, l3 with
            | [i, j], _ => exact ⟨i, j, rfl⟩
            | [], h => simp at h; omega
            | [_], h => simp at h; omega
            | _ :: _ :: _ :: _, h => simp at h; omega
          have nd : ([i, j] ++ rest).Nodup := p3.nodup_iff.mpr List.nodup_range
          have ne : i ≠ j := by simp at nd; exact nd.1.1
          have hi : i < n := by have : i ∈ List.range n := p3.subset (by simp); simpa using this
          have hj : j < n := by have : j ∈ List.range n := p3.subset (by simp); simpa using this
          have ii : row[i]? = some (row[i]'(by omega)) := List.getElem?_eq_getElem (by omega)
          have jj : row[j]? = some (row[j]'(by omega)) := List.getElem?_eq_getElem (by omega)
          have sp := swap_perm ii jj ne
          have ixi := ixN_nat (n := row.length) (c := i) (by omega)
          have ixj := ixN_nat (n := row.length) (c := j) (by omega)
          have lc : n ≤ cap := by unfold cap; omega
          have rn := rangeOf1 (t := n) (by omega)
          rw [rangeD_up0'] at rn
          have g3' : call ip [.lst true x2, .lst true ((List.range n).map nt), .int 2] = some (.lst true [nt i, nt j], [.lst true x3]) := g3
          generalize row[i]'(by omega) = a at *
          generalize row[j]'(by omega) = b at *
          refine W.ifT (by simp [plain, h3, h4]; rfl) ?_
          refine W.cons (by simp [rn, lc, hip, ioOf, backOf, g3']; rfl) ?_
          refine W.cons (δ1 := [some (.lst true x3), some (.int size), some (.int n), some (.int r0), some (.lst true ((swapL row i j a b).map nt)), some (.lst true [nt i, nt j])]) ?_ (W.nil (W.nil ⟨x3, swapL row i j a b, _, rfl, sp.trans pr, b3.mono (by omega)⟩))
          unfold swapL
          rw [List.map_set, List.map_set]
          have e20 : ixN 2 0 = some 0 := rfl
          have e21 : ixN 2 1 = some 1 := rfl
          simp [f3, e20, e21, ixi, ixj, ii, jj, cap]
        · refine W.skip (δ1 := [some (.lst true x2), some (.int size), some (.int n), some (.int r0), some (.lst true (row.map nt)), none]) ?_ (W.nil ⟨x2, row, none, rfl, pr, b2.mono (by omega)⟩)
          by_cases h4 : ((r0 : Int) == 3) = true
          · have h5 : ¬ (1 : Int) < n := fun h => h3 ⟨h4, h⟩
            simp [plain, h4, h5]
          · rw [Bool.not_eq_true] at h4
            simp [plain, h4]
      · rintro _ ⟨x, row', a5, rfl, p', b'⟩
        have f5 := nts_fz row'
        obtain ⟨fx, tx⟩ := box_fz b'
        refine W.ret (d := tN row') (δ1 := [some (.lst true x), some (.int size), some (.int n), some (.int r0), some (.lst true (row'.map nt)), a5]) (by simp [f5, items]) ?_
        exact ⟨[.lst true x], by simp [f_law_any, outsOf, flatOwn, tx], row', _, rfl, rfl, p', b'⟩
  obtain ⟨row, d', rfl, rfl, h1, h2⟩ := P
  exact ⟨row, d', e, h1, h2⟩
/-! .. of an own list -/
theorem too_runO {it size : Nat} {row : List Nat} (hit : io it = []) (ht : call it [.lst false (row.map nt)] = some (tN row, [])) : runF ⟨call, io, []⟩ (f_too_early it) [.int size, .lst true (row.map nt)] = some (optN (tooM size row), []) := by
  obtain ⟨δ', h⟩ := too_loop (call := call) (io := io) (size := size) (d := some (.lst false (row.map nt))) row 0 none none
  have f := nts_fz row
  have q := nts_frz row
  have hi : evIt ⟨call, io, []⟩ 98 .enum [(.call it [(.var 1)])] [some (.int size), some (.lst true (row.map nt)), none, none] = some (enumD 0 (row.map nt), [some (.int size), some (.lst false (row.map nt)), none, none]) := by
    simp [hit, ioOf, valOf, backOf, ht, f, q, isAtom]
  unfold tooM
  cases he : tooGo size 0 row with
  | none =>
    rw [he] at h
    refine runF_rt (f := f_too_early it) (δ0 := [some (.int size), some (.lst true (row.map nt)), none, none]) rfl rfl (δ := δ') ?_ (by simp [f_too_early])
    refine (evSs_cons _ 99 _ _ _ (evS_for _ 98 _ _ _ _ _ (by simpa using hi) h)).trans ?_
    exact evSs_ret _ 97 _ _ _ (by simp [optN])
  | some j =>
    rw [he] at h
    refine runF_rt (f := f_too_early it) (δ0 := [some (.int size), some (.lst true (row.map nt)), none, none]) rfl rfl (δ := δ') ?_ (by simp [f_too_early])
    exact evSs_stop _ 99 _ _ _ (evS_for _ 98 _ _ _ _ _ (by simpa using hi) h)
theorem can_runO {it size : Nat} {row : List Nat} (hit : io it = []) (ht : call it [.int size, .lst false (row.map nt)] = some (optN (tooM size row), [])) : runF ⟨call, io, []⟩ (f_can_come it) [.int size, .lst true (row.map nt)] = some (.bl (tooM size row).isNone, []) := by
  have e : isNon (optN (tooM size row)) = (tooM size row).isNone := by cases tooM size row <;> rfl
  have f := nts_fz row
  have q := nts_frz row
  refine W.run (δ0 := [some (.int size), some (.lst true (row.map nt))]) rfl rfl ?_
  cases ho : tooM size row with
  | none =>
    rw [ho] at ht
    refine W.ret (d := .bl true) (δ1 := [some (.int size), some (.lst true (row.map nt))]) ?_ (retP rfl rfl)
    simp [hit, ht, f, q, cmpD, isAtom, optN, isNon]
  | some j =>
    rw [ho] at ht
    refine W.ret (d := .bl false) (δ1 := [some (.int size), some (.lst true (row.map nt))]) ?_ (retP rfl rfl)
    simp [hit, ht, f, q, cmpD, isAtom, optN, isNon]
theorem least_runO {it : Nat} {row : List Nat} (hit : io it = []) (ht : call it [.lst false (row.map nt)] = some (tN row, [])) (hl : row.length ≤ 1000) : runF ⟨call, io, []⟩ (f_least_size it) [.lst true (row.map nt)] = some (.int (leastI row), []) := by
  have f := nts_fz row
  have q := nts_frz row
  have elc : ∀ m, evE ⟨call, io, []⟩ (m + 20) (.lc (.bin .sub (.var 2) (.var 1)) (.tp [1, 2]) .enum [(.call it [(.var 0)])] [] [1, 2]) [some (.lst true (row.map nt)), none, none] = some (.tmp (.lst true ((diffsI 0 row).map .int)), [some (.lst false (row.map nt)), none, none]) := fun m => by
    rw [← enum_sub]
    refine ev_lcG (C := ⟨call, io, []⟩) (n := m + 19) (δ := [some (.lst false (row.map nt)), none, none]) (xs := enumD 0 (row.map nt)) (f := subF) (by simp [hit, ht, f, q, isAtom]) rfl (by rw [enumD_len, List.length_map]; unfold cap; omega) rfl (fun x hx => ?_) (by omega)
    obtain ⟨j, y, rfl⟩ := enum_mem hx
    exact ⟨[some (.lst false (row.map nt)), some (nt j), some (nt y)], [some (.lst false (row.map nt)), some (nt j), some (nt y)], by simp [wipeD], by simp [subF], by simp [wipeD]⟩
  refine W.run (δ0 := [some (.lst true (row.map nt)), none, none]) rfl rfl ?_
  refine W.ret (d := .int (leastI row)) (δ1 := [some (.lst false (row.map nt)), none, none]) ?_ (retP rfl rfl)
  have i := intsOf_ints (diffsI 0 row)
  unfold leastI
  generalize diffsI 0 row = l at *
  cases l with
  | nil =>
    simp only [List.map_nil] at i elc
    simp [elc, -qevE_lc, i]
  | cons x xs =>
    simp only [List.map_cons] at i elc
    simp [elc, -qevE_lc, i]
end
end Ev.Bu

set_option linter.all false
set_option maxRecDepth 100000
set_option maxHeartbeats 4000000
/-! MR: rows made by a rule -/
namespace Ev.Ro
open PySem Ev Ev.Bu Ev.U
inductive Rule where
  | plain | keys (a b m : Nat) | swaps (a b : Nat) | buffer (s a b : Nat)
  deriving DecidableEq
abbrev sPlain : Str := "plain"
abbrev sKeys : Str := "keys"
abbrev sSwaps : Str := "swaps"
abbrev sBuffer : Str := "buffer"
def Rule.w : Rule → Str
  | .plain => sPlain | .keys .. => sKeys | .swaps .. => sSwaps | .buffer .. => sBuffer
def Rule.ns : Rule → List Nat
  | .plain => [] | .keys a b m => [a, b, m] | .swaps a b => [a, b] | .buffer s a b => [s, a, b]
def Rule.d (r : Rule) : D := .tup (.str r.w :: r.ns.map nt)
def Rule.ok : Rule → Prop
  | .plain => True
  | .keys a b m => a ≤ 1000 ∧ b ≤ 1000 ∧ 0 < m ∧ m ≤ 1000
  | .swaps a b => a ≤ 1000 ∧ b ≤ 1000
  | .buffer s a b => 0 < s ∧ s ≤ 1000 ∧ a ≤ 1000 ∧ b ≤ 1000
def keysM (a b m : Nat) (l : List Nat) (lap : Nat) : List Nat := (sortQ (l.map fun x => ((a * x + b * lap) % m, x))).map (·.2)
def swapN (l : List Nat) (p o : Nat) : List Nat := (l.set p (l.getD o 0)).set o (l.getD p 0)
def downs (n : Nat) : List Nat := (List.range (n - 1)).map fun k => n - 1 - k
def swapsM (a b : Nat) (l : List Nat) (lap : Nat) : List Nat := (downs l.length).foldl (fun row p => swapN row p ((a * p + b * lap) % (p + 1))) l
structure Buf where
  slots : List Nat
  rest : List Nat
  row : List Nat
def bufStep (a b lap : Nat) (s : Buf) (k : Nat) : Buf :=
  let j := (a * k + b * lap) % s.slots.length
  match s.rest with
  | x :: xs => ⟨s.slots.set j x, xs, s.row ++ [s.slots.getD j 0]⟩
  | [] => ⟨s.slots.eraseIdx j, [], s.row ++ [s.slots.getD j 0]⟩
def bufferM (s a b : Nat) (l : List Nat) (lap : Nat) : List Nat := ((List.range l.length).foldl (bufStep a b lap) ⟨l.take s, l.drop s, []⟩).row
def rowM : Rule → List Nat → Nat → List Nat
  | .plain, l, _ => l
  | .keys a b m, l, lap => keysM a b m l lap
  | .swaps a b, l, lap => swapsM a b l lap
  | .buffer s a b, l, lap => bufferM s a b l lap
/-! each is a rearrangement -/
theorem insQ_perm (x : Nat × Nat) : ∀ ys, (insQ x ys).Perm (x :: ys)
  | [] => .refl _
  | y :: ys => by
    unfold insQ
    split
    · exact ((insQ_perm x ys).cons y).trans (.swap x y ys)
    · exact .refl _
theorem sortQ_perm : ∀ xs, (sortQ xs).Perm xs
  | [] => .refl _
  | x :: xs => (insQ_perm x (sortQ xs)).trans ((sortQ_perm xs).cons x)
theorem keys_perm (a b m : Nat) (l : List Nat) (lap : Nat) : (keysM a b m l lap).Perm l := by
  unfold keysM
  refine ((sortQ_perm _).map _).trans ?_
  rw [List.map_map]
  have : ((fun p : Nat × Nat => p.2) ∘ fun x => ((a * x + b * lap) % m, x)) = id := rfl
  rw [this, List.map_id]
theorem swapN_len (l : List Nat) (p o : Nat) : (swapN l p o).length = l.length := by simp [swapN]
theorem swapN_perm (l : List Nat) {p o : Nat} (hp : p < l.length) (ho : o < l.length) : (swapN l p o).Perm l := by
  unfold swapN
  rw [List.getD_eq_getElem?_getD, List.getD_eq_getElem?_getD, List.getElem?_eq_getElem hp, List.getElem?_eq_getElem ho]
  exact List.set_set_perm hp ho
theorem swaps_fold (a b lap : Nat) : ∀ (ps : List Nat) (l : List Nat), (∀ p ∈ ps, p < l.length) → (ps.foldl (fun row p => swapN row p ((a * p + b * lap) % (p + 1))) l).Perm l
  | [], l, _ => .refl _
  | p :: ps, l, h => by
    have hp := h p (by simp)
    have ho : (a * p + b * lap) % (p + 1) < l.length := Nat.lt_of_lt_of_le (Nat.mod_lt _ (by omega)) (by omega)
    exact (swaps_fold a b lap ps _ fun q hq => by rw [swapN_len]; exact h q (List.mem_cons_of_mem _ hq)).trans (swapN_perm l hp ho)
theorem mem_downs {n p : Nat} (h : p ∈ downs n) : 0 < p ∧ p < n := by
  unfold downs at h
  obtain ⟨k, hk, rfl⟩ := List.mem_map.mp h
  have := List.mem_range.mp hk
  omega
theorem swaps_perm (a b : Nat) (l : List Nat) (lap : Nat) : (swapsM a b l lap).Perm l := swaps_fold a b lap _ l fun p hp => (mem_downs hp).2
/-- what a buffer holds -/
def BufI (l : List Nat) (k : Nat) (s : Buf) : Prop := (s.row ++ (s.slots ++ s.rest)).Perm l ∧ s.row.length = k ∧ (s.slots = [] → s.rest = [])
theorem set_perm_cons : ∀ {l : List Nat} {j x : Nat} (h : j < l.length), (l[j] :: l.set j x).Perm (x :: l)
  | [], j, x, h => by simp at h
  | y :: l, 0, x, h => by simpa using List.Perm.swap x y l
  | y :: l, j + 1, x, h => by
    simp only [List.length_cons] at h
    simp only [List.getElem_cons_succ, List.set_cons_succ]
    have ih := set_perm_cons (l := l) (j := j) (x := x) (by omega)
    exact (List.Perm.swap _ _ _).trans ((ih.cons y).trans (List.Perm.swap _ _ _))
theorem buf_step {a b lap k : Nat} {l : List Nat} {s : Buf} (i : BufI l k s) (hk : k < l.length) : BufI l (k + 1) (bufStep a b lap s k) := by
  obtain ⟨p, h1, h2⟩ := i
  have ln := p.length_eq
  rw [List.length_append, List.length_append, h1] at ln
  have h0 : 0 < s.slots.length := by
    cases e : s.slots with
    | nil => rw [e, h2 e] at ln; simp at ln; omega
    | cons _ _ => simp
  have hj : (a * k + b * lap) % s.slots.length < s.slots.length := Nat.mod_lt _ h0
  obtain ⟨slots, rest, row⟩ := s
  simp only at *
  unfold bufStep
  simp only
  generalize (a * k + b * lap) % slots.length = j at *
  have g : slots.getD j 0 = slots[j] := by rw [List.getD_eq_getElem?_getD, List.getElem?_eq_getElem hj]; rfl
  cases rest with
  | nil =>
    simp only [g]
    refine ⟨?_, by simp [h1], fun _ => rfl⟩
    refine List.Perm.trans ?_ p
    rw [List.append_assoc]
    refine List.Perm.append_left _ ?_
    simp only [List.append_nil, List.singleton_append]
    exact (perm_eraseIdx (List.getElem?_eq_getElem hj)).symm
  | cons x xs =>
    simp only [g]
    refine ⟨?_, by simp [h1], fun h => ?_⟩
    · refine List.Perm.trans ?_ p
      rw [List.append_assoc]
      refine List.Perm.append_left _ ?_
      have := (set_perm_cons (x := x) hj).append_right xs
      simp only [List.cons_append, List.singleton_append] at this ⊢
      exact this.trans List.perm_middle.symm
    · have := congrArg List.length h
      rw [List.length_set] at this
      simp at this
      rw [this] at h0
      simp at h0
theorem buf_fold {a b lap : Nat} {l : List Nat} : ∀ (n k : Nat) (s : Buf), k + n ≤ l.length → BufI l k s → BufI l (k + n) (((List.range n).map (· + k)).foldl (bufStep a b lap) s)
  | 0, k, s, _, i => i
  | n + 1, k, s, h, i => by
    have e : (List.range (n + 1)).map (· + k) = k :: (List.range n).map (· + (k + 1)) := by
      rw [List.range_succ_eq_map, List.map_cons, List.map_map]
      simp only [Nat.zero_add, List.cons.injEq, true_and]
      apply List.map_congr_left
      intro x _
      simp only [Function.comp]
      omega
    rw [e, List.foldl_cons, show k + (n + 1) = k + 1 + n by omega]
    exact buf_fold n (k + 1) _ (by omega) (buf_step i (by omega))
theorem buf_start (s : Nat) (hs : 0 < s) (l : List Nat) : BufI l 0 ⟨l.take s, l.drop s, []⟩ := by
  refine ⟨by simp, rfl, fun h => ?_⟩
  simp only at h ⊢
  have := congrArg List.length h
  rw [List.length_take] at this
  simp only [List.length_nil] at this
  rw [List.drop_eq_nil_iff]
  omega
theorem buf_end {l : List Nat} {s : Buf} (i : BufI l l.length s) : s.row.Perm l := by
  obtain ⟨p, h1, _⟩ := i
  have ln := p.length_eq
  rw [List.length_append, h1] at ln
  have : s.slots ++ s.rest = [] := List.eq_nil_of_length_eq_zero (by omega)
  rwa [this, List.append_nil] at p
theorem buffer_perm {s : Nat} (hs : 0 < s) (a b : Nat) (l : List Nat) (lap : Nat) : (bufferM s a b l lap).Perm l := by
  unfold bufferM
  have := buf_fold (a := a) (b := b) (lap := lap) l.length 0 _ (by omega) (buf_start s hs l)
  simp only [Nat.add_zero, List.map_id', Nat.zero_add] at this
  exact buf_end this
theorem rowM_perm {r : Rule} (h : r.ok) (l : List Nat) (lap : Nat) : (rowM r l lap).Perm l := by
  cases r with
  | plain => exact .refl _
  | keys a b m => exact keys_perm ..
  | swaps a b => exact swaps_perm ..
  | buffer s a b => exact buffer_perm h.1 ..
theorem rowM_len {r : Rule} (h : r.ok) (l : List Nat) (lap : Nat) : (rowM r l lap).length = l.length := (rowM_perm h l lap).length_eq
end Ev.Ro

set_option linter.all false
set_option maxRecDepth 100000
set_option maxHeartbeats 4000000
/-! MRb: the runs of the rows -/
namespace Ev.Ro
open PySem Ev Ev.Bu Ev.U Ev.Ch
def f_plain_row : Fn := { n := 3, ps := 3, io := [], body := [.ret (.bi .list1 [(.var 0)])] }
def f_keys_row : Fn := { n := 10, ps := 3, io := [], body := [.asg (.tp [4, 5, 6, 7]) (.var 2),
    .asg (.nm 3) (.lc (.tup [(.bin .mod (.bin .add (.bin .mul (.var 5) (.var 8)) (.bin .mul (.var 6) (.var 1))) (.var 7)), (.var 8)]) (.nm 8) .val [(.var 0)] [] [8]),
    .ret (.lc (.var 8) (.tp [9, 8]) .val [(.bi .sorted1 [(.var 3)])] [] [8, 9])] }
def f_swaps_row : Fn := { n := 9, ps := 3, io := [], body := [.asg (.tp [5, 6, 7]) (.var 2),
    .asg (.nm 3) (.bi .list1 [(.var 0)]),
    .for_ (.nm 4) .range [(.bin .sub (.bi .len [(.var 3)]) (.int 1)), (.int 0), (.neg (.int 1))] [.asg (.nm 8) (.bin .mod (.bin .add (.bin .mul (.var 6) (.var 4)) (.bin .mul (.var 7) (.var 1))) (.bin .add (.var 4) (.int 1))),
    .swapIx (.var 3) (.var 4) (.var 3) (.var 8) (.tup [(.sub (.var 3) (.var 8)), (.sub (.var 3) (.var 4))])],
    .ret (.var 3)] }
def f_buffer_row : Fn := { n := 12, ps := 3, io := [], body := [.asg (.tp [4, 5, 6, 7]) (.var 2),
    .par [8, 9, 10] [(.bi .list1 [(.slice (.var 0) none (some (.var 5)))]), (.bi .list1 [(.slice (.var 0) (some (.var 5)) none)]), (.lst [])],
    .for_ (.nm 3) .range [(.bi .len [(.var 0)])] [.asg (.nm 11) (.bin .mod (.bin .add (.bin .mul (.var 6) (.var 3)) (.bin .mul (.var 7) (.var 1))) (.bi .len [(.var 8)])),
    .expr (.meth .append (.var 10) [(.sub (.var 8) (.var 11))]),
    .ifs (.cmp .gt (.bi .len [(.var 9)]) (.int 0)) [.setIx (.var 8) (.var 11) (.meth .popAt (.var 9) [(.int 0)])] [.expr (.meth .popAt (.var 8) [(.var 11)])]],
    .ret (.var 10)] }
section
variable {call : Nat → List D → Option (D × List D)} {io : Nat → List Nat}
theorem plain_run (l : List Nat) (lap : Nat) : runF ⟨call, io, []⟩ f_plain_row [tN l, .int lap, Rule.plain.d] = some (.lst true (l.map nt), []) := by
  refine runF_rt (δ0 := [some (tN l), some (.int lap), some Rule.plain.d]) (d := .lst true (l.map nt)) (δ := [some (tN l), some (.int lap), some Rule.plain.d]) (outs := []) rfl rfl ?_ rfl
  have f1 := nts_fz l
  simp [f_plain_row, items, f1]
theorem prs_map : ∀ l : List (Nat × Nat), prsOf (l.map pairD) = some l
  | [] => rfl
  | p :: l => by
    show (prsOf (l.map pairD)).map (fun ps => (p.1, p.2) :: ps) = _
    rw [prs_map l]
    rfl
theorem ints_prs : ∀ l : List (Nat × Nat), l ≠ [] → intsOf (l.map pairD) = none
  | [], h => absurd rfl h
  | p :: l, _ => rfl
theorem sorted_prs (o : Bool) (l : List (Nat × Nat)) : biD .sorted1 [.lst o (l.map pairD)] = some (.lst true ((sortQ l).map pairD)) := by
  rw [qbi_sort1]
  cases l with
  | nil => rfl
  | cons p l =>
    rw [ints_prs _ (by simp), prs_map]
theorem keys_run {a b m : Nat} {l : List Nat} {lap : Nat} (hr : (Rule.keys a b m).ok) (hl : l.length ≤ 1000) (hx : ∀ x ∈ l, x ≤ 1000) (hlap : lap ≤ 1000) : runF ⟨call, io, []⟩ f_keys_row [tN l, .int lap, (Rule.keys a b m).d] = some (.lst true ((keysM a b m l lap).map nt), []) := by
  obtain ⟨ha, hb, hm, hm2⟩ := hr
  have f1 := nts_fz l
  have q1 := nts_frz l
  refine W.run (f := f_keys_row) (δ0 := [some (tN l), some (.int lap), some (Rule.keys a b m).d, none, none, none, none, none, none, none]) rfl rfl ?_
  refine W.cons (δ1 := [some (tN l), some (.int lap), some (Rule.keys a b m).d, none, some (.str sKeys), some (.int a), some (.int b), some (.int m), none, none]) (by simp [Rule.d, Rule.ns, Rule.w]) ?_
  generalize (Rule.keys a b m).d = dr
  have e1 : ∀ k, evE ⟨call, io, []⟩ (k + 30) (.lc (.tup [(.bin .mod (.bin .add (.bin .mul (.var 5) (.var 8)) (.bin .mul (.var 6) (.var 1))) (.var 7)), (.var 8)]) (.nm 8) .val [(.var 0)] [] [8]) [some (tN l), some (.int lap), some dr, none, some (.str sKeys), some (.int a), some (.int b), some (.int m), none, none] =
      some (.tmp (.lst true ((l.map fun x => ((a * x + b * lap) % m, x)).map pairD)), [some (tN l), some (.int lap), some dr, none, some (.str sKeys), some (.int a), some (.int b), some (.int m), none, none]) := fun k => by
    refine (ev_lc (C := ⟨call, io, []⟩) (n := k + 29) (v := 8) (f := fun d => match d with
      | .int z => pairD ((a * z.toNat + b * lap) % m, z.toNat)
      | _ => .non) (xs := l.map nt) (δ := [some (tN l), some (.int lap), some dr, none, some (.str sKeys), some (.int a), some (.int b), some (.int m), none, none]) rfl (by simp [f1, q1]) (by simp) (by simp [ownFz]) (by simp [cap]; omega) (fun x hx2 => ?_) (by omega)).trans ?_
    · obtain ⟨y, hy, rfl⟩ := List.mem_map.mp hx2
      have hy := hx y hy
      have sa := sm64n (t := a) (by omega)
      have sb := sm64n (t := b) (by omega)
      simp [pairD, sa, sb, hm, cap]
    · simp [List.map_map, Function.comp_def]
  have e2 := sorted_prs true (l.map fun x => ((a * x + b * lap) % m, x))
  unfold keysM
  have e3 := sortQ_perm (l.map fun x => ((a * x + b * lap) % m, x))
  have ln := e3.length_eq
  rw [List.length_map] at ln
  generalize sortQ (l.map fun x => ((a * x + b * lap) % m, x)) = s at *
  generalize (l.map fun x => ((a * x + b * lap) % m, x)) = ps at *
  have f2 : fzs (ps.map pairD) = true := by
    clear e1 e2 e3 ln
    induction ps with
    | nil => rfl
    | cons p ps ih => simp only [List.map_cons, fzs, ih]; rfl
  have f3 : fzs (s.map pairD) = true := by
    clear e1 e2 e3 ln
    induction s with
    | nil => rfl
    | cons p ps ih => simp only [List.map_cons, fzs, ih]; rfl
  have q3 : frzs (s.map pairD) = s.map pairD := by
    clear e1 e2 e3 ln f3
    induction s with
    | nil => rfl
    | cons p ps ih => simp only [List.map_cons, frzs, ih]; rfl
  refine W.cons (δ1 := [some (tN l), some (.int lap), some dr, some (.lst true (ps.map pairD)), some (.str sKeys), some (.int a), some (.int b), some (.int m), none, none]) (by simp [-qevE_lc, e1]) ?_
  refine W.ret (d := .lst true ((s.map pairD).map fun d => match d with
      | .tup [_, y] => y
      | _ => .non)) (δ1 := [some (tN l), some (.int lap), some dr, some (.lst true (ps.map pairD)), some (.str sKeys), some (.int a), some (.int b), some (.int m), none, none]) (ev_lcG (C := ⟨call, io, []⟩) (xs := s.map pairD) (by simp [e2, f2, f3, q3]) (by simp [ownFz]) (by simp [cap]; omega) (by simp [restD, wipeD]) (fun x hx => ?_) (by omega)) ⟨_, by rw [List.map_map, List.map_map]; rfl, rfl⟩
  obtain ⟨p, _, rfl⟩ := List.mem_map.mp hx
  exact ⟨_, _, rfl, by simp [pairD, wipeD]; rfl, by simp [wipeD]⟩
theorem rangeD_dn : ∀ (m j : Nat), rangeD (((m + j : Nat) : Int)) (-1) m = ((List.range m).map fun k => m + j - k).map nt
  | 0, j => rfl
  | m + 1, j => by
    rw [rangeD, show (((m + 1 + j : Nat) : Int) + -1) = ((m + j : Nat) : Int) by omega, rangeD_dn m j, List.range_succ_eq_map]
    simp only [List.map_cons, List.map_map, Nat.sub_zero]
    congr 1
    apply List.map_congr_left
    intro k _
    simp only [Function.comp, Nat.succ_eq_add_one, D.int.injEq]
    omega
theorem rangeOf_downs {n : Nat} (h : n ≤ 1000) : rangeOf [.int ((n : Int) - 1), .int 0, .int (-1)] = some ((downs n).map nt) := by
  have f1 : fits9 ((n : Int) - 1) = true := by
    cases n with
    | zero => decide +kernel
    | succ n => rw [show (((n + 1 : Nat) : Int) - 1) = (n : Int) by omega]; show Nat.ble n 1000000000 = true; rw [Nat.ble_eq]; omega
  have f2 : fits9 (-1) = true := by decide +kernel
  have f3 : fits9 0 = true := by decide +kernel
  have rn : rangeN ((n : Int) - 1) 0 (-1) = n - 1 := by
    unfold rangeN Builtin.Range.rangeSize
    rw [if_neg (by omega)]
    split
    · rw [show (n : Int) - 1 - 0 - 1 = (n : Int) - 2 by omega, show (-(-1 : Int)) = 1 by rfl, Int.ediv_one]
      omega
    · omega
  have e : rangeOf [.int ((n : Int) - 1), .int 0, .int (-1)] = if ((fits9 ((n : Int) - 1) && fits9 0 && fits9 (-1)) && decide ((-1 : Int) ≠ 0) && decide ((-1 : Int).natAbs < 1000000)) = true then some (rangeD ((n : Int) - 1) (-1) (rangeN ((n : Int) - 1) 0 (-1))) else none := by unfold rangeOf; rfl
  rw [e, f1, f2, f3, rn]
  have ed : rangeD ((n : Int) - 1) (-1) (n - 1) = (downs n).map nt := by
    cases n with
    | zero => rfl
    | succ n =>
      have := rangeD_dn n 0
      rw [show (((n + 1 : Nat) : Int) - 1) = ((n + 0 : Nat) : Int) by omega, show n + 1 - 1 = n by omega, this]
      rfl
  rw [ed]
  rfl
abbrev swStep (a b lap : Nat) (row : List Nat) (p : Nat) : List Nat := swapN row p ((a * p + b * lap) % (p + 1))
theorem sw_len (a b lap : Nat) : ∀ (ps : List Nat) (l : List Nat), (ps.foldl (swStep a b lap) l).length = l.length
  | [], l => rfl
  | p :: ps, l => by rw [List.foldl_cons, sw_len a b lap ps, swapN_len]
theorem set_nts (l : List Nat) (i x : Nat) : (l.map nt).set i (nt x) = (l.set i x).map nt := by rw [List.map_set]
theorem get_nts {l : List Nat} {i : Nat} (h : i < l.length) : (l.map nt)[i]? = some (nt (l.getD i 0)) := by
  rw [List.getElem?_map, List.getElem?_eq_getElem h, List.getD_eq_getElem?_getD, List.getElem?_eq_getElem h]
  rfl
theorem swaps_run {a b : Nat} {l : List Nat} {lap : Nat} (hr : (Rule.swaps a b).ok) (hl : l.length ≤ 1000) (hlap : lap ≤ 1000) : runF ⟨call, io, []⟩ f_swaps_row [tN l, .int lap, (Rule.swaps a b).d] = some (.lst true ((swapsM a b l lap).map nt), []) := by
  obtain ⟨ha, hb⟩ := hr
  have f1 := nts_fz l
  have q1 := nts_frz l
  have sa := sm64n (t := a) (by omega)
  have sb := sm64n (t := b) (by omega)
  have rd := rangeOf_downs (n := l.length) (by omega)
  refine W.run (f := f_swaps_row) (δ0 := [some (tN l), some (.int lap), some (Rule.swaps a b).d, none, none, none, none, none, none]) rfl rfl ?_
  refine W.cons (δ1 := [some (tN l), some (.int lap), some (Rule.swaps a b).d, none, none, some (.str sSwaps), some (.int a), some (.int b), none]) (by simp [Rule.d, Rule.ns, Rule.w]) ?_
  generalize (Rule.swaps a b).d = dr
  refine W.cons (δ1 := [some (tN l), some (.int lap), some dr, some (.lst true (l.map nt)), none, some (.str sSwaps), some (.int a), some (.int b), none]) (by simp [f1, items]) ?_
  refine W.for (fun pre δ => ∃ a4 a8 : Option D, δ = [some (tN l), some (.int lap), some dr, some (.lst true ((pre.foldl (swStep a b lap) l).map nt)), a4, some (.str sSwaps), some (.int a), some (.int b), a8]) nt (downs l.length) (δ1 := [some (tN l), some (.int lap), some dr, some (.lst true (l.map nt)), none, some (.str sSwaps), some (.int a), some (.int b), none]) (by simp [f1, rd]) ⟨none, none, rfl⟩ ?_ ?_
  · rintro pre p post δ eq ⟨a4, a8, rfl⟩
    have hp := mem_downs (n := l.length) (p := p) (by rw [eq]; simp)
    have ln := sw_len a b lap pre l
    rw [List.foldl_append]
    simp only [List.foldl_cons, List.foldl_nil]
    generalize pre.foldl (swStep a b lap) l = row at *
    refine ⟨[some (tN l), some (.int lap), some dr, some (.lst true (row.map nt)), some (.int p), some (.str sSwaps), some (.int a), some (.int b), a8], by simp, ?_⟩
    have f2 := nts_fz row
    have ho : (a * p + b * lap) % (p + 1) < row.length := Nat.lt_of_lt_of_le (Nat.mod_lt _ (by omega)) (by omega)
    have eo : ((a : Int) * p + (b : Int) * lap) % ((p : Int) + 1) = (((a * p + b * lap) % (p + 1) : Nat) : Int) := by
      simp only [Int.natCast_emod, Int.natCast_add, Int.natCast_mul, Int.natCast_one]
    unfold swStep swapN
    generalize (a * p + b * lap) % (p + 1) = o at *
    have hp1 : (0 : Int) < (p : Int) + 1 := by omega
    refine W.cons (δ1 := [some (tN l), some (.int lap), some dr, some (.lst true (row.map nt)), some (.int p), some (.str sSwaps), some (.int a), some (.int b), some (.int o)]) (by simp [sa, sb, hp1, eo]) ?_
    have gp := get_nts (l := row) (i := p) (by omega)
    have go := get_nts (l := row) (i := o) ho
    have i1 := ixN_nat (n := row.length) (c := p) (by omega)
    have i2 := ixN_nat ho
    have s1 := sm62n (t := p) (by omega)
    have s2 := sm62n (t := o) (by omega)
    generalize row.getD p 0 = x at *
    generalize row.getD o 0 = y at *
    have st1 := set_nts row p y
    have st2 := set_nts (row.set p y) o x
    have f3 := nts_fz (row.set p y)
    refine W.cons (δ1 := [some (tN l), some (.int lap), some dr, some (.lst true (((row.set p y).set o x).map nt)), some (.int p), some (.str sSwaps), some (.int a), some (.int b), some (.int o)]) (by simp [f2, f3, gp, go, i1, i2, s1, s2, cap]; done) (W.nil ⟨_, _, rfl⟩)
  · rintro δ ⟨a4, a8, rfl⟩
    have f3 := nts_fz (swapsM a b l lap)
    show W _ _ _ [some (tN l), some (.int lap), some dr, some (.lst true ((swapsM a b l lap).map nt)), a4, some (.str sSwaps), some (.int a), some (.int b), a8] _
    refine W.retO (d := .lst true ((swapsM a b l lap).map nt)) (i := 3) (δ1 := [some (tN l), some (.int lap), some dr, some (.lst true ((swapsM a b l lap).map nt)), a4, some (.str sSwaps), some (.int a), some (.int b), a8]) (by simp [f3]) (by simp) rfl ⟨_, rfl, rfl⟩
theorem buf_pre {a b lap : Nat} {l : List Nat} {s : Nat} (hs : 0 < s) : ∀ (pre post : List Nat), List.range l.length = pre ++ post → BufI l pre.length (pre.foldl (bufStep a b lap) ⟨l.take s, l.drop s, []⟩) := by
  intro pre post e
  have hl : pre.length ≤ l.length := by
    have := congrArg List.length e
    rw [List.length_range, List.length_append] at this
    omega
  have ep : pre = (List.range pre.length).map (· + 0) := by
    have := congrArg (List.take pre.length) e
    rw [List.take_left, List.take_range] at this
    rw [Nat.min_eq_left hl] at this
    simpa using this.symm
  have := buf_fold (a := a) (b := b) (lap := lap) pre.length 0 _ (by omega) (buf_start s hs l)
  rw [← ep, Nat.zero_add] at this
  exact this
theorem buffer_run {s a b : Nat} {l : List Nat} {lap : Nat} (hr : (Rule.buffer s a b).ok) (hl : l.length ≤ 1000) (hlap : lap ≤ 1000) : runF ⟨call, io, []⟩ f_buffer_row [tN l, .int lap, (Rule.buffer s a b).d] = some (.lst true ((bufferM s a b l lap).map nt), []) := by
  obtain ⟨hs, hs2, ha, hb⟩ := hr
  have f1 := nts_fz l
  have q1 := nts_frz l
  have sa := sm64n (t := a) (by omega)
  have sb := sm64n (t := b) (by omega)
  have rd := rangeOf1 (t := l.length) (by omega)
  have cd := cutD_to nt l s
  have ce := cutD_from nt l s
  have f2 := nts_fz (l.take s)
  have f3 := nts_fz (l.drop s)
  refine W.run (f := f_buffer_row) (δ0 := [some (tN l), some (.int lap), some (Rule.buffer s a b).d, none, none, none, none, none, none, none, none, none]) rfl rfl ?_
  refine W.cons (δ1 := [some (tN l), some (.int lap), some (Rule.buffer s a b).d, none, some (.str sBuffer), some (.int s), some (.int a), some (.int b), none, none, none, none]) (by simp [Rule.d, Rule.ns, Rule.w]) ?_
  generalize (Rule.buffer s a b).d = dr
  refine W.cons (δ1 := [some (tN l), some (.int lap), some dr, none, some (.str sBuffer), some (.int s), some (.int a), some (.int b), some (.lst true ((l.take s).map nt)), some (.lst true ((l.drop s).map nt)), some (.lst true []), none]) (by simp only [List.map_take, List.map_drop] at *; simp [f1, f2, f3, cd, ce, items]; done) ?_
  refine W.for (fun pre δ => ∃ (a3 a11 : Option D) (z : Buf), z = pre.foldl (bufStep a b lap) ⟨l.take s, l.drop s, []⟩ ∧ δ = [some (tN l), some (.int lap), some dr, a3, some (.str sBuffer), some (.int s), some (.int a), some (.int b), some (.lst true (z.slots.map nt)), some (.lst true (z.rest.map nt)), some (.lst true (z.row.map nt)), a11]) nt (List.range l.length) (δ1 := [some (tN l), some (.int lap), some dr, none, some (.str sBuffer), some (.int s), some (.int a), some (.int b), some (.lst true ((l.take s).map nt)), some (.lst true ((l.drop s).map nt)), some (.lst true []), none]) (by simp [f1, rd, rangeD_up0]) ⟨none, none, _, rfl, rfl⟩ ?_ ?_
  · rintro pre k post δ eq ⟨a3, a11, z, ez, rfl⟩
    obtain ⟨rfl, hlt⟩ := range_split eq
    have i := buf_pre (a := a) (b := b) (lap := lap) (l := l) hs pre (pre.length :: post) eq
    rw [← ez] at i
    rw [List.foldl_append, ← ez]
    simp only [List.foldl_cons, List.foldl_nil]
    clear ez
    obtain ⟨p, h1, h2⟩ := i
    have ln := p.length_eq
    rw [List.length_append, List.length_append, h1] at ln
    have h0 : 0 < z.slots.length := by
      cases e : z.slots with
      | nil => rw [e, h2 e] at ln; simp at ln; omega
      | cons _ _ => simp
    generalize hk : pre.length = k at *
    obtain ⟨slots, rest, row⟩ := z
    simp only at *
    have hj : (a * k + b * lap) % slots.length < slots.length := Nat.mod_lt _ h0
    have ej : ((a : Int) * k + (b : Int) * lap) % (slots.length : Int) = (((a * k + b * lap) % slots.length : Nat) : Int) := by
      simp only [Int.natCast_emod, Int.natCast_add, Int.natCast_mul]
    refine ⟨[some (tN l), some (.int lap), some dr, some (nt k), some (.str sBuffer), some (.int s), some (.int a), some (.int b), some (.lst true (slots.map nt)), some (.lst true (rest.map nt)), some (.lst true (row.map nt)), a11], by simp, ?_⟩
    have g1 := nts_fz slots
    have g2 := nts_fz rest
    have g3 := nts_fz row
    unfold bufStep
    simp only
    generalize (a * k + b * lap) % slots.length = j at *
    refine W.cons (δ1 := [some (tN l), some (.int lap), some dr, some (nt k), some (.str sBuffer), some (.int s), some (.int a), some (.int b), some (.lst true (slots.map nt)), some (.lst true (rest.map nt)), some (.lst true (row.map nt)), some (nt j)]) (by simp [g1, sa, sb, h0, ej]) ?_
    have gj := get_nts (l := slots) (i := j) hj
    have i1 := ixN_nat hj
    have s1 := sm62n (t := j) (by omega)
    have l1 : row.length < cap := by unfold cap; omega
    have er := eraseIdx_mapN nt slots j
    generalize slots.getD j 0 = y at *
    have ra : row.map nt ++ [nt y] = (row ++ [y]).map nt := by simp
    refine W.cons (δ1 := [some (tN l), some (.int lap), some dr, some (nt k), some (.str sBuffer), some (.int s), some (.int a), some (.int b), some (.lst true (slots.map nt)), some (.lst true (rest.map nt)), some (.lst true ((row ++ [y]).map nt)), some (nt j)]) (by simp [g1, g2, g3, gj, i1, s1, methX, methD, isLst, noPath, l1]) ?_
    have g4 := nts_fz (row ++ [y])
    generalize row ++ [y] = row2 at *
    cases rest with
    | nil =>
      refine W.ifF (δ1 := [some (tN l), some (.int lap), some dr, some (nt k), some (.str sBuffer), some (.int s), some (.int a), some (.int b), some (.lst true (slots.map nt)), some (.lst true []), some (.lst true (row2.map nt)), some (nt j)]) (by simp) ?_
      refine W.cons (δ1 := [some (tN l), some (.int lap), some dr, some (nt k), some (.str sBuffer), some (.int s), some (.int a), some (.int b), some (.lst true ((slots.eraseIdx j).map nt)), some (.lst true []), some (.lst true (row2.map nt)), some (nt j)]) (by simp [g1, g4, gj, i1, s1, methX, methD, isLst, noPath, er]) (W.nil (W.nil ⟨_, _, _, rfl, rfl⟩))
    | cons x xs =>
      have g5 := nts_fz xs
      refine W.ifT (δ1 := [some (tN l), some (.int lap), some dr, some (nt k), some (.str sBuffer), some (.int s), some (.int a), some (.int b), some (.lst true (slots.map nt)), some (.lst true ((x :: xs).map nt)), some (.lst true (row2.map nt)), some (nt j)]) (by simp [g2, g5]; try omega) ?_
      have st1 := set_nts slots j x
      have iz := ixN_zero (xs.length)
      have s0 : small62 0 = true := by decide +kernel
      refine W.cons (δ1 := [some (tN l), some (.int lap), some dr, some (nt k), some (.str sBuffer), some (.int s), some (.int a), some (.int b), some (.lst true ((slots.set j x).map nt)), some (.lst true (xs.map nt)), some (.lst true (row2.map nt)), some (nt j)]) (by simp [g1, g4, g5, gj, i1, s1, s0, iz, methX, methD, isLst, noPath]; done) (W.nil (W.nil ⟨_, _, _, rfl, rfl⟩))
  · rintro δ ⟨a3, a11, z, ez, rfl⟩
    have f3 := nts_fz z.row
    have e : bufferM s a b l lap = z.row := by unfold bufferM; rw [← ez]
    rw [e]
    refine W.retO (d := .lst true (z.row.map nt)) (i := 10) (δ1 := [some (tN l), some (.int lap), some dr, a3, some (.str sBuffer), some (.int s), some (.int a), some (.int b), some (.lst true (z.slots.map nt)), some (.lst true (z.rest.map nt)), some (.lst true (z.row.map nt)), a11]) (by simp [f3]) (by simp) rfl ⟨_, rfl, rfl⟩
end
end Ev.Ro

set_option linter.all false
set_option maxRecDepth 100000
set_option maxHeartbeats 4000000
/-! MRc: list(Order.made(..)) as a whole -/
namespace Ev.Ro
open PySem Ev Ev.Bu Ev.U Ev.Ch
abbrev ibody : List S := [.ifs (.cmp .isin (.var 4) (.slice (.var 2) none (some (.var 3)))) [.bad] []]
theorem init_loop {row : List Nat} (nd : row.Nodup) (hl : row.length ≤ 1000) {d : D} : ∀ (post pre : List Nat) (a3 a4 : Option D), row = pre ++ post → ∃ a3' a4', forL (setT [0] (.tp [3, 4])) (evSs CI 97 ibody) (enumD pre.length (post.map nt)) [none, some d, some (tN row), a3, a4] = some (.nx [none, some d, some (tN row), a3', a4'])
  | [], pre, a3, a4, _ => ⟨a3, a4, rfl⟩
  | x :: post, pre, a3, a4, e => by
    have hn : pre.contains x = false := by
      rw [e, List.nodup_append] at nd
      have := nd.2.2
      cases h : pre.contains x with
      | false => rfl
      | true => exact absurd rfl (this x (by simpa using h) x (by simp))
    have e2 : row.take pre.length = pre := by rw [e]; simp
    have cd := cutD_to nt row pre.length
    rw [e2] at cd
    have f1 := nts_fz row
    have f2 := nts_fz pre
    have ci : cmpD .isin (nt x) (.tup (pre.map nt)) = some false := by rw [in_tN, hn]
    obtain ⟨a3', a4', q⟩ := init_loop nd hl (d := d) post (pre ++ [x]) (some (.int pre.length)) (some (nt x)) (by rw [e]; simp)
    refine ⟨a3', a4', ?_⟩
    rw [show (pre ++ [x]).length = pre.length + 1 by simp] at q
    have s1 : setT [0] (.tp [3, 4]) (.tup [.int pre.length, nt x]) [none, some d, some (tN row), a3, a4] = some [none, some d, some (tN row), some (.int pre.length), some (nt x)] := by simp
    have s2 : evSs CI 97 ibody [none, some d, some (tN row), some (.int pre.length), some (nt x)] = some (.nx [none, some d, some (tN row), some (.int pre.length), some (nt x)]) := by
      simp [f1, f2, cd, ci]
    simp only [List.map_cons, enumD, forL, s1, s2]
    exact q
theorem initF_run {row : List Nat} (nd : row.Nodup) (hl : row.length ≤ 1000) : initF (.lst true (row.map nt)) = some (row.map nt) := by
  have f1 := nts_fz row
  have q1 := nts_frz row
  have e1 : evS CI 99 initA [none, some (.lst true (row.map nt)), none, none, none] = some (.nx [none, some (.lst true (row.map nt)), some (tN row), none, none]) := by
    unfold initA
    simp [f1, items]
  obtain ⟨a3, a4, q⟩ := init_loop nd hl (d := .lst true (row.map nt)) row [] none none rfl
  have e2 : evS CI 98 initB [none, some (.lst true (row.map nt)), some (tN row), none, none] = some (.nx [none, some (.lst true (row.map nt)), some (tN row), a3, a4]) := by
    unfold initB
    exact evS_for _ _ _ _ _ _ _ (by simp [f1, q1]) q
  have e3 : slot [none, some (.lst true (row.map nt)), some (tN row), a3, a4] 2 = some (tN row) := rfl
  unfold initF
  simp only [e1, e2, e3, f1, if_true]
theorem Rule.fz (r : Rule) : fzs (.str r.w :: r.ns.map nt) = true := by
  show (true && fzs (r.ns.map nt)) = true
  rw [nts_fz]
  rfl
theorem madeF_run {C : Ctx} {it f : Nat} {ways : List (Str × Nat)} {r : Rule} {z : D} {l row : List Nat} {lap : Nat} (hlock : C.lock = [0]) (h1 : C.io it = []) (h2 : C.io f = []) (fz : z.fz = true) (ct : C.call it [z] = some (r.d, [])) (hw : ways.lookup r.w = some f) (cf : C.call f [tN l, .int lap, r.d] = some (.lst true (row.map nt), []))
    (nd : row.Nodup) (hl : row.length ≤ 1000) : madeF C it ways [z, tN l, .int lap] = some (row.map nt) := by
  obtain ⟨call, io, lock⟩ := C
  simp only at hlock h1 h2 ct cf
  subst hlock
  have fr := Rule.fz r
  have f1 := nts_fz l
  have f2 := nts_fz row
  have q1 := nts_frz l
  have e1 : evS ⟨call, io, [0]⟩ 99 (.asg (.nm 4) (.call it [.var 1])) [none, some z, some (tN l), some (.int lap), none, none] = some (.nx [none, some z, some (tN l), some (.int lap), some r.d, none]) := by
    have fd : r.d.fz = true := fr
    generalize r.d = dr at *
    simp [h1, ct, fz]
  have e2 : evE ⟨call, io, [0]⟩ 97 (.sub (.var 4) (.int 0)) [none, some z, some (tN l), some (.int lap), some r.d, none] = some (.tmp (.str r.w), [none, some z, some (tN l), some (.int lap), some r.d, none]) := by
    have iz := ixN_zero (r.ns.length)
    have s0 : small62 0 = true := by decide +kernel
    unfold Rule.d
    simp [iz, s0, fr, nts_fz]
  have e3 : evE ⟨call, io, [0]⟩ 96 (.call f [(.bi .tuple1 [.var 2]), .var 3, .var 4]) [none, some z, some (tN l), some (.int lap), some r.d, none] = some (.tmp (.lst true (row.map nt)), [none, some z, some (tN l), some (.int lap), some r.d, none]) := by
    have fd : r.d.fz = true := fr
    generalize r.d = dr at *
    simp [h2, cf, fd, f1, items, isAtom]
  unfold madeF
  simp only [e1, e2, hw, e3, initF_run nd hl]
  rfl
def fVirt (it ip ik is ib : Nat) : Fn := { n := 0, ps := 0, io := [], body := [], vt := some (it, [("plain", ip), ("keys", ik), ("swaps", is), ("buffer", ib)]) }
/-- where the rows stand in a text -/
structure RowsAt (T : List Fn) (it ip ik is ib iv : Nat) : Prop where
  t : T[it]? = some (f_tupled it)
  p : T[ip]? = some f_plain_row
  k : T[ik]? = some f_keys_row
  s : T[is]? = some f_swaps_row
  b : T[ib]? = some f_buffer_row
  v : T[iv]? = some (fVirt it ip ik is ib)
theorem evF_vt {T : List Fn} {k g it : Nat} {ways : List (Str × Nat)} {f : Fn} (h : T[g]? = some f) (hv : f.vt = some (it, ways)) (ds : List D) : evF T (k + 9) g ds = (madeF ⟨evF T k, fun h => ((T[h]?).map (·.io)).getD [], [0]⟩ it ways ds).map fun rs => (.lst true rs, []) := by
  simp only [evF, h, hv]
/-- such a rule, as a tuple or a list -/
def IsRule (z : D) (r : Rule) : Prop := z = r.d ∨ ∃ o, z = .lst o (.str r.w :: r.ns.map nt) ∧ z.fz = true
theorem tup_nts : ∀ l : List Nat, tupMs (l.map nt) = l.map nt := tupMs_nts
theorem shape_nts (n : Nat) : ∀ l : List Nat, shapes n (l.map nt) = true
  | [] => by simp [shapes]
  | x :: l => by
    simp only [List.map_cons, shapes, shape_nts n l, Bool.and_true]
    cases n <;> rfl
theorem Rule.ns_len (r : Rule) : r.ns.length ≤ 3 := by cases r <;> simp [Rule.ns]
theorem rule_tupled {T : List Fn} {it : Nat} (h : T[it]? = some (f_tupled it)) (k : Nat) {z : D} {r : Rule} (hz : IsRule z r) : z.fz = true ∧ evF T (k + 2) it [z] = some (r.d, []) := by
  have hl : (.str r.w :: r.ns.map nt).length ≤ cap := by
    have := r.ns_len
    simp [cap]
    omega
  have hs : ∀ m, shapes m (.str r.w :: r.ns.map nt) = true := fun m => by
    simp only [shapes, shape_nts, Bool.and_true]
    cases m <;> rfl
  have tm : tupMs (.str r.w :: r.ns.map nt) = .str r.w :: r.ns.map nt := by
    simp only [tupMs, tupMs_nts]
    rfl
  rcases hz with rfl | ⟨o, rfl, f⟩
  · refine ⟨Rule.fz r, ?_⟩
    have := tupled_sp (k := k + 1) h (d := r.d) (Rule.fz r) (by unfold Rule.d; simp only [shape, hs, decide_eq_true hl, Bool.and_self])
    rw [this]
    unfold Rule.d
    simp only [tupM, tm]
  · refine ⟨f, ?_⟩
    have := tupled_sp (k := k + 1) h f (by simp only [shape, hs, decide_eq_true hl, Bool.and_self])
    rw [this]
    unfold Rule.d
    simp only [tupM, tm]
theorem rows_call {T : List Fn} {it ip ik is ib iv : Nat} (A : RowsAt T it ip ik is ib iv) {r : Rule} (hr : r.ok) {l : List Nat} {lap : Nat} (hl : l.length ≤ 1000) (hx : ∀ x ∈ l, x ≤ 1000) (hlap : lap ≤ 1000) (k : Nat) :
    ∃ f, List.lookup r.w [("plain", ip), ("keys", ik), ("swaps", is), ("buffer", ib)] = some f ∧ (fun h : Nat => ((T[h]?).map (fun f : Fn => f.io)).getD []) f = [] ∧ evF T (k + 1) f [tN l, .int lap, r.d] = some (.lst true ((rowM r l lap).map nt), []) := by
  cases r with
  | plain => exact ⟨ip, rfl, by simp [A.p, f_plain_row], by rw [evF_run A.p]; exact plain_run l lap⟩
  | keys a b m => exact ⟨ik, by with_unfolding_all rfl, by simp [A.k, f_keys_row], by rw [evF_run A.k]; exact keys_run hr hl hx hlap⟩
  | swaps a b => exact ⟨is, by with_unfolding_all rfl, by simp [A.s, f_swaps_row], by rw [evF_run A.s]; exact swaps_run hr hl hlap⟩
  | buffer s a b => exact ⟨ib, by with_unfolding_all rfl, by simp [A.b, f_buffer_row], by rw [evF_run A.b]; exact buffer_run hr hl hlap⟩
theorem virt_run {T : List Fn} {it ip ik is ib iv : Nat} (A : RowsAt T it ip ik is ib iv) {r : Rule} (hr : r.ok) {z : D} (hz : IsRule z r) {l : List Nat} {lap : Nat} (hl : l.length ≤ 1000) (hx : ∀ x ∈ l, x ≤ 1000) (nd : l.Nodup) (hlap : lap ≤ 1000) (k : Nat) :
    evF T (k + 12) iv [z, tN l, .int lap] = some (.lst true ((rowM r l lap).map nt), []) := by
  obtain ⟨f, hw, hio, cf⟩ := rows_call A hr hl hx hlap (k + 2)
  obtain ⟨fz, ct⟩ := rule_tupled A.t (k + 1) hz
  have pm := rowM_perm hr l lap
  rw [evF_vt (k := k + 3) A.v rfl, madeF_run (C := ⟨evF T (k + 3), _, [0]⟩) rfl (by simp [A.t, f_tupled]) hio fz ct hw cf (pm.nodup_iff.mpr nd) (by rw [pm.length_eq]; exact hl)]
  rfl
end Ev.Ro

set_option linter.all false
set_option maxRecDepth 100000
set_option maxHeartbeats 4000000
/-! MRd: what was used, what is doubled, what is missed -/
namespace Ev.Ro
open PySem Ev Ev.Bu Ev.U Ev.Ch
def f_first_used (iv : Nat) : Fn := { n := 5, ps := 4, io := [], body := [.asg (.nm 4) (.call iv [(.var 0), (.var 2), (.var 1)]),
    .ifs (.cmp .gt (.var 3) (.bi .len [(.var 4)])) [.bad] [],
    .ret (.slice (.var 4) none (some (.var 3)))] }
def f_told (it : Nat) : Fn := { n := 5, ps := 3, io := [], body := [.asg (.nm 3) (.bi .sorted1 [(.lc (.var 4) (.nm 4) .val [(.var 1)] [(.cmp .isin (.var 4) (.var 0))] [4])]),
    .ret (.tup [(.var 3), (.lc (.var 4) (.nm 4) .val [(.call it [(.var 2)])] [(.band [(.cmp .notin (.var 4) (.var 0)), (.cmp .notin (.var 4) (.var 1))])] [4])])] }
def f_by_number (i1 i2 iv : Nat) : Fn := { n := 6, ps := 5, io := [], body := [.asg (.nm 5) (.call i1 [(.var 0), (.var 1), (.var 2), (.var 4)]),
    .ret (.call i2 [(.var 5), (.slice (.call iv [(.var 0), (.var 3), (.var 1)]) (some (.var 4)) none), (.var 3)])] }
def doubM (ahead come : List Nat) : List Nat := sortN (come.filter fun x => ahead.contains x)
def missM (ahead come new : List Nat) : List Nat := new.filter fun x => !ahead.contains x && !come.contains x
def byN (r : Rule) (lap : Nat) (old new : List Nat) (used : Nat) : List Nat × List Nat :=
  let a := (rowM r old lap).take used
  let c := (rowM r new lap).drop used
  (doubM a c, missM a c new)
def pairL (p : List Nat × List Nat) : D := .tup [.lst false (p.1.map nt), .lst false (p.2.map nt)]
section
variable {call : Nat → List D → Option (D × List D)} {io : Nat → List Nat}
theorem first_run {iv : Nat} (hio : io iv = []) {z : D} (fz : z.fz = true) {old row : List Nat} {lap used : Nat} (hc : call iv [z, tN old, .int lap] = some (.lst true (row.map nt), [])) (hu : used ≤ row.length) (hl : row.length ≤ 1000) :
    runF ⟨call, io, []⟩ (f_first_used iv) [z, .int lap, tN old, .int used] = some (.lst true ((row.take used).map nt), []) := by
  have f1 := nts_fz old
  have f2 := nts_fz row
  have f3 := nts_fz (row.take used)
  have cd := cutD_to nt row used
  have hn : ¬ (row.length < used) := by omega
  refine W.run (f := f_first_used iv) (δ0 := [some z, some (.int lap), some (tN old), some (.int used), none]) rfl rfl ?_
  refine W.cons (δ1 := [some z, some (.int lap), some (tN old), some (.int used), some (.lst true (row.map nt))]) (by simp [fz, f1, hio, hc, isAtom]) ?_
  refine W.skip (δ1 := [some z, some (.int lap), some (tN old), some (.int used), some (.lst true (row.map nt))]) (by simp [f2]; omega) ?_
  refine W.ret (d := .lst true ((row.take used).map nt)) (δ1 := [some z, some (.int lap), some (tN old), some (.int used), some (.lst true (row.map nt))]) (by simp only [List.map_take] at *; simp [f2, cd]) ⟨_, rfl, rfl⟩
theorem told_run {it : Nat} (hio : io it = []) {o p : Bool} {ahead come new : List Nat} (ha : ahead.length ≤ 1000) (hc : come.length ≤ 1000) (hn : new.length ≤ 1000) (ht : call it [tN new] = some (tN new, [])) :
    runF ⟨call, io, []⟩ (f_told it) [.lst o (ahead.map nt), .lst p (come.map nt), tN new] = some (pairL (doubM ahead come, missM ahead come new), []) := by
  have f1 := nts_fz ahead
  have f2 := nts_fz come
  have f3 := nts_fz new
  have q1 := nts_frz ahead
  have q2 := nts_frz come
  have q3 := nts_frz new
  have f4 := nts_fz (doubM ahead come)
  have q4 := nts_frz (doubM ahead come)
  have f5 := nts_fz (missM ahead come new)
  have q5 := nts_frz (missM ahead come new)
  have so := sorted_nts true (come.filter fun x => ahead.contains x)
  rw [show sortN (come.filter fun x => ahead.contains x) = doubM ahead come from rfl] at so
  refine W.run (f := f_told it) (δ0 := [some (.lst o (ahead.map nt)), some (.lst p (come.map nt)), some (tN new), none, none]) rfl rfl ?_
  have e1 := lcN (C := ⟨call, io, []⟩) (v := 4) (c := .cmp .isin (.var 4) (.var 0)) (k := .val) (its := [.var 1]) (δ0 := [some (.lst o (ahead.map nt)), some (.lst p (come.map nt)), some (tN new), none, none]) (δ := [some (.lst o (ahead.map nt)), some (.lst false (come.map nt)), some (tN new), none, none]) (xs := come) (fun x => ahead.contains x) rfl (fun m => by cases p <;> simp [f2, q2]) (by simp) (by simp [ownFz]) (by simp [cap]; omega)
    (fun x hx m => by have := in_lN x o ahead; cases o <;> simp [f1, this])
  have ed : sortN (come.filter fun x => ahead.contains x) = doubM ahead come := rfl
  rw [← ed] at f4 q4 so ⊢
  generalize (come.filter fun x => ahead.contains x) = cf at *
  refine W.cons (δ1 := [some (.lst o (ahead.map nt)), some (.lst false (come.map nt)), some (tN new), some (.lst true ((sortN cf).map nt)), none]) (by simp [-qevE_lc, -qbi_sort1, e1, so]) ?_
  generalize sortN cf = dm at *
  have e2 := fun (m : Nat) => lcN (C := ⟨call, io, []⟩) (v := 4) (c := .band [(.cmp .notin (.var 4) (.var 0)), (.cmp .notin (.var 4) (.var 1))]) (k := .val) (its := [(.call it [(.var 2)])]) (δ0 := [some (.lst o (ahead.map nt)), some (.lst false (come.map nt)), some (tN new), some (.lst true (dm.map nt)), none]) (δ := [some (.lst o (ahead.map nt)), some (.lst false (come.map nt)), some (tN new), some (.lst true (dm.map nt)), none]) (xs := new) (fun x => !ahead.contains x && !come.contains x) rfl (fun m => by simp [f3, q3, hio, ht, isAtom]) (by simp) (by simp [ownFz]) (by simp [cap]; omega)
    (fun x hx m => by have a1 := notin_lN x o ahead; have a2 := notin_lN x false come; cases o <;> simp [f1, f2, a1, a2] <;> cases h : ahead.contains x <;> simp_all) m
  rw [show (new.filter fun x => !ahead.contains x && !come.contains x) = missM ahead come new from rfl] at e2
  generalize missM ahead come new = mm at *
  refine W.ret (d := pairL (dm, mm)) (δ1 := [some (.lst o (ahead.map nt)), some (.lst false (come.map nt)), some (tN new), some (.lst false (dm.map nt)), none]) (by simp [-qevE_lc, e2, f4, q4, f5, q5, cap, pairL]; done) ⟨_, rfl, rfl⟩
theorem by_run {i1 i2 iv : Nat} (h1 : io i1 = []) (h2 : io i2 = []) (hv : io iv = []) {z : D} (fz : z.fz = true) {r : Rule} (hr : r.ok) {lap used : Nat} {old new : List Nat} (hu : used ≤ old.length) (ho : old.length ≤ 1000) (hn : new.length ≤ 1000)
    (c1 : call i1 [z, .int lap, tN old, .int used] = some (.lst true (((rowM r old lap).take used).map nt), [])) (c2 : ∀ o p (ahead come : List Nat), ahead.length ≤ 1000 → come.length ≤ 1000 → call i2 [.lst o (ahead.map nt), .lst p (come.map nt), tN new] = some (pairL (doubM ahead come, missM ahead come new), []))
    (cv : call iv [z, tN new, .int lap] = some (.lst true ((rowM r new lap).map nt), [])) : runF ⟨call, io, []⟩ (f_by_number i1 i2 iv) [z, .int lap, tN old, tN new, .int used] = some (pairL (byN r lap old new used), []) := by
  have lo := rowM_len hr old lap
  have ln := rowM_len hr new lap
  unfold byN
  simp only
  generalize rowM r old lap = ro at *
  generalize rowM r new lap = rn at *
  have f1 := nts_fz old
  have f2 := nts_fz new
  have f3 := nts_fz (ro.take used)
  have q3 := nts_frz (ro.take used)
  have f4 := nts_fz (rn.drop used)
  have q4 := nts_frz (rn.drop used)
  have f5 := nts_fz rn
  have cd := cutD_from nt rn used
  have l1 : (ro.take used).length ≤ 1000 := by rw [List.length_take]; omega
  have l2 : (rn.drop used).length ≤ 1000 := by rw [List.length_drop]; omega
  have C2 := fun o p => c2 o p (ro.take used) (rn.drop used) l1 l2
  generalize ro.take used = a at *
  generalize rn.drop used = c at *
  refine W.run (f := f_by_number i1 i2 iv) (δ0 := [some z, some (.int lap), some (tN old), some (tN new), some (.int used), none]) rfl rfl ?_
  refine W.cons (δ1 := [some z, some (.int lap), some (tN old), some (tN new), some (.int used), some (.lst true (a.map nt))]) (by simp [fz, f1, h1, c1, isAtom]) ?_
  generalize doubM a c = dm at *
  generalize missM a c new = mm at *
  refine W.ret (d := pairL (dm, mm)) (δ1 := [some z, some (.int lap), some (tN old), some (tN new), some (.int used), some (.lst false (a.map nt))]) (by simp [fz, f2, f3, q3, f4, q4, f5, hv, cv, cd, h2, C2, isAtom, pairL]; done) ⟨_, rfl, rfl⟩
end
end Ev.Ro

set_option linter.all false
set_option maxRecDepth 100000
set_option maxHeartbeats 4000000
/-! MRe: rules and items drawn -/
namespace Ev.Ro
open PySem Ev Ev.Bu Ev.U Ev.Ch
theorem insN_perm (x : Nat) : ∀ ys, (insN x ys).Perm (x :: ys)
  | [] => .refl _
  | y :: ys => by
    unfold insN
    split
    · exact .refl _
    · exact ((insN_perm x ys).cons y).trans (.swap x y ys)
theorem sortN_perm : ∀ xs, (sortN xs).Perm xs
  | [] => .refl _
  | x :: xs => (insN_perm x (sortN xs)).trans ((sortN_perm xs).cons x)
theorem insN_pw (x : Nat) : ∀ {ys : List Nat}, ys.Pairwise (· ≤ ·) → (insN x ys).Pairwise (· ≤ ·)
  | [], _ => by simp [insN]
  | y :: ys, h => by
    obtain ⟨h1, h2⟩ := List.pairwise_cons.mp h
    unfold insN
    split
    · rename_i c
      refine List.pairwise_cons.mpr ⟨fun z hz => ?_, h⟩
      rcases List.mem_cons.mp hz with e | hz
      · subst e; omega
      · have := h1 z hz; omega
    · rename_i c
      refine List.pairwise_cons.mpr ⟨fun z hz => ?_, insN_pw x h2⟩
      rcases List.mem_cons.mp ((insN_perm x ys).mem_iff.mp hz) with e | hz
      · subst e; omega
      · exact h1 z hz
theorem sortN_pw : ∀ xs, (sortN xs).Pairwise (· ≤ ·)
  | [] => .nil
  | x :: xs => insN_pw x (sortN_pw xs)
theorem pw_lt {l : List Nat} (h : l.Pairwise (· ≤ ·)) (nd : l.Nodup) : l.Pairwise (· < ·) := by
  have := h.and nd
  exact this.imp fun {a b} ⟨h1, h2⟩ => Nat.lt_of_le_of_ne h1 h2
def f_law_items (it ip : Nat) : Fn := { n := 3, ps := 2, io := [0], body := [.asg (.nm 2) (.bi .lrange [(.int 0), (.int 40), (.bin .add (.int 1) (.call it [(.var 0), (.int 3)]))]),
    .ret (.bi .tuple1 [(.bi .sorted1 [(.call ip [(.var 0), (.var 2), (.bin .add (.int 1) (.call it [(.var 0), (.var 1)]))])])])] }
def f_law_rule (it : Nat) : Fn := { n := 4, ps := 1, io := [0], body := [.par [2, 3] [(.call it [(.var 0), (.int 51)]), (.call it [(.var 0), (.int 51)])],
    .asg (.nm 1) (.call it [(.var 0), (.int 7)]),
    .ifs (.cmp .eq (.var 1) (.int 0)) [.ret (.tup [(.str (Str.ofString "plain"))])] [],
    .ifs (.cmp .lt (.var 1) (.int 3)) [.ret (.tup [(.str (Str.ofString "keys")), (.var 2), (.var 3), (.bin .add (.int 1) (.call it [(.var 0), (.int 50)]))])] [],
    .ret (.ite (.cmp .lt (.var 1) (.int 5)) (.tup [(.str (Str.ofString "swaps")), (.var 2), (.var 3)]) (.tup [(.str (Str.ofString "buffer")), (.bin .add (.int 1) (.call it [(.var 0), (.int 6)])), (.var 2), (.var 3)]))] }
def namesM (c : Nat) : List Nat := (List.range (ceilN 0 40 c)).map fun k => 0 + k * c
theorem names_ok : ∀ c, 1 ≤ c → c ≤ 3 → (namesM c).Nodup ∧ (∀ x ∈ namesM c, x < 40) ∧ (namesM c).length ≤ 40 ∧ 1 ≤ (namesM c).length := by
  intro c h1 h2
  have : c = 1 ∨ c = 2 ∨ c = 3 := by omega
  rcases this with rfl | rfl | rfl <;> decide +kernel
section
variable {call : Nat → List D → Option (D × List D)} {io : Nat → List Nat}
theorem rule_run {it : Nat} (hit : io it = [0]) (TS : TakeSp call it) {d : D} {c : Int} (hb : Box c d) (hc : c < 900000000000) :
    ∃ (r : Rule) (d' : D), runF ⟨call, io, [0]⟩ (f_law_rule it) [d] = some (r.d, [d']) ∧ r.ok ∧ Box (c + 4) d' := by
  obtain ⟨a, d1, g1, ha, b1⟩ := tkI TS d c 51 hb (by omega) (by omega) (by omega)
  obtain ⟨b, d2, g2, hb2, b2⟩ := tkI TS d1 _ 51 b1 (by omega) (by omega) (by omega)
  obtain ⟨s, d3, g3, hs, b3⟩ := tkI TS d2 _ 7 b2 (by omega) (by omega) (by omega)
  obtain ⟨m, d4, g4, hm, b4⟩ := tkI TS d3 _ 50 b3 (by omega) (by omega) (by omega)
  obtain ⟨z, d5, g5, hz, b5⟩ := tkI TS d3 _ 6 b3 (by omega) (by omega) (by omega)
  obtain ⟨x0, rfl, f0, t0⟩ := box_lst hb
  obtain ⟨x1, rfl, f1, t1⟩ := box_lst b1
  obtain ⟨x2, rfl, f2, t2⟩ := box_lst b2
  obtain ⟨x3, rfl, f3, t3⟩ := box_lst b3
  obtain ⟨x4, rfl, f4, t4⟩ := box_lst b4
  obtain ⟨x5, rfl, f5, t5⟩ := box_lst b5
  obtain ⟨d, outs, e, P⟩ : ∃ d outs, runF ⟨call, io, [0]⟩ (f_law_rule it) [.lst true x0] = some (d, outs) ∧ ∃ (r : Rule) (d' : D), d = r.d ∧ outs = [d'] ∧ r.ok ∧ Box (c + 4) d' := by
    refine W.def (f := f_law_rule it) (P := fun d outs => ∃ (r : Rule) (d' : D), d = r.d ∧ outs = [d'] ∧ r.ok ∧ Box (c + 4) d') (δ0 := [some (.lst true x0), none, none, none]) rfl rfl ?_
    refine W.cons (δ1 := [some (.lst true x2), none, some (.int a), some (.int b)]) (by simp [hit, ioOf, backOf, g1, g2, f0, f1, f2, t0, t1, t2, isAtom]) ?_
    refine W.cons (δ1 := [some (.lst true x3), some (.int s), some (.int a), some (.int b)]) (by simp [hit, ioOf, backOf, g3, f2, f3, t2, t3, isAtom]) ?_
    have fo : ∀ x : List D, flats x = true → ∀ p q r, outsOf [some (.lst true x), p, q, r] (f_law_rule it).io 0 (f_law_rule it).ps = some [.lst true x] := fun x h p q r => by simp [f_law_rule, outsOf, flatOwn, h]
    have es : ((s : Int) == 0) = decide (s = 0) := by
      rw [Bool.eq_iff_iff, beq_iff_eq, decide_eq_true_eq]
      omega
    refine W.ifB (t := decide (s = 0)) (δ1 := [some (.lst true x3), some (.int s), some (.int a), some (.int b)]) (by simp [plain, es]) (fun h => ?_) (fun h => W.nil ?_)
    · refine W.ret (d := Rule.plain.d) (δ1 := [some (.lst true x3), some (.int s), some (.int a), some (.int b)]) (by simp [Rule.d, Rule.w, Rule.ns, cap]) ⟨[.lst true x3], fo _ t3 _ _ _, .plain, _, rfl, rfl, trivial, b3.mono (by omega)⟩
    have hs0 : s ≠ 0 := by simpa using h
    refine W.ifB (t := decide (s < 3)) (δ1 := [some (.lst true x3), some (.int s), some (.int a), some (.int b)]) (by simp [cmpD]; try omega) (fun h => ?_) (fun h => W.nil ?_)
    · refine W.ret (d := (Rule.keys a b (1 + m)).d) (δ1 := [some (.lst true x4), some (.int s), some (.int a), some (.int b)]) (by simp [hit, ioOf, backOf, g4, f3, f4, t3, t4, isAtom, Rule.d, Rule.w, Rule.ns, cap]) ⟨[.lst true x4], fo _ t4 _ _ _, .keys a b (1 + m), _, rfl, rfl, ⟨by omega, by omega, by omega, by omega⟩, b4.mono (by omega)⟩
    by_cases h5 : s < 5
    · have h5' : (s : Int) < 5 := by omega
      refine W.ret (d := (Rule.swaps a b).d) (δ1 := [some (.lst true x3), some (.int s), some (.int a), some (.int b)]) (by simp [cmpD, h5', f3, Rule.d, Rule.w, Rule.ns, cap]; try omega) ⟨[.lst true x3], fo _ t3 _ _ _, .swaps a b, _, rfl, rfl, ⟨by omega, by omega⟩, b3.mono (by omega)⟩
    · have h5' : ¬ ((s : Int) < 5) := by omega
      refine W.ret (d := (Rule.buffer (1 + z) a b).d) (δ1 := [some (.lst true x5), some (.int s), some (.int a), some (.int b)]) (by simp [cmpD, h5', hit, ioOf, backOf, g5, f3, f5, t3, t5, isAtom, Rule.d, Rule.w, Rule.ns, cap]; try omega) ⟨[.lst true x5], fo _ t5 _ _ _, .buffer (1 + z) a b, _, rfl, rfl, ⟨by omega, by omega, by omega, by omega⟩, b5.mono (by omega)⟩
  obtain ⟨r, d', rfl, rfl, h1, h2⟩ := P
  exact ⟨r, d', e, h1, h2⟩
theorem items_run {it ip : Nat} (hit : io it = [0]) (hip : io ip = [0]) (TS : TakeSp call it) (PS : PickSp call ip) {d : D} {c : Int} {many : Nat} (hm0 : 0 < many) (hm : many ≤ 50) (hb : Box c d) (hc : c < 800000000000) :
    ∃ (l : List Nat) (d' : D), runF ⟨call, io, [0]⟩ (f_law_items it ip) [d, .int many] = some (tN l, [d']) ∧ l.Pairwise (· < ·) ∧ (∀ x ∈ l, x < 40) ∧ 1 ≤ l.length ∧ l.length ≤ many ∧ l.length ≤ 40 ∧ Box (c + 102) d' := by
  obtain ⟨s, d1, g1, hs, b1⟩ := tkI TS d c 3 hb (by omega) (by omega) (by omega)
  obtain ⟨r, d2, g2, hr, b2⟩ := tkI TS d1 _ many b1 (by omega) (by omega) (by omega)
  obtain ⟨n1, n2, n3, n4⟩ := names_ok (1 + s) (by omega) (by omega)
  obtain ⟨l, rest, d3, e3, h1, h2, b3⟩ := PS d2 _ false (namesM (1 + s)) (1 + r) b2 (by omega) (by omega) (by omega)
  have ndl : l.Nodup := (List.nodup_append.mp (h1.nodup_iff.mpr n1)).1
  have pm := sortN_perm l
  have pw := sortN_pw l
  have le := pm.length_eq
  obtain ⟨x0, rfl, f0, t0⟩ := box_lst hb
  obtain ⟨x1, rfl, f1, t1⟩ := box_lst b1
  obtain ⟨x2, rfl, f2, t2⟩ := box_lst b2
  obtain ⟨x3, rfl, f3, t3⟩ := box_lst b3
  refine ⟨sortN l, .lst true x3, ?_, pw_lt pw (pm.nodup_iff.mpr ndl), fun x hx => n2 x (h1.mem_iff.mp (List.mem_append_left _ (pm.mem_iff.mp hx))), by omega, by omega, by omega, b3.mono (by omega)⟩
  have rg := rangeOf3 (i := 0) (j := 40) (c := 1 + s) (by omega) (by omega) (by omega) (by omega)
  rw [rangeD_nat] at rg
  have eN : ((List.range (ceilN 0 40 (1 + s))).map fun k => nt (0 + k * (1 + s))) = (namesM (1 + s)).map nt := by unfold namesM; rw [List.map_map]; rfl
  rw [eN] at rg
  have ec : (1 : Int) + (s : Int) = ((1 + s : Nat) : Int) := by omega
  have er : (1 : Int) + (r : Int) = ((1 + r : Nat) : Int) := by omega
  have z0 : ((0 : Nat) : Int) = 0 := rfl
  have z4 : ((40 : Nat) : Int) = 40 := rfl
  rw [z0, z4] at rg
  generalize namesM (1 + s) = names at *
  generalize 1 + s = cs at *
  generalize 1 + r = cr at *
  have lN : names.length ≤ 1000000 := by omega
  have fn := nts_fz names
  have qn := nts_frz names
  have fl := nts_fz l
  have fs := nts_fz (sortN l)
  have so := sorted_nts true l
  generalize sortN l = sl at *
  have lS : sl.length ≤ 1000000 := by omega
  refine W.run (f := f_law_items it ip) (δ0 := [some (.lst true x0), some (.int many), none]) rfl rfl ?_
  refine W.cons (δ1 := [some (.lst true x1), some (.int many), some (.lst true (names.map nt))]) (by simp [hit, ioOf, backOf, g1, f0, f1, t0, t1, isAtom, ec, rg, cap, lN]) ?_
  refine W.ret (d := tN sl) (δ1 := [some (.lst true x3), some (.int many), some (.lst false (names.map nt))]) (by simp [hit, hip, ioOf, backOf, g2, e3, f1, f2, f3, t1, t2, t3, isAtom, er, fn, qn, fl, fs, -qbi_sort1, so, items, cap, lS]) ⟨_, rfl, by simp [f_law_items, outsOf, flatOwn, t3]⟩
end
end Ev.Ro

set_option linter.all false
set_option maxRecDepth 100000
set_option maxHeartbeats 4000000
/-! MRf: what the defs of rows promise -/
namespace Ev.Ro
open PySem Ev Ev.Bu Ev.U Ev.Ch
def RuleSp (call : Nat → List D → Option (D × List D)) (ir : Nat) : Prop := ∀ (d : D) (c : Int), Box c d → c < 800000000000 → ∃ (r : Rule) (d' : D), call ir [d] = some (r.d, [d']) ∧ r.ok ∧ Box (c + 4) d'
def ItemsSp (call : Nat → List D → Option (D × List D)) (ii : Nat) : Prop := ∀ (d : D) (c : Int) (many : Nat), 0 < many → many ≤ 50 → Box c d → c < 800000000000 → ∃ (l : List Nat) (d' : D), call ii [d, .int many] = some (tN l, [d']) ∧ l.Pairwise (· < ·) ∧ (∀ x ∈ l, x < 40) ∧ 1 ≤ l.length ∧ l.length ≤ many ∧ l.length ≤ 40 ∧ Box (c + 102) d'
def BySp (call : Nat → List D → Option (D × List D)) (ib : Nat) : Prop := ∀ (r : Rule) (lap used : Nat) (old new : List Nat), r.ok → lap ≤ 1000 → used ≤ old.length → old.length ≤ 1000 → new.length ≤ 1000 → old.Nodup → new.Nodup → (∀ x ∈ old, x ≤ 1000) → (∀ x ∈ new, x ≤ 1000) →
  call ib [r.d, .int lap, tN old, tN new, .int used] = some (pairL (byN r lap old new used), [])
theorem rule_sp {T : List Fn} {k it ir : Nat} (h : T[it]? = some f_law_take) (h2 : T[ir]? = some (f_law_rule it)) : RuleSp (evF T (k + 2)) ir := fun d c hb hc => by
  rw [evF_run h2]
  exact rule_run (by simp [h, f_law_take]) (take_sp (k := k) h) hb (by omega)
theorem pick_sp {T : List Fn} {k it ip : Nat} (h : T[it]? = some f_law_take) (h2 : T[ip]? = some (Ev.Bu.f_law_pick it)) : PickSp (evF T (k + 2)) ip := fun d c o names many hb hc h3 h4 => by
  rw [evF_run h2]
  exact pick_run (by simp [h, f_law_take]) (take_sp (k := k) h) hb hc h3 h4
theorem items_sp {T : List Fn} {k it ip ii : Nat} (h : T[it]? = some f_law_take) (h2 : T[ip]? = some (Ev.Bu.f_law_pick it)) (h3 : T[ii]? = some (f_law_items it ip)) : ItemsSp (evF T (k + 3)) ii := fun d c many m0 m1 hb hc => by
  rw [evF_run h3]
  exact items_run (by simp [h, f_law_take]) (by simp [h2, Ev.Bu.f_law_pick]) (take_sp (k := k + 1) h) (pick_sp (k := k) h h2) m0 m1 hb hc
theorem first_ok {T : List Fn} {it ip ik is ib iv i1 : Nat} (A : RowsAt T it ip ik is ib iv) (h1 : T[i1]? = some (f_first_used iv)) (k : Nat) {r : Rule} (hr : r.ok) {z : D} (hz : IsRule z r) {lap used : Nat} {old : List Nat} (hl : lap ≤ 1000) (hu : used ≤ old.length) (ho : old.length ≤ 1000) (nd : old.Nodup) (hx : ∀ x ∈ old, x ≤ 1000) :
    evF T (k + 13) i1 [z, .int lap, tN old, .int used] = some (.lst true (((rowM r old lap).take used).map nt), []) := by
  rw [evF_run h1]
  exact first_run (by simp [A.v, fVirt]) (rule_tupled A.t 0 hz).1 (virt_run A hr hz ho hx nd hl k) (by rw [rowM_len hr]; exact hu) (by rw [rowM_len hr]; exact ho)
theorem told_ok {T : List Fn} {it i2 : Nat} (ht : T[it]? = some (f_tupled it)) (h2 : T[i2]? = some (f_told it)) (k : Nat) (o p : Bool) (ahead come new : List Nat) (ha : ahead.length ≤ 1000) (hc : come.length ≤ 1000) (hn : new.length ≤ 1000) :
    evF T (k + 13) i2 [.lst o (ahead.map nt), .lst p (come.map nt), tN new] = some (pairL (doubM ahead come, missM ahead come new), []) := by
  rw [evF_run h2]
  exact told_run (by simp [ht, f_tupled]) ha hc hn (tupled_tN ht (k + 9) new hn)
theorem by_sp {T : List Fn} {it ip ik is ib iv i1 i2 iby : Nat} (A : RowsAt T it ip ik is ib iv) (h1 : T[i1]? = some (f_first_used iv)) (h2 : T[i2]? = some (f_told it)) (h3 : T[iby]? = some (f_by_number i1 i2 iv)) (k : Nat) : BySp (evF T (k + 14)) iby := by
  intro r lap used old new hr hl hu ho hn nd nd2 hx hx2
  rw [evF_run h3]
  exact by_run (by simp [h1, f_first_used]) (by simp [h2, f_told]) (by simp [A.v, fVirt]) (z := r.d) (show r.d.fz = true from Rule.fz r) hr hu ho hn (first_ok A h1 k hr (.inl rfl) hl hu ho nd hx) (fun o p a c ha hc => told_ok A.t h2 k o p a c new ha hc hn) (virt_run A hr (.inl rfl) hn hx2 nd2 hl (k + 1))
/-- a comprehension whose test draws: it keeps some -/
theorem lcL_sub {set : D → Dl → Option Dl} {test : Dl → Option (Bool × Dl)} {elt : Dl → Option (D × Dl)} {own : List Nat} {α : Type} (I : Nat → Dl → Prop) (em : α → D) (K : Nat) (h : ∀ x, ∀ k δ, k < K → I k δ → ∃ δ1 δ2 b, set (em x) δ = some δ1 ∧ test δ1 = some (b, δ2) ∧ (b = false → I (k + 1) (wipeD δ2 own)) ∧ (b = true → ∃ δ3, elt δ2 = some (em x, δ3) ∧ I (k + 1) (wipeD δ3 own))) :
    ∀ (xs : List α) (acc : List D) (k : Nat) (δ : Dl), I k δ → k + xs.length ≤ K → acc.length + xs.length ≤ cap → ∃ (ys : List α) (δ' : Dl), ys.Sublist xs ∧ lcL set test elt own (xs.map em) acc δ = some (acc ++ ys.map em, δ') ∧ I (k + xs.length) δ'
  | [], acc, k, δ, i, _, _ => ⟨[], δ, .slnil, by simp [lcL], i⟩
  | x :: xs, acc, k, δ, i, hk, hl => by
    simp only [List.length_cons] at hl hk
    obtain ⟨δ1, δ2, b, h1, h2, h3, h4⟩ := h x k δ (by omega) i
    cases b with
    | false =>
      obtain ⟨ys, δ', s, e, j⟩ := lcL_sub I em K h xs acc (k + 1) _ (h3 rfl) (by omega) (by omega)
      refine ⟨ys, δ', s.cons x, ?_, by rw [List.length_cons, show k + (xs.length + 1) = k + 1 + xs.length by omega]; exact j⟩
      simp only [List.map_cons, lcL, h1, h2]
      exact e
    | true =>
      obtain ⟨δ3, h5, h6⟩ := h4 rfl
      obtain ⟨ys, δ', s, e, j⟩ := lcL_sub I em K h xs (acc ++ [em x]) (k + 1) _ h6 (by omega) (by simp; omega)
      refine ⟨x :: ys, δ', s.cons₂ x, ?_, by rw [List.length_cons, show k + (xs.length + 1) = k + 1 + xs.length by omega]; exact j⟩
      simp only [List.map_cons, lcL, h1, h2, h5]
      rw [decide_eq_true (by omega), if_pos rfl, e]
      simp
end Ev.Ro

set_option linter.all false
set_option maxRecDepth 100000
set_option maxHeartbeats 4000000
/-! K61: what of the same items -/
namespace Ev.K61
open PySem Ev Ev.Bu Ev.U Ev.Ch Ev.Ro
/-! the plain law -/
theorem filter_len_perm {p : Nat → Bool} {a b : List Nat} (h : a.Perm b) : (a.filter p).length = (b.filter p).length := (h.filter p).length_eq
theorem doub_len (a c : List Nat) : (doubM a c).length = (c.filter fun x => a.contains x).length := (sortN_perm _).length_eq
theorem mem_doub {a c : List Nat} {x : Nat} (h : x ∈ doubM a c) : x ∈ c ∧ x ∈ a := by
  have := (sortN_perm _).mem_iff.mp h
  rw [List.mem_filter] at this
  simpa using this
theorem filter_split (p : Nat → Bool) : ∀ l : List Nat, (l.filter p).length + (l.filter fun x => !p x).length = l.length
  | [] => rfl
  | x :: l => by
    have ih := filter_split p l
    cases h : p x <;> simp [h] <;> omega
theorem sub_len : ∀ (a b : List Nat), a.Nodup → (∀ x ∈ a, x ∈ b) → a.length ≤ b.length
  | [], b, _, _ => Nat.zero_le _
  | x :: a, b, nd, h => by
    have nd' := List.nodup_cons.mp nd
    have hx := h x (by simp)
    have ih := sub_len a (b.erase x) nd'.2 fun y hy => (List.mem_erase_of_ne (fun e => nd'.1 (by rw [← e]; exact hy))).mpr (h y (by simp [hy]))
    have := List.length_erase_of_mem hx
    have l0 : 0 < b.length := List.length_pos_of_mem hx
    simp only [List.length_cons]
    omega
/-- in all: the doubled and the used are the missed and what is again ahead -/
theorem counts {ahead row new : List Nat} {used : Nat} (pm : row.Perm new) (nd : new.Nodup) (hu : used ≤ new.length) :
    (doubM ahead (row.drop used)).length + used = (missM ahead (row.drop used) new).length + (new.filter fun x => ahead.contains x).length := by
  have ndr : row.Nodup := pm.nodup_iff.mpr nd
  have lr := pm.length_eq
  have e0 : row = row.take used ++ row.drop used := (List.take_append_drop used row).symm
  have lt : (row.take used).length = used := by rw [List.length_take]; omega
  rw [e0, List.nodup_append] at ndr
  obtain ⟨_, _, dj⟩ := ndr
  rw [doub_len]
  unfold missM
  rw [← filter_len_perm (p := fun x => !ahead.contains x && !(row.drop used).contains x) pm, ← filter_len_perm (p := fun x => ahead.contains x) pm]
  generalize hc : row.drop used = c at *
  generalize ht : row.take used = t at *
  rw [e0, List.filter_append, List.filter_append, List.length_append, List.length_append]
  have e1 : c.filter (fun x => !ahead.contains x && !c.contains x) = [] := List.filter_eq_nil_iff.mpr fun x hx h => by
    simp only [Bool.and_eq_true, Bool.not_eq_true', List.contains_eq_mem, decide_eq_false_iff_not] at h
    exact h.2 hx
  have e2 : t.filter (fun x => !ahead.contains x && !c.contains x) = t.filter fun x => !ahead.contains x := List.filter_congr fun x hx => by
    have : c.contains x = false := by
      cases h : c.contains x with
      | false => rfl
      | true => exact absurd rfl (dj x hx x (by simpa using h))
    rw [this]
    simp
  have e3 := filter_split (fun x => ahead.contains x) t
  rw [e1, e2]
  simp only [List.length_nil, Nat.add_zero]
  omega
theorem take_row {r : Rule} (hr : r.ok) {old : List Nat} {lap used : Nat} (nd : old.Nodup) (hu : used ≤ old.length) : ((rowM r old lap).take used).length = used ∧ (∀ x ∈ (rowM r old lap).take used, x ∈ old) ∧ (old.filter fun x => ((rowM r old lap).take used).contains x).length = used := by
  have pm := rowM_perm hr old lap
  have ndr : (rowM r old lap).Nodup := pm.nodup_iff.mpr nd
  have lr := pm.length_eq
  generalize rowM r old lap = row at *
  have lt : (row.take used).length = used := by rw [List.length_take]; omega
  refine ⟨lt, fun x hx => pm.mem_iff.mp (List.mem_of_mem_take hx), ?_⟩
  have e0 : row = row.take used ++ row.drop used := (List.take_append_drop used row).symm
  rw [← filter_len_perm (p := fun x => (row.take used).contains x) pm]
  generalize hc : row.drop used = c at *
  generalize ht : row.take used = t at *
  rw [e0, List.nodup_append] at ndr
  obtain ⟨_, _, dj⟩ := ndr
  rw [e0, List.filter_append, List.length_append]
  have e1 : c.filter (fun x => t.contains x) = [] := List.filter_eq_nil_iff.mpr fun x hx h => dj x (by simpa using h) x hx rfl
  have e2 : t.filter (fun x => t.contains x) = t := List.filter_eq_self.mpr fun x hx => by simpa using hx
  rw [e1, e2]
  simpa using lt
theorem eq_nil_of_len {l : List Nat} (h : l.length = 0) : l = [] := List.eq_nil_of_length_eq_zero h
/-- the same items again -/
theorem same_items {r : Rule} (hr : r.ok) {old : List Nat} {lap used : Nat} (nd : old.Nodup) (hu : used ≤ old.length) : byN r lap old old used = ([], []) := by
  have pm := rowM_perm hr old lap
  have ndr : (rowM r old lap).Nodup := pm.nodup_iff.mpr nd
  unfold byN
  simp only
  generalize rowM r old lap = row at *
  have e0 : row = row.take used ++ row.drop used := (List.take_append_drop used row).symm
  rw [e0, List.nodup_append] at ndr
  obtain ⟨_, _, dj⟩ := ndr
  have d0 : doubM (row.take used) (row.drop used) = [] := by
    cases h : doubM (row.take used) (row.drop used) with
    | nil => rfl
    | cons x l =>
      have := mem_doub (a := row.take used) (c := row.drop used) (x := x) (by rw [h]; simp)
      exact absurd rfl (dj x this.2 x this.1)
  have m0 : missM (row.take used) (row.drop used) old = [] := List.filter_eq_nil_iff.mpr fun x hx h => by
    have : x ∈ row.take used ++ row.drop used := by rw [← e0]; exact pm.mem_iff.mpr hx
    simp only [Bool.and_eq_true, Bool.not_eq_true', List.contains_eq_mem, decide_eq_false_iff_not] at h
    rcases List.mem_append.mp this with h1 | h1
    · exact h.1 h1
    · exact h.2 h1
  rw [d0, m0]
/-- all items are others -/
theorem other_items {r : Rule} (hr : r.ok) {old new : List Nat} {lap used : Nat} (nd : old.Nodup) (nd2 : new.Nodup) (hl : new.length = old.length) (dj : ∀ x ∈ new, x ∉ old) (hu : used ≤ old.length) :
    (byN r lap old new used).1 = [] ∧ (byN r lap old new used).2.length = used ∧ ∀ x ∈ (byN r lap old new used).2, x ∈ new := by
  obtain ⟨t1, t2, t3⟩ := take_row hr (lap := lap) nd hu
  have pm := rowM_perm hr new lap
  have cn := counts (ahead := (rowM r old lap).take used) pm nd2 (used := used) (by omega)
  unfold byN
  simp only
  generalize (rowM r old lap).take used = a at *
  have f0 : (new.filter fun x => a.contains x) = [] := List.filter_eq_nil_iff.mpr fun x hx h => dj x hx (t2 x (by simpa using h))
  have d0 : doubM a ((rowM r new lap).drop used) = [] := by
    cases h : doubM a ((rowM r new lap).drop used) with
    | nil => rfl
    | cons x l =>
      have := mem_doub (a := a) (x := x) (by rw [h]; simp)
      exact absurd (t2 x this.2) (dj x (pm.mem_iff.mp (List.mem_of_mem_drop this.1)))
  rw [f0, d0] at cn
  simp only [List.length_nil, Nat.zero_add, Nat.add_zero] at cn
  exact ⟨d0, cn.symm, fun x hx => (List.mem_filter.mp hx).1⟩
/-- some items are others -/
theorem mixed_items {r : Rule} (hr : r.ok) {old kept far mixed : List Nat} {lap used : Nat} (nd : old.Nodup) (nd2 : mixed.Nodup) (pm2 : mixed.Perm (kept ++ far)) (hl : mixed.length = old.length) (hk : kept.Sublist old) (dj : ∀ x ∈ far, x ∉ old) (hu : used ≤ old.length) :
    (∀ x ∈ (byN r lap old mixed used).1, x ∈ kept) ∧ (byN r lap old mixed used).1.length ≤ (byN r lap old mixed used).2.length ∧ (byN r lap old mixed used).2.length ≤ (byN r lap old mixed used).1.length + (old.filter fun x => !kept.contains x).length := by
  obtain ⟨t1, t2, t3⟩ := take_row hr (lap := lap) nd hu
  have pm := rowM_perm hr mixed lap
  have cn := counts (ahead := (rowM r old lap).take used) pm nd2 (used := used) (by omega)
  unfold byN
  simp only
  generalize (rowM r old lap).take used = a at *
  have f0 : (far.filter fun x => a.contains x) = [] := List.filter_eq_nil_iff.mpr fun x hx h => dj x hx (t2 x (by simpa using h))
  have f1 : (mixed.filter fun x => a.contains x).length = (kept.filter fun x => a.contains x).length := by
    rw [filter_len_perm pm2, List.filter_append, List.length_append, f0]
    rfl
  -- the used ones: kept or not
  have f2 : (kept.filter fun x => a.contains x).length ≤ (old.filter fun x => a.contains x).length := (hk.filter _).length_le
  have f3 : (old.filter fun x => a.contains x).length ≤ (kept.filter fun x => a.contains x).length + (old.filter fun x => !kept.contains x).length := by
    have p1 := filter_split (fun x => kept.contains x) (old.filter fun x => a.contains x)
    have p2 : ((old.filter fun x => a.contains x).filter fun x => !kept.contains x).length ≤ (old.filter fun x => !kept.contains x).length := by
      rw [List.filter_filter]
      have : (old.filter fun x => (!kept.contains x) && a.contains x) = (old.filter fun x => !kept.contains x).filter fun x => a.contains x := by
        rw [List.filter_filter]
        exact List.filter_congr fun x _ => Bool.and_comm _ _
      rw [this]
      exact List.length_filter_le _ _
    have ndk : kept.Nodup := nd.sublist hk
    have p3 : ((old.filter fun x => a.contains x).filter fun x => kept.contains x).length ≤ (kept.filter fun x => a.contains x).length := by
      refine sub_len _ _ (nd.sublist (List.filter_sublist.trans List.filter_sublist)) fun x hx => ?_
      simp only [List.mem_filter, List.contains_eq_mem, decide_eq_true_eq] at hx ⊢
      exact ⟨hx.2, hx.1.2⟩
    omega
  refine ⟨fun x hx => ?_, by omega, by omega⟩
  have := mem_doub hx
  have hm : x ∈ mixed := pm.mem_iff.mp (List.mem_of_mem_drop this.1)
  rcases List.mem_append.mp (pm2.mem_iff.mp hm) with h | h
  · exact h
  · exact absurd (t2 x this.2) (dj x h)
theorem by_len {r : Rule} (hr : r.ok) (lap : Nat) (old new : List Nat) (used : Nat) : (byN r lap old new used).1.length ≤ new.length := by
  have := rowM_len hr new lap
  show (doubM _ ((rowM r new lap).drop used)).length ≤ _
  rw [doub_len]
  refine Nat.le_trans (List.length_filter_le _ _) ?_
  rw [List.length_drop]
  omega
/-! the run -/
def f_law_right (ir it ii ib : Nat) : Fn := { n := 12, ps := 1, io := [0], body := [.par [6, 7, 8] [(.call ir [(.var 0)]), (.call it [(.var 0), (.int 21)]), (.call ii [(.var 0), (.int 10)])],
    .asg (.nm 1) (.call it [(.var 0), (.bin .add (.bi .len [(.var 8)]) (.int 1))]),
    .ifs (.cmp .ne (.call ib [(.var 6), (.var 7), (.var 8), (.var 8), (.var 1)]) (.tup [(.lst []), (.lst [])])) [.ret (.bl false)] [],
    .asg (.nm 2) (.bi .tuple1 [(.lc (.bin .add (.var 11) (.int 45)) (.nm 11) .val [(.var 8)] [] [11])]),
    .asg (.tp [9, 10]) (.call ib [(.var 6), (.var 7), (.var 8), (.var 2), (.var 1)]),
    .ifs (.bor [(.cmp .ne (.var 9) (.lst [])), (.cmp .ne (.bi .len [(.var 10)]) (.var 1)), (.cmp .ne (.lc (.var 11) (.nm 11) .val [(.var 10)] [(.cmp .notin (.var 11) (.var 2))] [11]) (.lst []))]) [.ret (.bl false)] [],
    .asg (.nm 3) (.lc (.var 11) (.nm 11) .val [(.var 8)] [(.cmp .gt (.call it [(.var 0), (.int 3)]) (.int 0))] [11]),
    .asg (.nm 4) (.bi .tuple1 [(.bi .sorted1 [(.bin .add (.var 3) (.lc (.bin .add (.var 11) (.int 45)) (.nm 11) .val [(.var 8)] [(.cmp .notin (.var 11) (.var 3))] [11]))])]),
    .asg (.tp [9, 10]) (.call ib [(.var 6), (.var 7), (.var 8), (.var 4), (.var 1)]),
    .asg (.nm 5) (.bi .len [(.lc (.var 11) (.nm 11) .val [(.var 8)] [(.cmp .notin (.var 11) (.var 3))] [11])]),
    .ifs (.cmp .ne (.lc (.var 11) (.nm 11) .val [(.var 9)] [(.cmp .notin (.var 11) (.var 3))] [11]) (.lst [])) [.ret (.bl false)] [],
    .ret (.chain .le .le (.bi .len [(.var 9)]) (.bi .len [(.var 10)]) (.bin .add (.bi .len [(.var 9)]) (.var 5)))] }
section
variable {call : Nat → List D → Option (D × List D)} {io : Nat → List Nat}
theorem sub_filter {kept old : List Nat} (nd : old.Nodup) (hs : kept.Sublist old) : kept.length + (old.filter fun x => !kept.contains x).length = old.length := by
  have h := filter_split (fun x => kept.contains x) old
  have a := sub_len kept (old.filter fun x => kept.contains x) (nd.sublist hs) fun x hx => List.mem_filter.mpr ⟨hs.subset hx, by simpa using hx⟩
  have b := sub_len (old.filter fun x => kept.contains x) kept (nd.sublist List.filter_sublist) fun x hx => by simpa using (List.mem_filter.mp hx).2
  omega
theorem kept_lc {it : Nat} (hit : io it = [0]) (TS : TakeSp call it) {x : List D} {c : Int} (hb : Box c (.lst true x)) (hc : c < 900000000000) {old : List Nat} (hl : old.length ≤ 40) {a1 a2 a3 a4 a5 a6 a7 a9 a10 : Option D} (m : Nat) :
    ∃ (kept : List Nat) (x' : List D), kept.Sublist old ∧ Box (c + 40) (.lst true x') ∧ evE ⟨call, io, [0]⟩ (m + 20) (.lc (.var 11) (.nm 11) .val [(.var 8)] [(.cmp .gt (.call it [(.var 0), (.int 3)]) (.int 0))] [11]) [some (.lst true x), a1, a2, a3, a4, a5, a6, a7, some (tN old), a9, a10, none] =
      some (.tmp (.lst true (kept.map nt)), [some (.lst true x'), a1, a2, a3, a4, a5, a6, a7, some (tN old), a9, a10, none]) := by
  have fo := nts_fz old
  have qo := nts_frz old
  have hi : evIt ⟨call, io, [0]⟩ (m + 19) .val [(.var 8)] [some (.lst true x), a1, a2, a3, a4, a5, a6, a7, some (tN old), a9, a10, none] = some (old.map nt, [some (.lst true x), a1, a2, a3, a4, a5, a6, a7, some (tN old), a9, a10, none]) := by simp [fo, qo]
  obtain ⟨kept, δ', hs, h3, x', rfl, hb'⟩ := lcL_sub (set := setT [0] (.nm 11)) (test := evIfs ⟨call, io, [0]⟩ (m + 19) [(.cmp .gt (.call it [(.var 0), (.int 3)]) (.int 0))]) (elt := evV ⟨call, io, [0]⟩ (m + 19) (.var 11)) (own := [11])
    (fun k δ => ∃ x', δ = [some (.lst true x'), a1, a2, a3, a4, a5, a6, a7, some (tN old), a9, a10, none] ∧ Box (c + k) (.lst true x')) nt 40
    (fun z k δ hk => by
      rintro ⟨y, rfl, hy⟩
      obtain ⟨r, d1, g1, hr, b1⟩ := tkI TS _ _ 3 hy (by omega) (by omega) (by omega)
      obtain ⟨y1, rfl, f1, t1⟩ := box_lst b1
      obtain ⟨f0, t0⟩ := box_fz hy
      refine ⟨[some (.lst true y), a1, a2, a3, a4, a5, a6, a7, some (tN old), a9, a10, some (nt z)], [some (.lst true y1), a1, a2, a3, a4, a5, a6, a7, some (tN old), a9, a10, some (nt z)], decide (0 < r), by simp, ?_, fun _ => ⟨y1, by simp [wipeD], b1.mono (by omega)⟩, fun _ => ⟨_, by simp; rfl, ⟨y1, by simp [wipeD], b1.mono (by omega)⟩⟩⟩
      simp [hit, ioOf, backOf, g1, f0, f1, t0, t1, isAtom])
    old [] 0 [some (.lst true x), a1, a2, a3, a4, a5, a6, a7, some (tN old), a9, a10, none] ⟨x, rfl, by simpa using hb⟩ (by omega) (by simp [cap]; omega)
  refine ⟨kept, x', hs, hb'.mono (by omega), ?_⟩
  rw [evE_lc (C := ⟨call, io, [0]⟩) (n := m + 19) (h1 := hi) (h2 := by simp [ownFz]) (h3 := by simpa [wipeD] using h3)]
  simp [restD]
theorem right_run {ir it ii ib : Nat} (hir : io ir = [0]) (hit : io it = [0]) (hii : io ii = [0]) (hib : io ib = []) (RS : RuleSp call ir) (TS : TakeSp call it) (IS : ItemsSp call ii) (BS : BySp call ib) {d : D} {c : Int} (hb : Box c d) (hc : c < 700000000000) :
    ∃ d', runF ⟨call, io, [0]⟩ (f_law_right ir it ii ib) [d] = some (.bl true, [d']) ∧ Box (c + 200) d' := by
  obtain ⟨r, d1, g1, hr, b1⟩ := RS d c hb (by omega)
  obtain ⟨lap, d2, g2, hlap, b2⟩ := tkI TS d1 _ 21 b1 (by omega) (by omega) (by omega)
  obtain ⟨old, d3, g3, pw, h40, l1, l10, _, b3⟩ := IS d2 _ 10 (by omega) (by omega) b2 (by omega)
  obtain ⟨used, d4, g4, hu, b4⟩ := tkI TS d3 _ ((old.length : Int) + 1) b3 (by omega) (by omega) (by omega)
  have nd : old.Nodup := pw.imp fun h => Nat.ne_of_lt h
  have z10 : ((10 : Nat) : Int) = 10 := rfl
  rw [z10] at g3
  obtain ⟨x0, rfl, f0, t0⟩ := box_lst hb
  obtain ⟨x1, rfl, f1, t1⟩ := box_lst b1
  obtain ⟨x2, rfl, f2, t2⟩ := box_lst b2
  obtain ⟨x3, rfl, f3, t3⟩ := box_lst b3
  obtain ⟨x4, rfl, f4, t4⟩ := box_lst b4
  have fr : r.d.fz = true := Rule.fz r
  have fo := nts_fz old
  have qo := nts_frz old
  have lo : old.length ≤ 1000000 := by omega
  have xo : ∀ x ∈ old, x ≤ 1000 := fun x hx => by have := h40 x hx; omega
  have B1 := BS r lap used old old hr (by omega) (by omega) (by omega) (by omega) nd nd xo xo
  rw [same_items hr nd (by omega)] at B1
  have ia : isAtom r.d = false := rfl
  have iI : ∀ z : Int, isAtom (.int z) = true := fun _ => rfl
  have it2 : ∀ z : List D, isAtom (.tup z) = false := fun _ => rfl
  -- the others
  have far : ∀ l : List Nat, l.Sublist old → (l.map (· + 45)).Nodup ∧ (∀ x ∈ l.map (· + 45), x ∉ old) ∧ ∀ x ∈ l.map (· + 45), x ≤ 1000 := fun l hs => by
    refine ⟨?_, fun x hx h => ?_, fun x hx => ?_⟩
    · have ndl := nd.sublist hs
      exact List.pairwise_map.mpr (ndl.imp fun h e => h (by omega))
    · obtain ⟨y, _, rfl⟩ := List.mem_map.mp hx
      have := h40 _ h
      omega
    · obtain ⟨y, hy, rfl⟩ := List.mem_map.mp hx
      have := h40 y (hs.subset hy)
      omega
  obtain ⟨o1, o2, o3⟩ := far old (List.Sublist.refl _)
  have B2 := BS r lap used old (old.map (· + 45)) hr (by omega) (by omega) (by omega) (by rw [List.length_map]; omega) nd o1 xo o3
  obtain ⟨p1, p2, p3⟩ := other_items hr (lap := lap) (used := used) nd o1 (by rw [List.length_map]) o2 (by omega)
  generalize byN r lap old (old.map (· + 45)) used = bn at *
  obtain ⟨bd, bm⟩ := bn
  simp only at p1 p2 p3
  subst p1
  have lN : (old.map (· + 45)).length = old.length := List.length_map ..
  have nN : (bm.filter fun x => !(old.map (· + 45)).contains x) = [] := List.filter_eq_nil_iff.mpr fun x hx h => by
    have := p3 x hx
    simp only [Bool.not_eq_true', List.contains_eq_mem, decide_eq_false_iff_not] at h
    exact h this
  have eO : (old.map nt).map (fun d => match d with
      | .int z => D.int (z + 45)
      | _ => .non) = (old.map (· + 45)).map nt := by
    rw [List.map_map, List.map_map]
    rfl
  generalize hnew : old.map (· + 45) = new at *
  have lbm : bm.length ≤ 1000 := by omega
  have fn := nts_fz new
  have qn := nts_frz new
  have fbm := nts_fz bm
  have qbm := nts_frz bm
  obtain ⟨d, outs, e, P⟩ : ∃ d outs, runF ⟨call, io, [0]⟩ (f_law_right ir it ii ib) [.lst true x0] = some (d, outs) ∧ ∃ (d' : D), d = .bl true ∧ outs = [d'] ∧ Box (c + 200) d' := by
    refine W.def (f := f_law_right ir it ii ib) (P := fun d outs => ∃ (d' : D), d = .bl true ∧ outs = [d'] ∧ Box (c + 200) d') (δ0 := [some (.lst true x0), none, none, none, none, none, none, none, none, none, none, none]) rfl rfl ?_
    refine W.cons (δ1 := [some (.lst true x3), none, none, none, none, none, some r.d, some (.int lap), some (tN old), none, none, none]) (by
      generalize r.d = dr at *
      simp [hir, hit, hii, ioOf, backOf, g1, g2, g3, f0, f1, f2, f3, t0, t1, t2, t3, fr, fo, ia, iI, it2]) ?_
    refine W.cons (δ1 := [some (.lst true x4), some (.int used), none, none, none, none, some r.d, some (.int lap), some (tN old), none, none, none]) (by
      generalize r.d = dr at *
      simp [hit, ioOf, backOf, g4, f3, f4, t3, t4, fo, ia, iI, it2]) ?_
    refine W.skip (δ1 := [some (.lst true x4), some (.int used), none, none, none, none, some r.d, some (.int lap), some (tN old), none, none, none]) (by
      generalize r.d = dr at *
      simp [hib, B1, fr, fo, ia, iI, it2, pairL, plain, cap]; done) ?_
    have e2 : ∀ m, evE ⟨call, io, [0]⟩ (m + 30) (.lc (.bin .add (.var 11) (.int 45)) (.nm 11) .val [(.var 8)] [] [11]) [some (.lst true x4), some (.int used), none, none, none, none, some r.d, some (.int lap), some (tN old), none, none, none] =
        some (.tmp (.lst true (new.map nt)), [some (.lst true x4), some (.int used), none, none, none, none, some r.d, some (.int lap), some (tN old), none, none, none]) := fun m => by
      generalize r.d = dr at *
      rw [← eO]
      refine ev_lc (C := ⟨call, io, [0]⟩) (n := m + 29) (v := 11) (f := _) (xs := old.map nt) (δ := [some (.lst true x4), some (.int used), none, none, none, none, some dr, some (.int lap), some (tN old), none, none, none]) rfl (by simp [fo, qo]) (by simp) (by simp [ownFz]) (by simp [cap]; omega) (fun x hx => ?_) (by omega)
      obtain ⟨y, _, rfl⟩ := List.mem_map.mp hx
      simp
    refine W.cons (δ1 := [some (.lst true x4), some (.int used), some (tN new), none, none, none, some r.d, some (.int lap), some (tN old), none, none, none]) (by
      generalize r.d = dr at *
      simp [-qevE_lc, e2, items, fn]; done) ?_
    refine W.cons (δ1 := [some (.lst true x4), some (.int used), some (tN new), none, none, none, some r.d, some (.int lap), some (tN old), some (.lst false []), some (.lst false (bm.map nt)), none]) (by
      generalize r.d = dr at *
      simp [hib, B2, fr, fo, fn, ia, iI, it2, pairL, fbm]; done) ?_
    have e3 : ∀ m, evE ⟨call, io, [0]⟩ (m + 20) (.lc (.var 11) (.nm 11) .val [(.var 10)] [(.cmp .notin (.var 11) (.var 2))] [11]) [some (.lst true x4), some (.int used), some (tN new), none, none, none, some r.d, some (.int lap), some (tN old), some (.lst false []), some (.lst false (bm.map nt)), none] =
        some (.tmp (.lst true []), [some (.lst true x4), some (.int used), some (tN new), none, none, none, some r.d, some (.int lap), some (tN old), some (.lst false []), some (.lst false (bm.map nt)), none]) := fun m => by
      generalize r.d = dr at *
      have := lcN (C := ⟨call, io, [0]⟩) (v := 11) (c := .cmp .notin (.var 11) (.var 2)) (k := .val) (its := [.var 10]) (δ0 := [some (.lst true x4), some (.int used), some (tN new), none, none, none, some dr, some (.int lap), some (tN old), some (.lst false []), some (.lst false (bm.map nt)), none]) (δ := [some (.lst true x4), some (.int used), some (tN new), none, none, none, some dr, some (.int lap), some (tN old), some (.lst false []), some (.lst false (bm.map nt)), none]) (xs := bm) (fun x => !new.contains x) rfl (fun m => by simp [fbm, qbm]) (by simp) (by simp [ownFz]) (by simp [cap]; omega)
        (fun x hx m => by have := notin_tN x new; simp [fn, this]) m
      rw [nN] at this
      exact this
    have lbm2 : (bm.length == used) = true := by simp [p2]
    refine W.skip (δ1 := [some (.lst true x4), some (.int used), some (tN new), none, none, none, some r.d, some (.int lap), some (tN old), some (.lst false []), some (.lst false (bm.map nt)), none]) (by
      generalize r.d = dr at *
      simp [-qevE_lc, e3, fbm, plain, nat_beq, p2]; done) ?_
    obtain ⟨kept, x5, hks, b5, e4⟩ := kept_lc (call := call) (io := io) hit TS b4 (by omega) (old := old) (by omega) (a1 := some (.int used)) (a2 := some (tN new)) (a3 := none) (a4 := none) (a5 := none) (a6 := some r.d) (a7 := some (.int lap)) (a9 := some (.lst false [])) (a10 := some (.lst false (bm.map nt))) 71
    have fk := nts_fz kept
    have qk := nts_frz kept
    obtain ⟨f5, t5⟩ := box_fz b5
    refine W.cons (δ1 := [some (.lst true x5), some (.int used), some (tN new), some (.lst true (kept.map nt)), none, none, some r.d, some (.int lap), some (tN old), some (.lst false []), some (.lst false (bm.map nt)), none]) (by
      generalize r.d = dr at *
      simp [-qevE_lc, e4]; done) ?_
    obtain ⟨q1, q2, q3⟩ := far (old.filter fun x => !kept.contains x) List.filter_sublist
    have sf := sub_filter nd hks
    have lfar : ((old.filter fun x => !kept.contains x).map (· + 45)).length = (old.filter fun x => !kept.contains x).length := List.length_map ..
    have pm2 := sortN_perm (kept ++ (old.filter fun x => !kept.contains x).map (· + 45))
    have lm := pm2.length_eq
    rw [List.length_append, lfar, sf] at lm
    have nm : (sortN (kept ++ (old.filter fun x => !kept.contains x).map (· + 45))).Nodup := pm2.nodup_iff.mpr (List.nodup_append.mpr ⟨nd.sublist hks, q1, fun a ha b hb2 e => q2 b hb2 (by rw [← e]; exact hks.subset ha)⟩)
    have xm : ∀ x ∈ sortN (kept ++ (old.filter fun x => !kept.contains x).map (· + 45)), x ≤ 1000 := fun x hx => by
      rcases List.mem_append.mp (pm2.mem_iff.mp hx) with h | h
      · exact xo x (hks.subset h)
      · exact q3 x h
    have B3 := BS r lap used old _ hr (by omega) (by omega) (by omega) (by omega) nd nm xo xm
    obtain ⟨v1, v2, v3⟩ := mixed_items hr (lap := lap) (used := used) nd nm pm2 lm hks q2 (by omega)
    have e5 : ∀ m, evE ⟨call, io, [0]⟩ (m + 30) (.lc (.bin .add (.var 11) (.int 45)) (.nm 11) .val [(.var 8)] [(.cmp .notin (.var 11) (.var 3))] [11]) [some (.lst true x5), some (.int used), some (tN new), some (.lst true (kept.map nt)), none, none, some r.d, some (.int lap), some (tN old), some (.lst false []), some (.lst false (bm.map nt)), none] =
        some (.tmp (.lst true (((old.filter fun x => !kept.contains x).map (· + 45)).map nt)), [some (.lst true x5), some (.int used), some (tN new), some (.lst true (kept.map nt)), none, none, some r.d, some (.int lap), some (tN old), some (.lst false []), some (.lst false (bm.map nt)), none]) := fun m => by
      generalize r.d = dr at *
      refine (ev_lcIf (C := ⟨call, io, [0]⟩) (n := m + 28) (v := 11) (p := fun d => match d with
        | .int z => !kept.contains z.toNat
        | _ => false) (f := fun d => match d with
        | .int z => .int (z + 45)
        | _ => .non) (xs := old.map nt) (δ := [some (.lst true x5), some (.int used), some (tN new), some (.lst true (kept.map nt)), none, none, some dr, some (.int lap), some (tN old), some (.lst false []), some (.lst false (bm.map nt)), none]) rfl (by simp [fo, qo]) (by simp) (by simp [ownFz]) (by simp [cap]; omega) (fun x hx => ?_) (fun x hx _ => ?_)).trans ?_
      · obtain ⟨y, _, rfl⟩ := List.mem_map.mp hx
        have := notin_lN y true kept
        simp only [Int.toNat_natCast]
        generalize kept.contains y = bb at *
        simp [fk, this]
      · obtain ⟨y, _, rfl⟩ := List.mem_map.mp hx
        simp
      · simp only [List.filter_map, List.map_map]
        rfl
    generalize hf : (old.filter fun x => !kept.contains x).map (· + 45) = fl at *
    have ff := nts_fz fl
    have so := sorted_nts true (kept ++ fl)
    rw [List.map_append] at so
    have lk : kept.length ≤ 40 := by have := hks.length_le; omega
    have lfl : fl.length ≤ 40 := by omega
    generalize hmx : sortN (kept ++ fl) = mx at *
    have fm := nts_fz mx
    have lmx : mx.length ≤ 1000000 := by omega
    have lkf : kept.length + fl.length ≤ 1000000 := by omega
    refine W.cons (δ1 := [some (.lst true x5), some (.int used), some (tN new), some (.lst true (kept.map nt)), some (tN mx), none, some r.d, some (.int lap), some (tN old), some (.lst false []), some (.lst false (bm.map nt)), none]) (by
      generalize r.d = dr at *
      simp [-qevE_lc, -qbi_sort1, e5, fk, ff, so, fm, items, cap, lmx, lkf]; done) ?_
    have bl := by_len hr lap old mx used
    generalize byN r lap old mx used = bn2 at *
    obtain ⟨bd2, bm2⟩ := bn2
    simp only at v1 v2 v3 bl
    have fb1 := nts_fz bd2
    have fb2 := nts_fz bm2
    have qb1 := nts_frz bd2
    refine W.cons (δ1 := [some (.lst true x5), some (.int used), some (tN new), some (.lst true (kept.map nt)), some (tN mx), none, some r.d, some (.int lap), some (tN old), some (.lst false (bd2.map nt)), some (.lst false (bm2.map nt)), none]) (by
      generalize r.d = dr at *
      simp [hib, B3, fr, fo, fm, ia, iI, it2, pairL, fb1, fb2]; done) ?_
    have e6 : ∀ m, evE ⟨call, io, [0]⟩ (m + 20) (.lc (.var 11) (.nm 11) .val [(.var 8)] [(.cmp .notin (.var 11) (.var 3))] [11]) [some (.lst true x5), some (.int used), some (tN new), some (.lst true (kept.map nt)), some (tN mx), none, some r.d, some (.int lap), some (tN old), some (.lst false (bd2.map nt)), some (.lst false (bm2.map nt)), none] =
        some (.tmp (.lst true ((old.filter fun x => !kept.contains x).map nt)), [some (.lst true x5), some (.int used), some (tN new), some (.lst true (kept.map nt)), some (tN mx), none, some r.d, some (.int lap), some (tN old), some (.lst false (bd2.map nt)), some (.lst false (bm2.map nt)), none]) := fun m => by
      generalize r.d = dr at *
      exact lcN (C := ⟨call, io, [0]⟩) (v := 11) (c := .cmp .notin (.var 11) (.var 3)) (k := .val) (its := [.var 8]) (xs := old) (fun x => !kept.contains x) rfl (fun m => by simp [fo, qo]) (by simp) (by simp [ownFz]) (by simp [cap]; omega)
        (fun x hx m => by have := notin_lN x true kept; generalize kept.contains x = bb at *; simp [fk, this]) m
    have fg := nts_fz (old.filter fun x => !kept.contains x)
    generalize (old.filter fun x => !kept.contains x) = gn at *
    refine W.cons (δ1 := [some (.lst true x5), some (.int used), some (tN new), some (.lst true (kept.map nt)), some (tN mx), some (.int gn.length), some r.d, some (.int lap), some (tN old), some (.lst false (bd2.map nt)), some (.lst false (bm2.map nt)), none]) (by
      generalize r.d = dr at *
      simp [-qevE_lc, e6, fg]; done) ?_
    have n7 : (bd2.filter fun x => !kept.contains x) = [] := List.filter_eq_nil_iff.mpr fun x hx h => by
      have := v1 x hx
      simp only [Bool.not_eq_true', List.contains_eq_mem, decide_eq_false_iff_not] at h
      exact h this
    have lb2 : bd2.length ≤ 1000 := by omega
    have e7 : ∀ m, evE ⟨call, io, [0]⟩ (m + 20) (.lc (.var 11) (.nm 11) .val [(.var 9)] [(.cmp .notin (.var 11) (.var 3))] [11]) [some (.lst true x5), some (.int used), some (tN new), some (.lst true (kept.map nt)), some (tN mx), some (.int gn.length), some r.d, some (.int lap), some (tN old), some (.lst false (bd2.map nt)), some (.lst false (bm2.map nt)), none] =
        some (.tmp (.lst true []), [some (.lst true x5), some (.int used), some (tN new), some (.lst true (kept.map nt)), some (tN mx), some (.int gn.length), some r.d, some (.int lap), some (tN old), some (.lst false (bd2.map nt)), some (.lst false (bm2.map nt)), none]) := fun m => by
      generalize r.d = dr at *
      have := lcN (C := ⟨call, io, [0]⟩) (v := 11) (c := .cmp .notin (.var 11) (.var 3)) (k := .val) (its := [.var 9]) (δ0 := [some (.lst true x5), some (.int used), some (tN new), some (.lst true (kept.map nt)), some (tN mx), some (.int gn.length), some dr, some (.int lap), some (tN old), some (.lst false (bd2.map nt)), some (.lst false (bm2.map nt)), none]) (δ := [some (.lst true x5), some (.int used), some (tN new), some (.lst true (kept.map nt)), some (tN mx), some (.int gn.length), some dr, some (.int lap), some (tN old), some (.lst false (bd2.map nt)), some (.lst false (bm2.map nt)), none]) (xs := bd2) (fun x => !kept.contains x) rfl (fun m => by simp [fb1, qb1]) (by simp) (by simp [ownFz]) (by simp [cap]; omega)
        (fun x hx m => by have := notin_lN x true kept; generalize kept.contains x = bb at *; simp [fk, this]) m
      rw [n7] at this
      exact this
    refine W.skip (δ1 := [some (.lst true x5), some (.int used), some (tN new), some (.lst true (kept.map nt)), some (tN mx), some (.int gn.length), some r.d, some (.int lap), some (tN old), some (.lst false (bd2.map nt)), some (.lst false (bm2.map nt)), none]) (by
      generalize r.d = dr at *
      simp [-qevE_lc, e7, plain]; done) ?_
    have v3' : (bm2.length : Int) ≤ (bd2.length : Int) + (gn.length : Int) := by omega
    refine W.ret (d := .bl true) (δ1 := [some (.lst true x5), some (.int used), some (tN new), some (.lst true (kept.map nt)), some (tN mx), some (.int gn.length), some r.d, some (.int lap), some (tN old), some (.lst false (bd2.map nt)), some (.lst false (bm2.map nt)), none]) (by
      generalize r.d = dr at *
      simp [fb1, fb2, v2, v3']; done) ⟨[.lst true x5], by simp [f_law_right, outsOf, flatOwn, t5], _, rfl, rfl, b5.mono (by omega)⟩
  obtain ⟨d', rfl, rfl, h⟩ := P
  exact ⟨d', e, h⟩
end
end Ev.K61

set_option linter.all false
set_option maxRecDepth 100000
set_option maxHeartbeats 4000000
/-! K62: an item more, an item less -/
namespace Ev.K62
open PySem Ev Ev.Bu Ev.U Ev.Ch Ev.Ro
def f_by_keys (i1 i2 iv it : Nat) : Fn := { n := 11, ps := 5, io := [], body := [.ifs (.cmp .ne (.sub (.var 0) (.int 0)) (.con (.str (Str.ofString "keys")))) [.bad] [],
    .asg (.nm 5) (.call i1 [(.var 0), (.var 1), (.var 2), (.var 4)]),
    .ifs (.cmp .eq (.var 4) (.int 0)) [.ret (.call i2 [(.var 5), (.call iv [(.var 0), (.var 3), (.var 1)]), (.var 3)])] [],
    .asg (.nm 6) (.sub (.var 5) (.neg (.int 1))),
    .asg (.nm 7) (.lc (.var 10) (.nm 10) .val [(.call it [(.var 3)])] [(.cmp .ne (.var 10) (.var 6))] [10]),
    .asg (.nm 8) (.call iv [(.var 0), (.bi .tuple1 [(.bi .sorted1 [(.disS true [(.var 6)] (.var 7) [])])]), (.var 1)]),
    .asg (.nm 9) (.slice (.var 8) (some (.bin .add (.meth .index (.var 8) [(.var 6)]) (.int 1))) none),
    .ret (.call i2 [(.var 5), (.lc (.var 10) (.nm 10) .val [(.var 9)] [(.cmp .isin (.var 10) (.var 7))] [10]), (.var 3)])] }
section
variable {call : Nat → List D → Option (D × List D)} {io : Nat → List Nat}
theorem keys_ok0 : PyData.strOk (Str.ofString "keys") = true := by decide +kernel
abbrev RK (a b m : Nat) : D := (Rule.keys a b m).d
abbrev C2 (call : Nat → List D → Option (D × List D)) (i2 : Nat) (new : List Nat) : Prop := ∀ o p (ahead come : List Nat), ahead.length ≤ 1000 → come.length ≤ 1000 → call i2 [.lst o (ahead.map nt), .lst p (come.map nt), tN new] = some (pairL (doubM ahead come, missM ahead come new), [])
theorem sub0 {a b m : Nat} {s : Dl} (k : Nat) : evE ⟨call, io, []⟩ (k + 10) (.sub (.var 0) (.int 0)) (some (RK a b m) :: s) = some (.tmp (.str (Str.ofString "keys")), some (RK a b m) :: s) := by
  have iz := ixN_zero (Rule.keys a b m).ns.length
  have s0 : small62 0 = true := by decide +kernel
  have fr2 := Rule.fz (Rule.keys a b m)
  have f3 := nts_fz (Rule.keys a b m).ns
  unfold RK Rule.d
  simp [iz, s0, fr2, f3, Rule.w]
theorem used0 {i1 i2 iv it : Nat} (h1 : io i1 = []) (h2 : io i2 = []) (hv : io iv = []) {a b m lap : Nat} {old new rn : List Nat} (hn : rn.length ≤ 1000) (c1 : call i1 [RK a b m, .int lap, tN old, .int (0 : Nat)] = some (.lst true (([] : List Nat).map nt), []))
    (cv : call iv [RK a b m, tN new, .int lap] = some (.lst true (rn.map nt), [])) (c2 : C2 call i2 new) :
    runF ⟨call, io, []⟩ (f_by_keys i1 i2 iv it) [RK a b m, .int lap, tN old, tN new, .int (0 : Nat)] = some (pairL (doubM [] rn, missM [] rn new), []) := by
  have fr : (RK a b m).fz = true := Rule.fz _
  have ia : isAtom (RK a b m) = false := rfl
  have iI : ∀ z : Int, isAtom (.int z) = true := fun _ => rfl
  have it2 : ∀ z : List D, isAtom (.tup z) = false := fun _ => rfl
  have f1 := nts_fz old
  have f2 := nts_fz new
  have f3 := nts_fz rn
  have C2 := fun o p => c2 o p [] rn (by simp) hn
  simp only [List.map_nil] at c1 C2
  have k0 := keys_ok0
  have e0 := fun s k => sub0 (call := call) (io := io) (a := a) (b := b) (m := m) (s := s) k
  refine W.run (f := f_by_keys i1 i2 iv it) (δ0 := [some (RK a b m), some (.int lap), some (tN old), some (tN new), some (.int (0 : Nat)), none, none, none, none, none, none]) rfl rfl ?_
  generalize RK a b m = z at *
  refine W.skip (δ1 := [some z, some (.int lap), some (tN old), some (tN new), some (.int (0 : Nat)), none, none, none, none, none, none]) (by simp [-qevE_sub, e0, plain, k0, Kc.toD]; done) ?_
  refine W.cons (δ1 := [some z, some (.int lap), some (tN old), some (tN new), some (.int (0 : Nat)), some (.lst true []), none, none, none, none, none]) (by simp at c1; simp [fr, f1, h1, c1, ia, iI, it2]; done) ?_
  refine W.ifT (δ1 := [some z, some (.int lap), some (tN old), some (tN new), some (.int (0 : Nat)), some (.lst true []), none, none, none, none, none]) (by simp [plain]; done) ?_
  generalize doubM [] rn = dm at *
  generalize missM [] rn new = mm at *
  refine W.ret (d := pairL (dm, mm)) (δ1 := [some z, some (.int lap), some (tN old), some (tN new), some (.int (0 : Nat)), some (.lst false []), none, none, none, none, none]) (by simp [fr, f2, f3, hv, cv, h2, C2, ia, iI, it2, pairL]; done) ⟨_, rfl, rfl⟩
theorem usedS {i1 i2 iv it : Nat} (h1 : io i1 = []) (h2 : io i2 = []) (hv : io iv = []) (hit : io it = []) {a b m lap used last j : Nat} {old new al pre both : List Nat} (hal : al = pre ++ [last]) (hu : 0 < used) (la : al.length ≤ 1000) (ln : new.length ≤ 900) (lb : both.length ≤ 1000)
    (c1 : call i1 [RK a b m, .int lap, tN old, .int used] = some (.lst true (al.map nt), [])) (ct : call it [tN new] = some (tN new, []))
    (cb : call iv [RK a b m, tN (sortN (last :: new.filter fun x => x != last)), .int lap] = some (.lst true (both.map nt), [])) (hj : idx last both = some j) (c2 : C2 call i2 new) :
    runF ⟨call, io, []⟩ (f_by_keys i1 i2 iv it) [RK a b m, .int lap, tN old, tN new, .int used] = some (pairL (doubM al ((both.drop (j + 1)).filter fun x => (new.filter fun x => x != last).contains x), missM al ((both.drop (j + 1)).filter fun x => (new.filter fun x => x != last).contains x) new), []) := by
  have fr : (RK a b m).fz = true := Rule.fz _
  have ia : isAtom (RK a b m) = false := rfl
  have iI : ∀ z : Int, isAtom (.int z) = true := fun _ => rfl
  have it2 : ∀ z : List D, isAtom (.tup z) = false := fun _ => rfl
  have f1 := nts_fz old
  have f2 := nts_fz new
  have q2 := nts_frz new
  have f3 := nts_fz al
  have q3 := nts_frz al
  have f4 := nts_fz both
  have k0 := keys_ok0
  have e0 := fun s k => sub0 (call := call) (io := io) (a := a) (b := b) (m := m) (s := s) k
  have lc0 : ((both.drop (j + 1)).filter fun x => (new.filter fun x => x != last).contains x).length ≤ 1000 := by
    refine Nat.le_trans (List.length_filter_le _ _) ?_
    rw [List.length_drop]
    omega
  have CC := fun o p => c2 o p al _ la lc0
  refine W.run (f := f_by_keys i1 i2 iv it) (δ0 := [some (RK a b m), some (.int lap), some (tN old), some (tN new), some (.int used), none, none, none, none, none, none]) rfl rfl ?_
  generalize RK a b m = z at *
  refine W.skip (δ1 := [some z, some (.int lap), some (tN old), some (tN new), some (.int used), none, none, none, none, none, none]) (by simp [-qevE_sub, e0, plain, k0, Kc.toD]; done) ?_
  refine W.cons (δ1 := [some z, some (.int lap), some (tN old), some (tN new), some (.int used), some (.lst true (al.map nt)), none, none, none, none, none]) (by simp [fr, f1, h1, c1, ia, iI, it2]; done) ?_
  have un : ((used : Int) == 0) = false := by rw [beq_eq_false_iff_ne]; omega
  refine W.skip (δ1 := [some z, some (.int lap), some (tN old), some (tN new), some (.int used), some (.lst true (al.map nt)), none, none, none, none, none]) (by simp [plain, un]; done) ?_
  have nl : ixN (al.map nt).length (-1) = some pre.length := by rw [hal, List.map_append]; exact (neg_last (l := pre.map nt) (x := nt last)).trans (by simp)
  have gl : (al.map nt)[pre.length]? = some (nt last) := by rw [hal]; simp
  have sn : small62 (-1) = true := by decide +kernel
  refine W.cons (δ1 := [some z, some (.int lap), some (tN old), some (tN new), some (.int used), some (.lst true (al.map nt)), some (nt last), none, none, none, none]) (by simp only [List.length_map] at nl; simp [f3, nl, gl, sn]; done) ?_
  have e7 := fun (k : Nat) => lcN (C := ⟨call, io, []⟩) (v := 10) (c := .cmp .ne (.var 10) (.var 6)) (k := .val) (its := [.call it [(.var 3)]]) (δ0 := [some z, some (.int lap), some (tN old), some (tN new), some (.int used), some (.lst true (al.map nt)), some (nt last), none, none, none, none]) (δ := [some z, some (.int lap), some (tN old), some (tN new), some (.int used), some (.lst true (al.map nt)), some (nt last), none, none, none, none]) (xs := new) (fun x => x != last) rfl (fun m => by simp [f2, q2, hit, ct, it2]) (by simp) (by simp [ownFz]) (by simp [cap]; omega)
    (fun x hx m => by simp [plain, nat_beq, bne]) k
  have ls : (new.filter fun x => x != last).length ≤ 900 := Nat.le_trans (List.length_filter_le _ _) ln
  generalize (new.filter fun x => x != last) = so at *
  refine W.cons (δ1 := [some z, some (.int lap), some (tN old), some (tN new), some (.int used), some (.lst true (al.map nt)), some (nt last), some (.lst true (so.map nt)), none, none, none]) (by simp [-qevE_lc, e7]; done) ?_
  have fs := nts_fz so
  have qs := nts_frz so
  have srt := sorted_nts true (last :: so)
  have fm := nts_fz (sortN (last :: so))
  have lm : (sortN (last :: so)).length ≤ 1000 := by rw [sortN_len]; simp; omega
  have lm2 : (sortN (last :: so)).length ≤ 1000000 := by omega
  have ls2 : 1 + so.length ≤ 1000000 := by omega
  rw [List.map_cons] at srt
  generalize sortN (last :: so) = sl at *
  have eS : ∀ k, evE ⟨call, io, []⟩ (k + 10) (.disS true [(.var 6)] (.var 7) []) [some z, some (.int lap), some (tN old), some (tN new), some (.int used), some (.lst true (al.map nt)), some (nt last), some (.lst true (so.map nt)), none, none, none] = some (.tmp (.lst true (nt last :: so.map nt)), [some z, some (.int lap), some (tN old), some (tN new), some (.int used), some (.lst true (al.map nt)), some (nt last), some (.lst false (so.map nt)), none, none, none]) := fun k => by
    simp [fs, qs, items, disD, cap, ls2]
    done
  refine W.cons (δ1 := [some z, some (.int lap), some (tN old), some (tN new), some (.int used), some (.lst true (al.map nt)), some (nt last), some (.lst false (so.map nt)), some (.lst true (both.map nt)), none, none]) (by simp [-qevE_disS, -qbi_sort1, eS, fr, items, srt, fm, lm2, hv, cb, ia, iI, it2, cap]; done) ?_
  have hI : intsOf (both.map nt) = some (both.map fun (n : Nat) => (n : Int)) := intsOf_nts both
  have hx := idx_ixOf last both
  rw [hj] at hx
  have cd := cutD_from nt both (j + 1)
  have f5 := nts_fz (both.drop (j + 1))
  have q5 := nts_frz (both.drop (j + 1))
  have ld : (both.drop (j + 1)).length ≤ 1000 := by rw [List.length_drop]; omega
  have ej : ((j : Int) + 1) = ((j + 1 : Nat) : Int) := by omega
  generalize j + 1 = j1 at *
  generalize both.drop j1 = bh at *
  refine W.cons (δ1 := [some z, some (.int lap), some (tN old), some (tN new), some (.int used), some (.lst true (al.map nt)), some (nt last), some (.lst false (so.map nt)), some (.lst true (both.map nt)), some (.lst true (bh.map nt)), none]) (by simp [f4, noPath, isLst, methR, hI, hx, ej, cd, f5]; done) ?_
  have e9 := fun (k : Nat) => lcN (C := ⟨call, io, []⟩) (v := 10) (c := .cmp .isin (.var 10) (.var 7)) (k := .val) (its := [(.var 9)]) (δ0 := [some z, some (.int lap), some (tN old), some (tN new), some (.int used), some (.lst true (al.map nt)), some (nt last), some (.lst false (so.map nt)), some (.lst true (both.map nt)), some (.lst true (bh.map nt)), none]) (δ := [some z, some (.int lap), some (tN old), some (tN new), some (.int used), some (.lst true (al.map nt)), some (nt last), some (.lst false (so.map nt)), some (.lst true (both.map nt)), some (.lst false (bh.map nt)), none]) (xs := bh) (fun x => so.contains x) rfl (fun m => by simp [f5, q5]) (by simp) (by simp [ownFz]) (by simp [cap]; omega)
    (fun x hx m => by have := in_lN x false so; generalize so.contains x = bb at *; simp [fs, this]) k
  generalize (bh.filter fun x => so.contains x) = come at *
  have f9 := nts_fz come
  generalize doubM al come = dm at *
  generalize missM al come new = mm at *
  refine W.ret (d := pairL (dm, mm)) (δ1 := [some z, some (.int lap), some (tN old), some (tN new), some (.int used), some (.lst false (al.map nt)), some (nt last), some (.lst false (so.map nt)), some (.lst true (both.map nt)), some (.lst false (bh.map nt)), none]) (by clear hal nl gl srt hI hx cd cb e7 e0 c1 ct c2 hj; simp [-qevE_lc, e9, f2, f3, q3, f9, h2, CC, ia, iI, it2, pairL]; done) ⟨_, rfl, rfl⟩
end
end Ev.K62

set_option linter.all false
set_option maxRecDepth 100000
set_option maxHeartbeats 4000000
/-! KB: going on by the keys, as a plain law -/
namespace Ev.Ro
open PySem Ev Ev.Bu Ev.U Ev.Ch
def kv (a b m lap x : Nat) : Nat := ((a * x + b * lap) % m) * 1001 + x
def kq (p : Nat × Nat) : Nat := p.1 * 1001 + p.2
theorem ltQ_kq {p q : Nat × Nat} (hp : p.2 ≤ 1000) (hq : q.2 ≤ 1000) : ltQ p q = decide (kq p < kq q) := by
  unfold ltQ kq
  rw [Bool.eq_iff_iff]
  simp only [Bool.or_eq_true, Bool.and_eq_true, Nat.blt_eq, Nat.beq_eq, decide_eq_true_eq]
  omega
theorem insQ_pw {p : Nat × Nat} (hp : p.2 ≤ 1000) : ∀ {l : List (Nat × Nat)}, (∀ q ∈ l, q.2 ≤ 1000) → l.Pairwise (fun x y => kq x ≤ kq y) → (insQ p l).Pairwise (fun x y => kq x ≤ kq y)
  | [], _, _ => by simp [insQ]
  | q :: l, h2, h => by
    obtain ⟨h3, h4⟩ := List.pairwise_cons.mp h
    unfold insQ
    rw [ltQ_kq (h2 q (by simp)) hp]
    by_cases c : kq q < kq p
    · rw [decide_eq_true c, if_pos rfl]
      refine List.pairwise_cons.mpr ⟨fun z hz => ?_, insQ_pw hp (fun z hz => h2 z (by simp [hz])) h4⟩
      rcases List.mem_cons.mp ((insQ_perm p l).mem_iff.mp hz) with e | hz
      · subst e; omega
      · exact h3 z hz
    · rw [decide_eq_false c, if_neg (by simp)]
      refine List.pairwise_cons.mpr ⟨fun z hz => ?_, h⟩
      rcases List.mem_cons.mp hz with e | hz
      · subst e; omega
      · have := h3 z hz; omega
theorem sortQ_pw : ∀ {l : List (Nat × Nat)}, (∀ q ∈ l, q.2 ≤ 1000) → (sortQ l).Pairwise (fun x y => kq x ≤ kq y)
  | [], _ => .nil
  | p :: l, h => insQ_pw (h p (by simp)) (fun q hq => h q (by simp [(sortQ_perm l).mem_iff.mp hq])) (sortQ_pw fun q hq => h q (by simp [hq]))
theorem keysM_pw {a b m lap : Nat} {l : List Nat} (hx : ∀ x ∈ l, x ≤ 1000) (nd : l.Nodup) : (keysM a b m l lap).Pairwise (fun x y => kv a b m lap x < kv a b m lap y) := by
  have pm := keys_perm a b m l lap
  have nd' : (keysM a b m l lap).Nodup := pm.nodup_iff.mpr nd
  have hx' : ∀ x ∈ keysM a b m l lap, x ≤ 1000 := fun x h => hx x (pm.mem_iff.mp h)
  have le : (keysM a b m l lap).Pairwise (fun x y => kv a b m lap x ≤ kv a b m lap y) := by
    unfold keysM
    rw [List.pairwise_map]
    have h0 := sortQ_pw (l := l.map fun x => ((a * x + b * lap) % m, x)) (fun q hq => by
      obtain ⟨x, h, rfl⟩ := List.mem_map.mp hq
      exact hx x h)
    refine h0.imp_of_mem fun {p q} hp hq h => ?_
    obtain ⟨x, _, rfl⟩ := List.mem_map.mp ((sortQ_perm _).mem_iff.mp hp)
    obtain ⟨y, _, rfl⟩ := List.mem_map.mp ((sortQ_perm _).mem_iff.mp hq)
    exact h
  refine (le.and nd').imp_of_mem fun {x y} h1 h2 h => ?_
  obtain ⟨h3, h4⟩ := h
  have b1 := hx' x h1
  have b2 := hx' y h2
  unfold kv at h3 ⊢
  generalize (a * x + b * lap) % m = r at *
  generalize (a * y + b * lap) % m = s at *
  omega
theorem split_key {k : Nat → Nat} {l pre post : List Nat} {z : Nat} (h : l.Pairwise fun x y => k x < k y) (e : l = pre ++ z :: post) : (∀ x, x ∈ pre ++ [z] ↔ x ∈ l ∧ k x ≤ k z) ∧ (∀ x, x ∈ post ↔ x ∈ l ∧ k z < k x) := by
  subst e
  rw [List.pairwise_append] at h
  obtain ⟨_, h2, h3⟩ := h
  obtain ⟨h4, _⟩ := List.pairwise_cons.mp h2
  constructor
  · intro x
    simp only [List.mem_append, List.mem_cons, List.not_mem_nil, or_false]
    constructor
    · rintro (h | h)
      · have := h3 x h z (by simp); exact ⟨.inl h, by omega⟩
      · subst h; exact ⟨.inr (.inl rfl), by omega⟩
    · rintro ⟨h | h | h, q⟩
      · exact .inl h
      · exact .inr h
      · have := h4 x h; omega
  · intro x
    simp only [List.mem_append, List.mem_cons]
    constructor
    · intro h
      exact ⟨.inr (.inr h), h4 x h⟩
    · rintro ⟨h | h | h, q⟩
      · have := h3 x h z (by simp); omega
      · subst h; omega
      · exact h
def missK (a b m lap : Nat) (old new : List Nat) (used : Nat) : List Nat := if used = 0 then [] else
  new.filter fun x => !old.contains x && decide (kv a b m lap x ≤ kv a b m lap ((keysM a b m old lap).getD (used - 1) 0))
theorem at_split {l : List Nat} {i : Nat} (h : i < l.length) : l = l.take i ++ l.getD i 0 :: l.drop (i + 1) ∧ l.take (i + 1) = l.take i ++ [l.getD i 0] := by
  rw [List.getD_eq_getElem?_getD, List.getElem?_eq_getElem h, Option.getD_some]
  constructor
  · rw [← List.drop_eq_getElem_cons h, List.take_append_drop]
  · rw [List.take_succ, List.getElem?_eq_getElem h]; rfl
/-- what is doubled and missed behind one -/
theorem keys_law {a b m lap last j : Nat} {old new al pre post both : List Nat} (hor : keysM a b m old lap = pre ++ last :: post) (hal : al = pre ++ [last]) (hxo : ∀ x ∈ old, x ≤ 1000) (hxn : ∀ x ∈ new, x ≤ 1000) (ndo : old.Nodup) (ndn : new.Nodup)
    (hb : both = keysM a b m (sortN (last :: new.filter fun x => x != last)) lap) (hj : idx last both = some j) :
    doubM al ((both.drop (j + 1)).filter fun x => (new.filter fun x => x != last).contains x) = [] ∧ missM al ((both.drop (j + 1)).filter fun x => (new.filter fun x => x != last).contains x) new = new.filter fun x => !old.contains x && decide (kv a b m lap x ≤ kv a b m lap last) := by
  have pw := keysM_pw (a := a) (b := b) (m := m) (lap := lap) hxo ndo
  have pm := keys_perm a b m old lap
  have s1 := (split_key pw hor).1
  have hlast : last ≤ 1000 := hxo last (pm.mem_iff.mp (by rw [hor]; simp))
  have pm2 : both.Perm (last :: new.filter fun x => x != last) := by rw [hb]; exact (keys_perm ..).trans (sortN_perm _)
  have nd2 : (last :: new.filter fun x => x != last).Nodup := List.nodup_cons.mpr ⟨by simp, ndn.filter _⟩
  have pw2 : both.Pairwise fun x y => kv a b m lap x < kv a b m lap y := by
    rw [hb]
    refine keysM_pw (fun x hx => ?_) ((sortN_perm _).nodup_iff.mpr nd2)
    rcases List.mem_cons.mp ((sortN_perm _).mem_iff.mp hx) with e | h
    · rw [e]; exact hlast
    · exact hxn x (List.mem_filter.mp h).1
  have gj := idx_some hj
  have hlt : j < both.length := (List.getElem?_eq_some_iff.mp gj).1
  have eb := (at_split hlt).1
  rw [List.getD_eq_getElem?_getD, gj, Option.getD_some] at eb
  have s2 := (split_key pw2 eb).2
  have mc : ∀ x, x ∈ (both.drop (j + 1)).filter (fun x => (new.filter fun x => x != last).contains x) ↔ x ∈ new ∧ kv a b m lap last < kv a b m lap x := fun x => by
    rw [List.mem_filter, s2 x, pm2.mem_iff]
    simp only [List.contains_eq_mem, List.mem_filter, bne_iff_ne, ne_eq, decide_eq_true_eq, List.mem_cons]
    constructor
    · rintro ⟨⟨_, h⟩, h2, _⟩
      exact ⟨h2, h⟩
    · rintro ⟨h, h2⟩
      have : x ≠ last := fun e => by subst e; omega
      exact ⟨⟨.inr ⟨h, this⟩, h2⟩, h, this⟩
  generalize (both.drop (j + 1)).filter (fun x => (new.filter fun x => x != last).contains x) = come at *
  have ma : ∀ x, x ∈ al ↔ x ∈ old ∧ kv a b m lap x ≤ kv a b m lap last := fun x => by rw [hal, s1 x, pm.mem_iff]
  constructor
  · unfold doubM
    have : come.filter (fun x => al.contains x) = [] := List.filter_eq_nil_iff.mpr fun x hx h => by
      have h1 := (mc x).mp hx
      have h2 := (ma x).mp (by simpa using h)
      omega
    rw [this]
    rfl
  · unfold missM
    refine List.filter_congr fun x hx => ?_
    rw [Bool.eq_iff_iff]
    simp only [Bool.and_eq_true, Bool.not_eq_true', List.contains_eq_mem, decide_eq_false_iff_not, decide_eq_true_eq, mc x, ma x]
    constructor
    · rintro ⟨h1, h2⟩
      have h3 : kv a b m lap x ≤ kv a b m lap last := by
        have : ¬ (kv a b m lap last < kv a b m lap x) := fun q => h2 ⟨hx, q⟩
        omega
      exact ⟨fun q => h1 ⟨q, h3⟩, h3⟩
    · rintro ⟨h1, h2⟩
      exact ⟨fun q => h1 q.1, fun q => by omega⟩
def KeysSp (call : Nat → List D → Option (D × List D)) (iby : Nat) : Prop := ∀ (a b m lap used : Nat) (old new : List Nat), (Rule.keys a b m).ok → lap ≤ 1000 → used ≤ old.length → old.length ≤ 900 → new.length ≤ 900 → old.Nodup → new.Nodup → (∀ x ∈ old, x ≤ 1000) → (∀ x ∈ new, x ≤ 1000) →
  call iby [(Rule.keys a b m).d, .int lap, tN old, tN new, .int used] = some (pairL ([], missK a b m lap old new used), [])
theorem keys_sp {T : List Fn} {it ip ik is ib iv i1 i2 iby : Nat} (A : RowsAt T it ip ik is ib iv) (h1 : T[i1]? = some (f_first_used iv)) (h2 : T[i2]? = some (f_told it)) (h3 : T[iby]? = some (Ev.K62.f_by_keys i1 i2 iv it)) (k : Nat) : KeysSp (evF T (k + 14)) iby := by
  intro a b m lap used old new hr hl hu ho hn nd nd2 hx hx2
  rw [evF_run h3]
  have lo : (keysM a b m old lap).length = old.length := (keys_perm ..).length_eq
  have c1 := first_ok A h1 k hr (z := (Rule.keys a b m).d) (.inl rfl) hl hu (by omega) nd hx
  have c2 : Ev.K62.C2 (evF T (k + 13)) i2 new := fun o p ahead come ha hc => told_ok A.t h2 k o p ahead come new ha hc (by omega)
  by_cases hu0 : used = 0
  · subst hu0
    have lr : (keysM a b m new lap).length = new.length := (keys_perm ..).length_eq
    refine (Ev.K62.used0 (call := evF T (k + 13)) (io := fun h => ((T[h]?).map (fun f : Fn => f.io)).getD []) (i1 := i1) (i2 := i2) (iv := iv) (it := it) (old := old) (new := new) (by simp [h1, f_first_used]) (by simp [h2, f_told]) (by simp [A.v, fVirt]) (rn := rowM (.keys a b m) new lap) (by show (keysM a b m new lap).length ≤ 1000; omega) (by simpa only [List.take_zero] using c1) (virt_run A hr (.inl rfl) (by omega) hx2 nd2 hl (k + 1)) c2).trans ?_
    have e1 : doubM [] (rowM (.keys a b m) new lap) = [] := by unfold doubM; rw [List.filter_eq_nil_iff.mpr (fun x _ => by simp)]; rfl
    have e2 : missM [] (rowM (.keys a b m) new lap) new = [] := List.filter_eq_nil_iff.mpr fun x hx h => by
      have : x ∈ keysM a b m new lap := (keys_perm a b m new lap).mem_iff.mpr hx
      simp only [Bool.and_eq_true, Bool.not_eq_true', List.contains_eq_mem, decide_eq_false_iff_not] at h
      exact h.2 this
    rw [e1, e2]
    rfl
  · have hi : used - 1 < (keysM a b m old lap).length := by omega
    obtain ⟨s1, s2⟩ := at_split hi
    rw [show used - 1 + 1 = used by omega] at s1 s2
    generalize hlast : (keysM a b m old lap).getD (used - 1) 0 = last at *
    have nd3 : (last :: new.filter fun x => x != last).Nodup := List.nodup_cons.mpr ⟨by simp, nd2.filter _⟩
    have hlast2 : last ≤ 1000 := hx last ((keys_perm a b m old lap).mem_iff.mp (by rw [s1]; simp))
    have hx3 : ∀ x ∈ sortN (last :: new.filter fun x => x != last), x ≤ 1000 := fun x h => by
      rcases List.mem_cons.mp ((sortN_perm _).mem_iff.mp h) with e | h
      · rw [e]; exact hlast2
      · exact hx2 x (List.mem_filter.mp h).1
    have l3 : (sortN (last :: new.filter fun x => x != last)).length ≤ 901 := by
      rw [sortN_len, List.length_cons]
      have := List.length_filter_le (fun x => x != last) new
      omega
    have pmb := keys_perm a b m (sortN (last :: new.filter fun x => x != last)) lap
    obtain ⟨j, hj⟩ := idx_mem (l := keysM a b m (sortN (last :: new.filter fun x => x != last)) lap) (x := last) (pmb.mem_iff.mpr ((sortN_perm _).mem_iff.mpr (by simp)))
    have lal : ((keysM a b m old lap).take used).length ≤ 1000 := by rw [List.length_take]; omega
    refine (Ev.K62.usedS (call := evF T (k + 13)) (io := fun h => ((T[h]?).map (fun f : Fn => f.io)).getD []) (i1 := i1) (i2 := i2) (iv := iv) (it := it) (last := last) (j := j) (al := (keysM a b m old lap).take used) (pre := (keysM a b m old lap).take (used - 1)) (both := keysM a b m (sortN (last :: new.filter fun x => x != last)) lap) (by simp [h1, f_first_used]) (by simp [h2, f_told]) (by simp [A.v, fVirt]) (by simp [A.t, f_tupled]) s2 (by omega) lal (by omega) (by rw [pmb.length_eq]; omega) c1 (tupled_tN A.t (k + 10) new (by omega)) (virt_run A hr (.inl rfl) (by omega) hx3 ((sortN_perm _).nodup_iff.mpr nd3) hl (k + 1)) hj c2).trans ?_
    obtain ⟨q1, q2⟩ := keys_law (a := a) (b := b) (m := m) (lap := lap) (new := new) s1 s2 hx hx2 nd nd2 rfl hj
    rw [q1, q2]
    unfold missK
    rw [if_neg hu0, hlast]
end Ev.Ro

set_option linter.all false
set_option maxRecDepth 100000
set_option maxHeartbeats 4000000
/-! K62b: an item more, an item less: the law and its run -/
namespace Ev.K62
open PySem Ev Ev.Bu Ev.U Ev.Ch Ev.Ro
theorem kv1 {lap x : Nat} (h : x < 50) : kv 1 0 50 lap x = x * 1001 + x := by
  unfold kv
  rw [Nat.one_mul, Nat.zero_mul, Nat.add_zero, Nat.mod_eq_of_lt h]
theorem last_mem {a b m lap used : Nat} {old : List Nat} (h0 : used ≠ 0) (hu : used ≤ old.length) : (keysM a b m old lap).getD (used - 1) 0 ∈ old := by
  have pm := keys_perm a b m old lap
  have hi : used - 1 < (keysM a b m old lap).length := by rw [pm.length_eq]; omega
  have := (at_split hi).1
  refine pm.mem_iff.mp ?_
  rw [List.getD_eq_getElem?_getD, List.getElem?_eq_getElem hi]
  exact List.getElem_mem hi
theorem miss_late {lap used y : Nat} {old : List Nat} (hy : ∀ x ∈ old, x < y) (h50 : y < 50) (hu : used ≤ old.length) : missK 1 0 50 lap old (old ++ [y]) used = [] := by
  unfold missK
  by_cases h0 : used = 0
  · rw [if_pos h0]
  · rw [if_neg h0]
    have hl := last_mem (a := 1) (b := 0) (m := 50) (lap := lap) h0 hu
    generalize (keysM 1 0 50 old lap).getD (used - 1) 0 = z at *
    have hz := hy z hl
    refine List.filter_eq_nil_iff.mpr fun x hx h => ?_
    simp only [Bool.and_eq_true, Bool.not_eq_true', List.contains_eq_mem, decide_eq_false_iff_not, decide_eq_true_eq] at h
    rcases List.mem_append.mp hx with q | q
    · exact h.1 q
    · rw [List.mem_singleton] at q
      subst q
      rw [kv1 h50, kv1 (by omega)] at h
      omega
theorem miss_soon {lap used y : Nat} {old : List Nat} (hy : ∀ x ∈ old, y < x ∧ x < 50) (h0 : used ≠ 0) (hu : used ≤ old.length) : missK 1 0 50 lap old (y :: old) used = [y] := by
  unfold missK
  rw [if_neg h0]
  have hl := last_mem (a := 1) (b := 0) (m := 50) (lap := lap) h0 hu
  generalize (keysM 1 0 50 old lap).getD (used - 1) 0 = z at *
  have hz := hy z hl
  have ny : old.contains y = false := by
    cases h : old.contains y with
    | false => rfl
    | true => have := hy y (by simpa using h); omega
  rw [List.filter_cons_of_pos (by rw [ny, kv1 (by omega), kv1 (by omega), decide_eq_true (by omega)]; rfl)]
  congr 1
  exact List.filter_eq_nil_iff.mpr fun x hx h => by
    simp only [Bool.and_eq_true, Bool.not_eq_true', List.contains_eq_mem, decide_eq_false_iff_not, decide_eq_true_eq] at h
    exact h.1 hx
theorem miss_sub {a b m lap used : Nat} {old new : List Nat} (h : ∀ x ∈ new, x ∈ old) : missK a b m lap old new used = [] := by
  unfold missK
  split
  · rfl
  · exact List.filter_eq_nil_iff.mpr fun x hx q => by
      simp only [Bool.and_eq_true, Bool.not_eq_true', List.contains_eq_mem, decide_eq_false_iff_not, decide_eq_true_eq] at q
      exact q.1 (h x hx)
theorem sort1 (x : Nat) : sortN [x] = [x] := rfl
theorem by_late {lap used y : Nat} {old : List Nat} (nd : (old ++ [y]).Nodup) (hu : used ≤ old.length) : byN .plain lap old (old ++ [y]) used = ([], []) := by
  unfold byN
  simp only [Ro.rowM]
  have e0 : old.take used = (old ++ [y]).take used := by rw [List.take_append_of_le_length hu]
  rw [e0]
  have e1 : old ++ [y] = (old ++ [y]).take used ++ (old ++ [y]).drop used := (List.take_append_drop ..).symm
  have nd2 := nd
  rw [e1, List.nodup_append] at nd2
  obtain ⟨_, _, dj⟩ := nd2
  have d0 : doubM ((old ++ [y]).take used) ((old ++ [y]).drop used) = [] := by
    unfold doubM
    rw [List.filter_eq_nil_iff.mpr fun x hx h => dj x (by simpa using h) x hx rfl]
    rfl
  have m0 : missM ((old ++ [y]).take used) ((old ++ [y]).drop used) (old ++ [y]) = [] := List.filter_eq_nil_iff.mpr fun x hx h => by
    rw [e1] at hx
    simp only [Bool.and_eq_true, Bool.not_eq_true', List.contains_eq_mem, decide_eq_false_iff_not] at h
    rcases List.mem_append.mp hx with h1 | h1
    · exact h.1 h1
    · exact h.2 h1
  rw [d0, m0]
theorem by_soon0 {lap y : Nat} {old : List Nat} : byN .plain lap old (y :: old) 0 = ([], []) := by
  unfold byN
  simp only [Ro.rowM, List.take_zero, List.drop_zero]
  have d0 : doubM [] (y :: old) = [] := by
    unfold doubM
    rw [List.filter_eq_nil_iff.mpr fun x hx h => by simp at h]
    rfl
  have m0 : missM [] (y :: old) (y :: old) = [] := List.filter_eq_nil_iff.mpr fun x hx h => by
    simp only [Bool.and_eq_true, Bool.not_eq_true', List.contains_eq_mem, decide_eq_false_iff_not] at h
    exact h.2 hx
  rw [d0, m0]
theorem by_soon {lap used y : Nat} {old : List Nat} (nd : (y :: old).Nodup) (h0 : used ≠ 0) (hu : used ≤ old.length) : byN .plain lap old (y :: old) used = ([old.getD (used - 1) 0], [y]) := by
  unfold byN
  simp only [Ro.rowM]
  have hi : used - 1 < old.length := by omega
  obtain ⟨s1, s2⟩ := at_split hi
  rw [show used - 1 + 1 = used by omega] at s1 s2
  have e2 : (y :: old).drop used = old.getD (used - 1) 0 :: old.drop used := by
    rw [show used = (used - 1) + 1 by omega, List.drop_succ_cons, Nat.add_sub_cancel]
    conv => lhs; rw [s1]
    rw [show used = (used - 1) + 1 by omega, Nat.add_sub_cancel, List.drop_append_of_le_length (by rw [List.length_take]; omega)]
    rw [List.drop_eq_nil_of_le (by rw [List.length_take]; omega), List.nil_append]
  rw [e2, s2]
  generalize old.getD (used - 1) 0 = z at *
  generalize old.take (used - 1) = pre at *
  generalize old.drop used = post at *
  clear e2 s2 hi hu
  subst s1
  obtain ⟨ny, nd2⟩ := List.nodup_cons.mp nd
  rw [List.nodup_append] at nd2
  obtain ⟨_, n2, dj⟩ := nd2
  obtain ⟨n3, n4⟩ := List.nodup_cons.mp n2
  have d0 : doubM (pre ++ [z]) (z :: post) = [z] := by
    unfold doubM
    rw [List.filter_cons_of_pos (by simp), List.filter_eq_nil_iff.mpr (fun x hx h => ?_), sort1]
    simp only [List.contains_eq_mem, decide_eq_true_eq, List.mem_append, List.mem_singleton] at h
    rcases h with h | h
    · exact dj x h x (by simp [hx]) rfl
    · subst h; exact n3 hx
  have m0 : missM (pre ++ [z]) (z :: post) (y :: (pre ++ z :: post)) = [y] := by
    unfold missM
    simp only [List.mem_append, List.mem_cons] at ny
    rw [List.filter_cons_of_pos (by
      simp only [Bool.and_eq_true, Bool.not_eq_true', List.contains_eq_mem, decide_eq_false_iff_not, List.mem_append, List.mem_cons, List.not_mem_nil, or_false]
      exact ⟨fun h => ny (h.imp id .inl), fun h => ny (.inr h)⟩)]
    congr 1
    exact List.filter_eq_nil_iff.mpr fun x hx h => by
      simp only [Bool.and_eq_true, Bool.not_eq_true', List.contains_eq_mem, decide_eq_false_iff_not, List.mem_append, List.mem_cons, List.not_mem_nil, or_false] at h hx
      rcases hx with q | q
      · exact h.1 (.inl q)
      · exact h.2 q
  rw [d0, m0]
theorem by_rest {lap used x : Nat} {t : List Nat} (nd : (x :: t).Nodup) (h0 : used ≠ 0) (hu : used ≤ t.length + 1) : byN .plain lap (x :: t) t used = ([], if used < t.length + 1 then [(x :: t).getD used 0] else []) := by
  obtain ⟨i, rfl⟩ : ∃ i, used = i + 1 := ⟨used - 1, by omega⟩
  unfold byN
  simp only [Ro.rowM, List.take_succ_cons, List.getD_cons_succ]
  obtain ⟨nx, nd2⟩ := List.nodup_cons.mp nd
  by_cases hi : i < t.length
  · rw [if_pos (by omega)]
    obtain ⟨s1, s2⟩ := at_split hi
    generalize t.getD i 0 = z at *
    generalize t.take i = pre at *
    generalize t.drop (i + 1) = post at *
    clear s2 hi hu
    subst s1
    rw [List.nodup_append] at nd2
    obtain ⟨_, n2, dj⟩ := nd2
    obtain ⟨n3, n4⟩ := List.nodup_cons.mp n2
    simp only [List.mem_append, List.mem_cons, not_or] at nx
    have d0 : doubM (x :: pre) post = [] := by
      unfold doubM
      rw [List.filter_eq_nil_iff.mpr fun y hy h => ?_]
      · rfl
      · simp only [List.contains_eq_mem, decide_eq_true_eq, List.mem_cons] at h
        rcases h with h | h
        · subst h; exact nx.2.2 hy
        · exact dj y h y (by simp [hy]) rfl
    have m0 : missM (x :: pre) post (pre ++ z :: post) = [z] := by
      unfold missM
      rw [List.filter_append, List.filter_eq_nil_iff.mpr (fun y hy h => by
        simp only [Bool.and_eq_true, Bool.not_eq_true', List.contains_eq_mem, decide_eq_false_iff_not, List.mem_cons, not_or] at h
        exact h.1.2 hy), List.nil_append, List.filter_cons_of_pos (by
        simp only [Bool.and_eq_true, Bool.not_eq_true', List.contains_eq_mem, decide_eq_false_iff_not, List.mem_cons, not_or]
        exact ⟨⟨fun e => nx.2.1 e.symm, fun h => dj z h z (by simp) rfl⟩, n3⟩)]
      congr 1
      exact List.filter_eq_nil_iff.mpr fun y hy h => by
        simp only [Bool.and_eq_true, Bool.not_eq_true', List.contains_eq_mem, decide_eq_false_iff_not] at h
        exact h.2 hy
    rw [d0, m0]
  · rw [if_neg (by omega), List.take_of_length_le (by omega), List.drop_eq_nil_of_le (by omega)]
    have d0 : doubM (x :: t) [] = [] := rfl
    have m0 : missM (x :: t) [] t = [] := List.filter_eq_nil_iff.mpr fun y hy h => by
      simp only [Bool.and_eq_true, Bool.not_eq_true', List.contains_eq_mem, decide_eq_false_iff_not, List.mem_cons, not_or] at h
      exact h.1.2 hy
    rw [d0, m0]
end Ev.K62

set_option linter.all false
set_option maxRecDepth 100000
set_option maxHeartbeats 4000000
/-! K62c: the run -/
namespace Ev.K62
open PySem Ev Ev.Bu Ev.U Ev.Ch Ev.Ro
def f_law_right (it ii ib ik : Nat) : Fn := { n := 11, ps := 1, io := [0], body := [.asg (.nm 1) (.bi .tuple1 [(.lc (.bin .add (.var 10) (.int 5)) (.nm 10) .val [(.call ii [(.var 0), (.int 9)])] [] [10])]),
    .asg (.nm 2) (.bi .len [(.var 1)]),
    .par [4, 5, 6] [(.call it [(.var 0), (.bin .add (.var 2) (.int 1))]), (.tup [(.str (Str.ofString "plain"))]), (.tup [(.str (Str.ofString "keys")), (.int 1), (.int 0), (.int 50)])],
    .par [7, 8] [(.bin .add (.var 1) (.tup [(.bin .add (.bin .add (.sub (.var 1) (.bin .sub (.var 2) (.int 1))) (.int 1)) (.call it [(.var 0), (.int 3)]))])), (.bin .add (.tup [(.call it [(.var 0), (.int 5)])]) (.var 1))],
    .ifs (.bor [(.cmp .ne (.call ib [(.var 5), (.int 0), (.var 1), (.var 7), (.var 4)]) (.tup [(.lst []), (.lst [])])), (.cmp .ne (.call ik [(.var 6), (.int 1), (.var 1), (.var 7), (.var 4)]) (.tup [(.lst []), (.lst [])]))]) [.ret (.bl false)] [],
    .asg (.nm 3) (.ite (.cmp .gt (.var 4) (.int 0)) (.tup [(.lst [(.sub (.var 1) (.bin .sub (.var 4) (.int 1)))]), (.lst [(.sub (.var 8) (.int 0))])]) (.tup [(.lst []), (.lst [])])),
    .ifs (.bor [(.cmp .ne (.call ib [(.var 5), (.int 3), (.var 1), (.var 8), (.var 4)]) (.var 3)), (.cmp .ne (.call ik [(.var 6), (.int 0), (.var 1), (.var 8), (.var 4)]) (.tup [(.lst []), (.sub (.var 3) (.int 1))]))]) [.ret (.bl false)] [],
    .ifs (.band [(.cmp .gt (.var 2) (.int 1)), (.cmp .gt (.var 4) (.int 0))]) [.asg (.nm 9) (.slice (.var 1) (some (.int 1)) none),
    .asg (.nm 3) (.ite (.cmp .lt (.var 4) (.var 2)) (.tup [(.lst []), (.lst [(.sub (.var 1) (.var 4))])]) (.tup [(.lst []), (.lst [])])),
    .ifs (.cmp .ne (.call ib [(.var 5), (.int 0), (.var 1), (.var 9), (.var 4)]) (.var 3)) [.ret (.bl false)] [],
    .ifs (.cmp .ne (.call ik [(.var 6), (.int 0), (.var 1), (.var 9), (.var 4)]) (.tup [(.lst []), (.lst [])])) [.ret (.bl false)] []] [],
    .ret (.bl true)] }
section
variable {call : Nat → List D → Option (D × List D)} {io : Nat → List Nat}
theorem kok : (Rule.keys 1 0 50).ok := ⟨by omega, by omega, by omega, by omega⟩
theorem right_run {it ii ib ik : Nat} (hit : io it = [0]) (hii : io ii = [0]) (hib : io ib = []) (hik : io ik = []) (TS : TakeSp call it) (IS : ItemsSp call ii) (BS : BySp call ib) (KS : KeysSp call ik) {d : D} {c : Int} (hb : Box c d) (hc : c < 700000000000) :
    ∃ d', runF ⟨call, io, [0]⟩ (f_law_right it ii ib ik) [d] = some (.bl true, [d']) ∧ Box (c + 200) d' := by
  obtain ⟨l, d1, g1, pw, h40, l1, l9, _, b1⟩ := IS d c 9 (by omega) (by omega) hb (by omega)
  have z9 : ((9 : Nat) : Int) = 9 := rfl
  rw [z9] at g1
  obtain ⟨old, hold⟩ : ∃ old, l.map (· + 5) = old := ⟨_, rfl⟩
  have lold : old.length = l.length := by rw [← hold, List.length_map]
  have pwo : old.Pairwise (· < ·) := by rw [← hold]; exact List.pairwise_map.mpr (pw.imp fun h => by omega)
  have ho : ∀ x ∈ old, 5 ≤ x ∧ x < 45 := fun x hx => by
    rw [← hold] at hx
    obtain ⟨y, hy, rfl⟩ := List.mem_map.mp hx
    have := h40 y hy
    omega
  obtain ⟨used, d2, g2, hu, b2⟩ := tkI TS d1 _ ((old.length : Int) + 1) b1 (by omega) (by omega) (by omega)
  obtain ⟨r, d3, g3, hr, b3⟩ := tkI TS d2 _ 3 b2 (by omega) (by omega) (by omega)
  obtain ⟨s, d4, g4, hs, b4⟩ := tkI TS d3 _ 5 b3 (by omega) (by omega) (by omega)
  obtain ⟨x0, rfl, f0, t0⟩ := box_lst hb
  obtain ⟨x1, rfl, f1, t1⟩ := box_lst b1
  obtain ⟨x2, rfl, f2, t2⟩ := box_lst b2
  obtain ⟨x3, rfl, f3, t3⟩ := box_lst b3
  obtain ⟨x4, rfl, f4, t4⟩ := box_lst b4
  have nd : old.Nodup := pwo.imp fun h => Nat.ne_of_lt h
  have fl := nts_fz l
  have ql := nts_frz l
  have fo := nts_fz old
  have qo := nts_frz old
  have xo : ∀ x ∈ old, x ≤ 1000 := fun x hx => by have := ho x hx; omega
  -- the last one
  have hi1 : old.length - 1 < old.length := by omega
  obtain ⟨sp1, sp2⟩ := at_split hi1
  have hlast : ∀ x ∈ old, x ≤ old.getD (old.length - 1) 0 := fun x hx => by
    have pw2 := pwo
    rw [sp1, List.pairwise_append] at pw2
    rw [sp1] at hx
    rw [List.drop_eq_nil_of_le (by omega)] at hx
    rcases List.mem_append.mp hx with h | h
    · have := pw2.2.2 x h (old.getD (old.length - 1) 0) (by simp); omega
    · have := List.mem_singleton.mp h; omega
  have hz45 : old.getD (old.length - 1) 0 < 45 := (ho _ (by rw [List.getD_eq_getElem?_getD, List.getElem?_eq_getElem hi1]; exact List.getElem_mem hi1)).2
  have gl := get_nts hi1
  have il := ixN_nat hi1
  generalize hz : old.getD (old.length - 1) 0 = z at *
  generalize hlate : z + 1 + r = y at *
  have hy : ∀ x ∈ old, x < y := fun x hx => by have := hlast x hx; omega
  have hsm : ∀ x ∈ old, s < x ∧ x < 50 := fun x hx => by have := ho x hx; omega
  have nd1 : (old ++ [y]).Nodup := List.nodup_append.mpr ⟨nd, by simp, fun a ha b hb e => by
    have := hy a ha
    simp at hb
    omega⟩
  have nd2 : (s :: old).Nodup := List.nodup_cons.mpr ⟨fun h => by have := hsm s h; omega, nd⟩
  have x1' : ∀ x ∈ old ++ [y], x ≤ 1000 := fun x hx => by
    rcases List.mem_append.mp hx with h | h
    · exact xo x h
    · simp at h; omega
  have x2' : ∀ x ∈ s :: old, x ≤ 1000 := fun x hx => by
    rcases List.mem_cons.mp hx with h | h
    · omega
    · exact xo x h
  have B1 := BS .plain 0 used old (old ++ [y]) trivial (by omega) (by omega) (by omega) (by simp; omega) nd nd1 xo x1'
  have K1 := KS 1 0 50 1 used old (old ++ [y]) kok (by omega) (by omega) (by omega) (by simp; omega) nd nd1 xo x1'
  rw [by_late nd1 (by omega)] at B1
  rw [miss_late hy (by omega) (by omega)] at K1
  have B2 := BS .plain 3 used old (s :: old) trivial (by omega) (by omega) (by omega) (by simp; omega) nd nd2 xo x2'
  have K2 := KS 1 0 50 0 used old (s :: old) kok (by omega) (by omega) (by omega) (by simp; omega) nd nd2 xo x2'
  have z0 : ((0 : Nat) : Int) = 0 := rfl
  have z1 : ((1 : Nat) : Int) = 1 := rfl
  have z3 : ((3 : Nat) : Int) = 3 := rfl
  rw [z0] at B1 K2
  rw [z1] at K1
  rw [z3] at B2
  have f7 := nts_fz (old ++ [y])
  have f8 := nts_fz (s :: old)
  have eL : old.map nt ++ [nt y] = (old ++ [y]).map nt := by simp
  have eS : nt s :: old.map nt = (s :: old).map nt := rfl
  have eS2 : nt s :: old.map nt = (s :: old).map nt := rfl
  have bs1 : used ≠ 0 → byN .plain 3 old (s :: old) used = ([old.getD (used - 1) 0], [s]) := fun h => by_soon nd2 h (by omega)
  have bs0 : byN .plain 3 old (s :: old) 0 = ([], []) := by_soon0
  have ms1 : used ≠ 0 → missK 1 0 50 0 old (s :: old) used = [s] := fun h => miss_soon hsm h (by omega)
  have ms0 : missK 1 0 50 0 old (s :: old) 0 = [] := rfl
  have hs0 : ∀ n, ixN (n + 1) 0 = some 0 := fun n => ixN_zero n
  have gs : (s :: old).map nt = nt s :: old.map nt := rfl
  have lsn : (s :: old).length = old.length + 1 := rfl
  generalize hL : old ++ [y] = late at *
  generalize hS : s :: old = soon at *
  have fp : Rule.plain.d.fz = true := Rule.fz _
  have fk : (Rule.keys 1 0 50).d.fz = true := Rule.fz _
  have ip : isAtom Rule.plain.d = false := rfl
  have ik0 : isAtom (Rule.keys 1 0 50).d = false := rfl
  have iI : ∀ z : Int, isAtom (.int z) = true := fun _ => rfl
  have it2 : ∀ z : List D, isAtom (.tup z) = false := fun _ => rfl
  obtain ⟨d, outs, e, P⟩ : ∃ d outs, runF ⟨call, io, [0]⟩ (f_law_right it ii ib ik) [.lst true x0] = some (d, outs) ∧ ∃ (d' : D), d = .bl true ∧ outs = [d'] ∧ Box (c + 200) d' := by
    refine W.def (f := f_law_right it ii ib ik) (P := fun d outs => ∃ (d' : D), d = .bl true ∧ outs = [d'] ∧ Box (c + 200) d') (δ0 := [some (.lst true x0), none, none, none, none, none, none, none, none, none, none]) rfl rfl ?_
    have e1 : ∀ m, evE ⟨call, io, [0]⟩ (m + 30) (.lc (.bin .add (.var 10) (.int 5)) (.nm 10) .val [(.call ii [(.var 0), (.int 9)])] [] [10]) [some (.lst true x0), none, none, none, none, none, none, none, none, none, none] =
        some (.tmp (.lst true (old.map nt)), [some (.lst true x1), none, none, none, none, none, none, none, none, none, none]) := fun m => by
      refine (ev_lc (C := ⟨call, io, [0]⟩) (n := m + 29) (v := 10) (f := fun d => match d with
        | .int z => .int (z + 5)
        | _ => .non) (xs := l.map nt) (δ := [some (.lst true x1), none, none, none, none, none, none, none, none, none, none]) rfl (by simp [hii, ioOf, backOf, g1, f0, f1, t0, t1, iI, fl, ql]) (by simp) (by simp [ownFz]) (by simp [cap]; omega) (fun x hx => ?_) (by omega)).trans ?_
      · obtain ⟨y, _, rfl⟩ := List.mem_map.mp hx
        simp
      · rw [← hold, List.map_map, List.map_map]
        rfl
    refine W.cons (δ1 := [some (.lst true x1), some (tN old), none, none, none, none, none, none, none, none, none]) (by simp [-qevE_lc, e1, fo, items]; done) ?_
    refine W.cons (δ1 := [some (.lst true x1), some (tN old), some (.int old.length), none, none, none, none, none, none, none, none]) (by simp [fo]; done) ?_
    refine W.cons (δ1 := [some (.lst true x2), some (tN old), some (.int old.length), none, some (.int used), some Rule.plain.d, some (Rule.keys 1 0 50).d, none, none, none, none]) (by simp [hit, ioOf, backOf, g2, f1, f2, t1, t2, iI, Rule.d, Rule.w, Rule.ns, cap]; done) ?_
    generalize hpd : Rule.plain.d = pd at *
    generalize hkd : (Rule.keys 1 0 50).d = kd at *
    have lo1' : 1 + old.length ≤ 1000000 := by omega
    have lo1 : old.length ≤ 999999 := by omega
    have eY : ((z : Int) + 1) + (r : Int) = (y : Int) := by omega
    have il2 : ixN old.length ((old.length : Int) - 1) = some (old.length - 1) := by rw [show ((old.length : Int) - 1) = ((old.length - 1 : Nat) : Int) by omega]; exact il
    refine W.cons (δ1 := [some (.lst true x4), some (tN old), some (.int old.length), none, some (.int used), some pd, some kd, some (tN late), some (tN soon), none, none]) (by simp [hit, ioOf, backOf, g3, g4, f2, f3, f4, t2, t3, t4, iI, fo, gl, il2, eY, lo1, lo1', eL, eS2, cap]; done) ?_
    have ne0 : plain (pairL ([], [])) = true := by decide +kernel
    refine W.skip (δ1 := [some (.lst true x4), some (tN old), some (.int old.length), none, some (.int used), some pd, some kd, some (tN late), some (tN soon), none, none]) (by simp [hib, hik, B1, K1, fp, fk, fo, f7, ip, ik0, iI, it2, pairL, plain, cap]; done) ?_
    have fin : ∀ (m : Nat) (δ2 : Dl), δ2[0]? = some (some (.lst true x4)) → W ⟨call, io, [0]⟩ (m + 10) [.ret (.bl true)] δ2 (Gives (f_law_right it ii ib ik) fun d outs => ∃ (d' : D), d = .bl true ∧ outs = [d'] ∧ Box (c + 200) d') := fun m δ2 h => by
      refine W.ret (d := .bl true) (δ1 := δ2) (by simp) ⟨[.lst true x4], ?_, _, rfl, rfl, b4.mono (by omega)⟩
      have : slot δ2 0 = some (.lst true x4) := by unfold slot; rw [h]
      simp [f_law_right, outsOf, this, flatOwn, t4]
    have i21 : ixN 2 1 = some 1 := by decide +kernel
    have s21 : small62 1 = true := by decide +kernel
    by_cases hu0 : used = 0
    · subst hu0
      rw [bs0] at B2
      rw [ms0] at K2
      rw [z0] at B1 K1 B2 K2
      refine W.cons (δ1 := [some (.lst true x4), some (tN old), some (.int old.length), some (pairL ([], [])), some (.int 0), some pd, some kd, some (tN late), some (tN soon), none, none]) (by simp [pairL, cap]; done) ?_
      refine W.skip (δ1 := [some (.lst true x4), some (tN old), some (.int old.length), some (pairL ([], [])), some (.int 0), some pd, some kd, some (tN late), some (tN soon), none, none]) (by simp [hib, hik, B2, K2, fp, fk, fo, f8, ip, ik0, iI, it2, pairL, plain, cap, i21, s21]; done) ?_
      refine W.skip (δ1 := [some (.lst true x4), some (tN old), some (.int old.length), some (pairL ([], [])), some (.int 0), some pd, some kd, some (tN late), some (tN soon), none, none]) (by by_cases h1 : (1 : Int) < old.length <;> simp [h1]; done) ?_
      exact fin 82 _ rfl
    · rw [bs1 hu0] at B2
      rw [ms1 hu0] at K2
      have hi2 : used - 1 < old.length := by omega
      have iu : ixN old.length ((used : Int) - 1) = some (used - 1) := by rw [show ((used : Int) - 1) = ((used - 1 : Nat) : Int) by omega]; exact ixN_nat hi2
      have gu := get_nts hi2
      generalize old.getD (used - 1) 0 = w at *
      have hup : 0 < used := by omega
      refine W.cons (δ1 := [some (.lst true x4), some (tN old), some (.int old.length), some (pairL ([w], [s])), some (.int used), some pd, some kd, some (tN late), some (tN soon), none, none]) (by simp [pairL, cap, hup, fo, f8, iu, gu, lsn, hs0, gs]; done) ?_
      refine W.skip (δ1 := [some (.lst true x4), some (tN old), some (.int old.length), some (pairL ([w], [s])), some (.int used), some pd, some kd, some (tN late), some (tN soon), none, none]) (by simp [hib, hik, B2, K2, fp, fk, fo, f8, ip, ik0, iI, it2, pairL, plain, cap, i21, s21]; done) ?_
      by_cases hn1 : old.length = 1
      · rw [hn1]
        refine W.skip (δ1 := [some (.lst true x4), some (tN old), some (.int (1 : Nat)), some (pairL ([w], [s])), some (.int used), some pd, some kd, some (tN late), some (tN soon), none, none]) (by simp; done) ?_
        exact fin 82 _ rfl
      · have hn : (1 : Int) < old.length := by omega
        refine W.ifT (δ1 := [some (.lst true x4), some (tN old), some (.int old.length), some (pairL ([w], [s])), some (.int used), some pd, some kd, some (tN late), some (tN soon), none, none]) (by simp [hn, hup]; done) ?_
        obtain ⟨a, t, rfl⟩ : ∃ a t, old = a :: t := by
          cases old with
          | nil => simp at l1 lold; omega
          | cons a t => exact ⟨a, t, rfl⟩
        have nt1 := (List.nodup_cons.mp nd).2
        have B3 := BS .plain 0 used (a :: t) t trivial (by omega) (by omega) (by omega) (by simp at lold; omega) nd nt1 xo (fun x hx => xo x (by simp [hx]))
        have K3 := KS 1 0 50 0 used (a :: t) t kok (by omega) (by omega) (by omega) (by simp at lold; omega) nd nt1 xo (fun x hx => xo x (by simp [hx]))
        rw [by_rest nd hu0 (by simp at hu; omega)] at B3
        rw [miss_sub (fun x hx => by simp [hx])] at K3
        rw [z0, hpd] at B3
        rw [z0, hkd] at K3
        have ft := nts_fz t
        have cd : cutD ((a :: t).map nt) (some (1 : Int)) none = t.map nt := cutD_from nt (a :: t) 1
        generalize hold2 : a :: t = ol at *
        refine W.cons (δ1 := [some (.lst true x4), some (tN ol), some (.int ol.length), some (pairL ([w], [s])), some (.int used), some pd, some kd, some (tN late), some (tN soon), some (tN t), none]) (by simp [fo, cd, ft]; done) ?_
        by_cases h6 : used < ol.length
        · have h6' : (used : Int) < ol.length := by omega
          have iv := ixN_nat h6
          have gv := get_nts h6
          have sv := sm62n (t := used) (by omega)
          rw [if_pos (by rw [← hold2] at h6; simpa using h6)] at B3
          generalize ol.getD used 0 = v at *
          refine W.cons (δ1 := [some (.lst true x4), some (tN ol), some (.int ol.length), some (pairL ([], [v])), some (.int used), some pd, some kd, some (tN late), some (tN soon), some (tN t), none]) (by simp [pairL, cap, cmpD, h6', fo, iv, gv, sv]; done) ?_
          refine W.skip (δ1 := [some (.lst true x4), some (tN ol), some (.int ol.length), some (pairL ([], [v])), some (.int used), some pd, some kd, some (tN late), some (tN soon), some (tN t), none]) (by simp [hib, B3, fp, fo, ft, ip, iI, it2, pairL, plain, cap]; done) ?_
          refine W.skip (δ1 := [some (.lst true x4), some (tN ol), some (.int ol.length), some (pairL ([], [v])), some (.int used), some pd, some kd, some (tN late), some (tN soon), some (tN t), none]) (by simp [hik, K3, fk, fo, ft, ik0, iI, it2, pairL, plain, cap]; done) ?_
          exact W.nil (fin 82 _ rfl)
        · have h6' : ¬ (used : Int) < ol.length := by omega
          rw [if_neg (by rw [← hold2] at h6; simpa using h6)] at B3
          refine W.cons (δ1 := [some (.lst true x4), some (tN ol), some (.int ol.length), some (pairL ([], [])), some (.int used), some pd, some kd, some (tN late), some (tN soon), some (tN t), none]) (by simp [pairL, cap, h6, h6']; done) ?_
          refine W.skip (δ1 := [some (.lst true x4), some (tN ol), some (.int ol.length), some (pairL ([], [])), some (.int used), some pd, some kd, some (tN late), some (tN soon), some (tN t), none]) (by simp [hib, B3, fp, fo, ft, ip, iI, it2, pairL, plain, cap]; done) ?_
          refine W.skip (δ1 := [some (.lst true x4), some (tN ol), some (.int ol.length), some (pairL ([], [])), some (.int used), some pd, some kd, some (tN late), some (tN soon), some (tN t), none]) (by simp [hik, K3, fk, fo, ft, ik0, iI, it2, pairL, plain, cap]; done) ?_
          exact W.nil (fin 82 _ rfl)
  obtain ⟨d', rfl, rfl, h⟩ := P
  exact ⟨d', e, h⟩
end
end Ev.K62

set_option Elab.async false
set_option linter.all false
set_option maxRecDepth 100000
namespace Ev.Prog
open PySem PySem.Spec PyProof.Rows L2 Ev
/-- 0 _wall 0:k -/
def f_wall : Fn := { n := 1, ps := 1, io := [], body := [.while_ (.bl true) [.pass]] }
/-- 1 tupled 0:thing 1:part -/
def f_tupled : Fn := { n := 2, ps := 1, io := [], body := [.ret (.ite (.isi (.var 0) [.list, .tuple]) (.bi .tuple1 [(.lc (.call 1 [(.var 1)]) (.nm 1) .val [(.var 0)] [] [1])]) (.var 0))] }
/-- 2 plain_row 0:items 1:lap 2:parts -/
def f_plain_row : Fn := { n := 3, ps := 3, io := [], body := [.ret (.bi .list1 [(.var 0)])] }
/-- 3 keys_row 0:items 1:lap 2:parts 3:pairs 4:word 5:by_item 6:by_lap 7:many 8:item 9:key -/
def f_keys_row : Fn := { n := 10, ps := 3, io := [], body := [.asg (.tp [4, 5, 6, 7]) (.var 2),
    .asg (.nm 3) (.lc (.tup [(.bin .mod (.bin .add (.bin .mul (.var 5) (.var 8)) (.bin .mul (.var 6) (.var 1))) (.var 7)), (.var 8)]) (.nm 8) .val [(.var 0)] [] [8]),
    .ret (.lc (.var 8) (.tp [9, 8]) .val [(.bi .sorted1 [(.var 3)])] [] [8, 9])] }
/-- 4 swaps_row 0:items 1:lap 2:parts 3:row 4:place 5:word 6:by_place 7:by_lap 8:other -/
def f_swaps_row : Fn := { n := 9, ps := 3, io := [], body := [.asg (.tp [5, 6, 7]) (.var 2),
    .asg (.nm 3) (.bi .list1 [(.var 0)]),
    .for_ (.nm 4) .range [(.bin .sub (.bi .len [(.var 3)]) (.int 1)), (.int 0), (.neg (.int 1))] [.asg (.nm 8) (.bin .mod (.bin .add (.bin .mul (.var 6) (.var 4)) (.bin .mul (.var 7) (.var 1))) (.bin .add (.var 4) (.int 1))),
    .swapIx (.var 3) (.var 4) (.var 3) (.var 8) (.tup [(.sub (.var 3) (.var 8)), (.sub (.var 3) (.var 4))])],
    .ret (.var 3)] }
/-- 5 buffer_row 0:items 1:lap 2:parts 3:step 4:word 5:size 6:by_step 7:by_lap 8:slots 9:rest 10:row 11:slot -/
def f_buffer_row : Fn := { n := 12, ps := 3, io := [], body := [.asg (.tp [4, 5, 6, 7]) (.var 2),
    .par [8, 9, 10] [(.bi .list1 [(.slice (.var 0) none (some (.var 5)))]), (.bi .list1 [(.slice (.var 0) (some (.var 5)) none)]), (.lst [])],
    .for_ (.nm 3) .range [(.bi .len [(.var 0)])] [.asg (.nm 11) (.bin .mod (.bin .add (.bin .mul (.var 6) (.var 3)) (.bin .mul (.var 7) (.var 1))) (.bi .len [(.var 8)])),
    .expr (.meth .append (.var 10) [(.sub (.var 8) (.var 11))]),
    .ifs (.cmp .gt (.bi .len [(.var 9)]) (.int 0)) [.setIx (.var 8) (.var 11) (.meth .popAt (.var 9) [(.int 0)])] [.expr (.meth .popAt (.var 8) [(.var 11)])]],
    .ret (.var 10)] }
/-- 6 first_used 0:rule 1:lap 2:old 3:used 4:order -/
def f_first_used : Fn := { n := 5, ps := 4, io := [], body := [.asg (.nm 4) (.call 17 [(.var 0), (.var 2), (.var 1)]),
    .ifs (.cmp .gt (.var 3) (.bi .len [(.var 4)])) [.bad] [],
    .ret (.slice (.var 4) none (some (.var 3)))] }
/-- 7 told 0:ahead 1:come 2:new 3:doubled 4:item -/
def f_told : Fn := { n := 5, ps := 3, io := [], body := [.asg (.nm 3) (.bi .sorted1 [(.lc (.var 4) (.nm 4) .val [(.var 1)] [(.cmp .isin (.var 4) (.var 0))] [4])]),
    .ret (.tup [(.var 3), (.lc (.var 4) (.nm 4) .val [(.call 1 [(.var 2)])] [(.band [(.cmp .notin (.var 4) (.var 0)), (.cmp .notin (.var 4) (.var 1))])] [4])])] }
/-- 8 by_number 0:rule 1:lap 2:old 3:new 4:used 5:ahead -/
def f_by_number : Fn := { n := 6, ps := 5, io := [], body := [.asg (.nm 5) (.call 6 [(.var 0), (.var 1), (.var 2), (.var 4)]),
    .ret (.call 7 [(.var 5), (.slice (.call 17 [(.var 0), (.var 3), (.var 1)]) (some (.var 4)) none), (.var 3)])] }
/-- 9 by_keys 0:rule 1:lap 2:old 3:new 4:used 5:ahead 6:last 7:some 8:both 9:behind 10:item -/
def f_by_keys : Fn := { n := 11, ps := 5, io := [], body := [.ifs (.cmp .ne (.sub (.var 0) (.int 0)) (.con (.str (Str.ofString "keys")))) [.bad] [],
    .asg (.nm 5) (.call 6 [(.var 0), (.var 1), (.var 2), (.var 4)]),
    .ifs (.cmp .eq (.var 4) (.int 0)) [.ret (.call 7 [(.var 5), (.call 17 [(.var 0), (.var 3), (.var 1)]), (.var 3)])] [],
    .asg (.nm 6) (.sub (.var 5) (.neg (.int 1))),
    .asg (.nm 7) (.lc (.var 10) (.nm 10) .val [(.call 1 [(.var 3)])] [(.cmp .ne (.var 10) (.var 6))] [10]),
    .asg (.nm 8) (.call 17 [(.var 0), (.bi .tuple1 [(.bi .sorted1 [(.disS true [(.var 6)] (.var 7) [])])]), (.var 1)]),
    .asg (.nm 9) (.slice (.var 8) (some (.bin .add (.meth .index (.var 8) [(.var 6)]) (.int 1))) none),
    .ret (.call 7 [(.var 5), (.lc (.var 10) (.nm 10) .val [(.var 9)] [(.cmp .isin (.var 10) (.var 7))] [10]), (.var 3)])] }
/-- 10 _law_box 0:_law_script 1:_law_k 2:_law_cell -/
def f_law_box : Fn := { n := 3, ps := 2, io := [], body := [.asg (.nm 2) (.ite (.cmp .lt (.var 1) (.bi .len [(.var 0)])) (.sub (.var 0) (.var 1)) (.int 0)),
    .ret (.lst [(.bin .mul (.bi .abs [(.var 2)]) (.bi .int1 [(.cmp .ge (.bi .abs [(.var 2)]) (.bin .pow (.int 10) (.int 18)))])), (.bin .add (.bin .add (.bin .mod (.bi .int1 [(.var 2)]) (.int 2305843009213693951)) (.bin .mul (.int 39373) (.var 1))) (.int 241)), (.int 0)])] }
/-- 11 _law_take 0:_law_box_here 1:_law_below 2:_law_once 3:_law_far 4:_law_twice 5:_law_drawn -/
def f_law_take : Fn := { n := 6, ps := 2, io := [0], body := [.ifs (.cmp .gt (.sub (.var 0) (.int 0)) (.int 0)) [.asg (.nm 5) (.bin .mod (.bi .int1 [(.sub (.var 0) (.int 0))]) (.var 1)),
    .setIx (.var 0) (.int 0) (.bin .fdiv (.sub (.var 0) (.int 0)) (.var 1)),
    .ret (.var 5)] [],
    .setIx (.var 0) (.int 2) (.bin .add (.sub (.var 0) (.int 2)) (.int 1)),
    .asg (.nm 2) (.bin .mod (.bi .int1 [(.bin .mul (.bin .add (.sub (.var 0) (.int 1)) (.bin .mul (.int 48271) (.sub (.var 0) (.int 2)))) (.bin .add (.int 39373) (.sub (.var 0) (.int 2))))]) (.int 2147483647)),
    .asg (.nm 3) (.bin .add (.bin .mod (.bi .int1 [(.var 2)]) (.int 40009)) (.int 7)),
    .asg (.nm 4) (.bin .mod (.bi .int1 [(.bin .mul (.bin .add (.bin .add (.var 2) (.sub (.var 0) (.int 2))) (.bin .fdiv (.sub (.var 0) (.int 1)) (.int 1000003))) (.var 3))]) (.int 2147483629)),
    .ret (.bin .mod (.bi .int1 [(.bin .fdiv (.bin .mod (.bi .int1 [(.bin .add (.bin .mul (.var 4) (.int 48271)) (.var 2))]) (.int 2147483587)) (.int 64))]) (.var 1))] }
/-- 12 _law_cells 0:_law_script 1:_law_most_so 2:_law_cells_here 3:_law_k 4:_law_cell 5:_law_at_so -/
def f_law_cells : Fn := { n := 6, ps := 2, io := [], body := [.asg (.nm 2) (.bor [(.bi .list1 [(.slice (.var 0) none (some (.var 1)))]), (.lst [(.int 0)])]),
    .for_ (.tp [3, 4]) .enum [(.slice (.var 0) (some (.var 1)) (some (.int 63)))] [.asg (.nm 5) (.bin .mod (.bi .int1 [(.var 3)]) (.var 1)),
    .setIx (.var 2) (.var 5) (.bin .add (.sub (.var 2) (.var 5)) (.bin .mul (.var 4) (.bin .add (.var 3) (.int 2))))],
    .ret (.var 2)] }
/-- 13 _law_pick 0:_law_box_here 1:_law_names 2:_law_many_so 3:_law_turn 4:_law_rest_so 5:_law_some -/
def f_law_pick : Fn := { n := 6, ps := 3, io := [0], body := [.par [4, 5] [(.bi .list1 [(.var 1)]), (.lst [])],
    .for_ (.nm 3) .range [(.bi .min2 [(.var 2), (.bi .len [(.var 4)])])] [.expr (.meth .append (.var 5) [(.meth .popAt (.var 4) [(.call 11 [(.var 0), (.bi .len [(.var 4)])])])])],
    .ret (.var 5)] }
/-- 14 _law_items 0:_law_box_here 1:_law_many_so 2:_law_some -/
def f_law_items : Fn := { n := 3, ps := 2, io := [0], body := [.asg (.nm 2) (.bi .lrange [(.int 0), (.int 40), (.bin .add (.int 1) (.call 11 [(.var 0), (.int 3)]))]),
    .ret (.bi .tuple1 [(.bi .sorted1 [(.call 13 [(.var 0), (.var 2), (.bin .add (.int 1) (.call 11 [(.var 0), (.var 1)]))])])])] }
/-- 15 _law_right 0:_law_box_here 1:_law_old_so 2:_law_n_so 3:_law_due 4:_law_used_so 5:_law_plain 6:_law_keys 7:_law_late 8:_law_soon 9:_law_rest_so 10:_law_own -/
def f_law_right : Fn := { n := 11, ps := 1, io := [0], body := [.asg (.nm 1) (.bi .tuple1 [(.lc (.bin .add (.var 10) (.int 5)) (.nm 10) .val [(.call 14 [(.var 0), (.int 9)])] [] [10])]),
    .asg (.nm 2) (.bi .len [(.var 1)]),
    .par [4, 5, 6] [(.call 11 [(.var 0), (.bin .add (.var 2) (.int 1))]), (.tup [(.str (Str.ofString "plain"))]), (.tup [(.str (Str.ofString "keys")), (.int 1), (.int 0), (.int 50)])],
    .par [7, 8] [(.bin .add (.var 1) (.tup [(.bin .add (.bin .add (.sub (.var 1) (.bin .sub (.var 2) (.int 1))) (.int 1)) (.call 11 [(.var 0), (.int 3)]))])), (.bin .add (.tup [(.call 11 [(.var 0), (.int 5)])]) (.var 1))],
    .ifs (.bor [(.cmp .ne (.call 8 [(.var 5), (.int 0), (.var 1), (.var 7), (.var 4)]) (.tup [(.lst []), (.lst [])])), (.cmp .ne (.call 9 [(.var 6), (.int 1), (.var 1), (.var 7), (.var 4)]) (.tup [(.lst []), (.lst [])]))]) [.ret (.bl false)] [],
    .asg (.nm 3) (.ite (.cmp .gt (.var 4) (.int 0)) (.tup [(.lst [(.sub (.var 1) (.bin .sub (.var 4) (.int 1)))]), (.lst [(.sub (.var 8) (.int 0))])]) (.tup [(.lst []), (.lst [])])),
    .ifs (.bor [(.cmp .ne (.call 8 [(.var 5), (.int 3), (.var 1), (.var 8), (.var 4)]) (.var 3)), (.cmp .ne (.call 9 [(.var 6), (.int 0), (.var 1), (.var 8), (.var 4)]) (.tup [(.lst []), (.sub (.var 3) (.int 1))]))]) [.ret (.bl false)] [],
    .ifs (.band [(.cmp .gt (.var 2) (.int 1)), (.cmp .gt (.var 4) (.int 0))]) [.asg (.nm 9) (.slice (.var 1) (some (.int 1)) none),
    .asg (.nm 3) (.ite (.cmp .lt (.var 4) (.var 2)) (.tup [(.lst []), (.lst [(.sub (.var 1) (.var 4))])]) (.tup [(.lst []), (.lst [])])),
    .ifs (.cmp .ne (.call 8 [(.var 5), (.int 0), (.var 1), (.var 9), (.var 4)]) (.var 3)) [.ret (.bl false)] [],
    .ifs (.cmp .ne (.call 9 [(.var 6), (.int 0), (.var 1), (.var 9), (.var 4)]) (.tup [(.lst []), (.lst [])])) [.ret (.bl false)] []] [],
    .ret (.bl true)] }
/-- 16 law 0:_law_script 1:_law_cells_here 2:_law_k 3:_law_box_here 4:_law_turn -/
def f_law : Fn := { n := 5, ps := 1, io := [], body := [.asg (.nm 1) (.call 12 [(.var 0), (.int 2)]),
    .for_ (.nm 2) .range [(.bi .len [(.var 1)])] [.asg (.nm 3) (.call 10 [(.var 1), (.var 2)]),
    .ifs (.bnot (.bi .all1 [(.lc (.call 15 [(.var 3)]) (.nm 4) .range [(.int 15)] [] [4])])) [.ret (.bl false)] []],
    .ret (.bl true)] }
def f_virt : Fn := { n := 0, ps := 0, io := [], body := [], vt := some (1, [("plain", 2), ("keys", 3), ("swaps", 4), ("buffer", 5)]) }
def T : List Fn := [f_wall, f_tupled, f_plain_row, f_keys_row, f_swaps_row, f_buffer_row, f_first_used, f_told, f_by_number, f_by_keys, f_law_box, f_law_take, f_law_cells, f_law_pick, f_law_items, f_law_right, f_law, f_virt]
def top (i : Nat) : Stmt := PySem.Challenge.pw_stoppedloops_k62_whole_an_item_more_at_a.main.body.getD i (.Pass ⟨0, 0, 0, 0⟩)
abbrev gcs : List (Str × Kc) := [("KEYS", (.str (Str.ofString "keys")))]
abbrev d0 : Def := ⟨"_wall", top 0, ["k"], ["k"], f_wall, [], gcs, ""⟩
abbrev d1 : Def := ⟨"tupled", top 2, ["thing", "part"], ["thing"], f_tupled, [], gcs, ""⟩
abbrev d2 : Def := ⟨"plain_row", top 10, ["items", "lap", "parts"], ["items", "lap", "parts"], f_plain_row, [], gcs, ""⟩
abbrev d3 : Def := ⟨"keys_row", top 11, ["items", "lap", "parts", "pairs", "word", "by_item", "by_lap", "many", "item", "key"], ["items", "lap", "parts"], f_keys_row, [], gcs, ""⟩
abbrev d4 : Def := ⟨"swaps_row", top 12, ["items", "lap", "parts", "row", "place", "word", "by_place", "by_lap", "other"], ["items", "lap", "parts"], f_swaps_row, [], gcs, ""⟩
abbrev d5 : Def := ⟨"buffer_row", top 13, ["items", "lap", "parts", "step", "word", "size", "by_step", "by_lap", "slots", "rest", "row", "slot"], ["items", "lap", "parts"], f_buffer_row, [], gcs, ""⟩
abbrev d6 : Def := ⟨"first_used", top 16, ["rule", "lap", "old", "used", "order"], ["rule", "lap", "old", "used"], f_first_used, [], gcs, ""⟩
abbrev d7 : Def := ⟨"told", top 17, ["ahead", "come", "new", "doubled", "item"], ["ahead", "come", "new"], f_told, [], gcs, ""⟩
abbrev d8 : Def := ⟨"by_number", top 18, ["rule", "lap", "old", "new", "used", "ahead"], ["rule", "lap", "old", "new", "used"], f_by_number, [], gcs, ""⟩
abbrev d9 : Def := ⟨"by_keys", top 19, ["rule", "lap", "old", "new", "used", "ahead", "last", "some", "both", "behind", "item"], ["rule", "lap", "old", "new", "used"], f_by_keys, [], gcs, ""⟩
abbrev d10 : Def := ⟨"_law_box", top 21, ["_law_script", "_law_k", "_law_cell"], ["_law_script", "_law_k"], f_law_box, [], gcs, ""⟩
abbrev d11 : Def := ⟨"_law_take", top 22, ["_law_box_here", "_law_below", "_law_once", "_law_far", "_law_twice", "_law_drawn"], ["_law_box_here", "_law_below"], f_law_take, [], gcs, ""⟩
abbrev d12 : Def := ⟨"_law_cells", top 23, ["_law_script", "_law_most_so", "_law_cells_here", "_law_k", "_law_cell", "_law_at_so"], ["_law_script", "_law_most_so"], f_law_cells, [], gcs, ""⟩
abbrev d13 : Def := ⟨"_law_pick", top 24, ["_law_box_here", "_law_names", "_law_many_so", "_law_turn", "_law_rest_so", "_law_some"], ["_law_box_here", "_law_names", "_law_many_so"], f_law_pick, [], gcs, ""⟩
abbrev d14 : Def := ⟨"_law_items", top 25, ["_law_box_here", "_law_many_so", "_law_some"], ["_law_box_here", "_law_many_so"], f_law_items, [], gcs, ""⟩
abbrev d15 : Def := ⟨"_law_right", top 26, ["_law_box_here", "_law_old_so", "_law_n_so", "_law_due", "_law_used_so", "_law_plain", "_law_keys", "_law_late", "_law_soon", "_law_rest_so", "_law_own"], ["_law_box_here"], f_law_right, [], gcs, ""⟩
abbrev d16 : Def := ⟨"law", top 27, ["_law_script", "_law_cells_here", "_law_k", "_law_box_here", "_law_turn"], ["_law_script"], f_law, [], gcs, ""⟩
abbrev d17 : Def := ⟨"__debug__", .Pass ⟨0, 0, 0, 0⟩, [], [], f_virt, [], gcs, "Order"⟩
def defs : List Def := [d0, d1, d2, d3, d4, d5, d6, d7, d8, d9, d10, d11, d12, d13, d14, d15, d16, d17]
theorem defs_fns : fnsOf defs = T := rfl
theorem chk0 : d0.chk defs = true := by decide +kernel
theorem sc0 : FnScope d0.N d0.ps (L2.defScope d0.st) := ⟨by decide +kernel, by decide +kernel, by decide +kernel, by decide +kernel, by decide +kernel, by decide +kernel, by decide +kernel⟩
theorem chk1 : d1.chk defs = true := by decide +kernel
theorem sc1 : FnScope d1.N d1.ps (L2.defScope d1.st) := ⟨by decide +kernel, by decide +kernel, by decide +kernel, by decide +kernel, by decide +kernel, by decide +kernel, by decide +kernel⟩
theorem chk2 : d2.chk defs = true := by decide +kernel
theorem sc2 : FnScope d2.N d2.ps (L2.defScope d2.st) := ⟨by decide +kernel, by decide +kernel, by decide +kernel, by decide +kernel, by decide +kernel, by decide +kernel, by decide +kernel⟩
theorem chk3 : d3.chk defs = true := by decide +kernel
theorem sc3 : FnScope d3.N d3.ps (L2.defScope d3.st) := ⟨by decide +kernel, by decide +kernel, by decide +kernel, by decide +kernel, by decide +kernel, by decide +kernel, by decide +kernel⟩
theorem chk4 : d4.chk defs = true := by decide +kernel
theorem sc4 : FnScope d4.N d4.ps (L2.defScope d4.st) := ⟨by decide +kernel, by decide +kernel, by decide +kernel, by decide +kernel, by decide +kernel, by decide +kernel, by decide +kernel⟩
theorem chk5 : d5.chk defs = true := by decide +kernel
theorem sc5 : FnScope d5.N d5.ps (L2.defScope d5.st) := ⟨by decide +kernel, by decide +kernel, by decide +kernel, by decide +kernel, by decide +kernel, by decide +kernel, by decide +kernel⟩
theorem chk6 : d6.chk defs = true := by decide +kernel
theorem sc6 : FnScope d6.N d6.ps (L2.defScope d6.st) := ⟨by decide +kernel, by decide +kernel, by decide +kernel, by decide +kernel, by decide +kernel, by decide +kernel, by decide +kernel⟩
theorem chk7 : d7.chk defs = true := by decide +kernel
theorem sc7 : FnScope d7.N d7.ps (L2.defScope d7.st) := ⟨by decide +kernel, by decide +kernel, by decide +kernel, by decide +kernel, by decide +kernel, by decide +kernel, by decide +kernel⟩
theorem chk8 : d8.chk defs = true := by decide +kernel
theorem sc8 : FnScope d8.N d8.ps (L2.defScope d8.st) := ⟨by decide +kernel, by decide +kernel, by decide +kernel, by decide +kernel, by decide +kernel, by decide +kernel, by decide +kernel⟩
theorem chk9 : d9.chk defs = true := by decide +kernel
theorem sc9 : FnScope d9.N d9.ps (L2.defScope d9.st) := ⟨by decide +kernel, by decide +kernel, by decide +kernel, by decide +kernel, by decide +kernel, by decide +kernel, by decide +kernel⟩
theorem chk10 : d10.chk defs = true := by decide +kernel
theorem sc10 : FnScope d10.N d10.ps (L2.defScope d10.st) := ⟨by decide +kernel, by decide +kernel, by decide +kernel, by decide +kernel, by decide +kernel, by decide +kernel, by decide +kernel⟩
theorem chk11 : d11.chk defs = true := by decide +kernel
theorem sc11 : FnScope d11.N d11.ps (L2.defScope d11.st) := ⟨by decide +kernel, by decide +kernel, by decide +kernel, by decide +kernel, by decide +kernel, by decide +kernel, by decide +kernel⟩
theorem chk12 : d12.chk defs = true := by decide +kernel
theorem sc12 : FnScope d12.N d12.ps (L2.defScope d12.st) := ⟨by decide +kernel, by decide +kernel, by decide +kernel, by decide +kernel, by decide +kernel, by decide +kernel, by decide +kernel⟩
theorem chk13 : d13.chk defs = true := by decide +kernel
theorem sc13 : FnScope d13.N d13.ps (L2.defScope d13.st) := ⟨by decide +kernel, by decide +kernel, by decide +kernel, by decide +kernel, by decide +kernel, by decide +kernel, by decide +kernel⟩
theorem chk14 : d14.chk defs = true := by decide +kernel
theorem sc14 : FnScope d14.N d14.ps (L2.defScope d14.st) := ⟨by decide +kernel, by decide +kernel, by decide +kernel, by decide +kernel, by decide +kernel, by decide +kernel, by decide +kernel⟩
theorem chk15 : d15.chk defs = true := by decide +kernel
theorem sc15 : FnScope d15.N d15.ps (L2.defScope d15.st) := ⟨by decide +kernel, by decide +kernel, by decide +kernel, by decide +kernel, by decide +kernel, by decide +kernel, by decide +kernel⟩
theorem chk16 : d16.chk defs = true := by decide +kernel
theorem sc16 : FnScope d16.N d16.ps (L2.defScope d16.st) := ⟨by decide +kernel, by decide +kernel, by decide +kernel, by decide +kernel, by decide +kernel, by decide +kernel, by decide +kernel⟩
theorem chk17 : d17.chk defs = true := by decide +kernel
abbrev sInit : Stmt := inClass (top 9) 1
abbrev sIter : Stmt := inClass (top 9) 2
abbrev sLen : Stmt := inClass (top 9) 3
abbrev sMade : Stmt := inClass (top 9) 15
theorem scInit : FnScope Ob.NI ["self", "items"] (L2.defScope sInit) := ⟨by decide +kernel, by decide +kernel, by decide +kernel, by decide +kernel, by decide +kernel, by decide +kernel, by decide +kernel⟩
theorem scIter : FnScope ["self"] ["self"] (L2.defScope sIter) := ⟨by decide +kernel, by decide +kernel, by decide +kernel, by decide +kernel, by decide +kernel, by decide +kernel, by decide +kernel⟩
theorem scLen : FnScope ["self"] ["self"] (L2.defScope sLen) := ⟨by decide +kernel, by decide +kernel, by decide +kernel, by decide +kernel, by decide +kernel, by decide +kernel, by decide +kernel⟩
theorem scMade : FnScope Ob.NM ["cls", "rule", "items", "lap"] (L2.defScope sMade) := ⟨by decide +kernel, by decide +kernel, by decide +kernel, by decide +kernel, by decide +kernel, by decide +kernel, by decide +kernel⟩
theorem madeOk {P : Program} {w : World} {K : PySem.W.Frag} {mg : Str → Option Value} {base : Heap} {C gM fI : Addr} {fd fdI : FuncData} {k kI : Nat} {C0 : Ev.Ctx} {a1 a2 a3 a4 : Addr} (F : L2.Fun K "made" "Order.made" sMade gM fd) (hB : ∀ b ∈ blts, mg b = none) (lock : C0.lock = [0]) (hc : Ob.CallsOk P w K mg base k C0 (tabOf defs) (kwsOf defs))
    (h1 : mg "plain_row" = some (.ref a1)) (h2 : mg "keys_row" = some (.ref a2)) (h3 : mg "swaps_row" = some (.ref a3)) (h4 : mg "buffer_row" = some (.ref a4)) (M : L2.Mk K C fI) (FI : FnOk P w K mg base CX0 kI fI fdI ["self", "items"] (Ob.spInit K C)) (bI : L2.Binds K fdI ["self", "items"] []) (hk : kI + 1 ≤ k) :
    FnOk P w K mg base CX0 (k + 1) gM fd ["cls", "rule", "items", "lap"] (Ob.spMade K C C0 1 [("plain", 2), ("keys", 3), ("swaps", 4), ("buffer", 5)]) :=
  Ob.made_ok (st := sMade) (tab := tabOf defs) (kt := kwsOf defs) (g1 := "plain_row") (g2 := "keys_row") (g3 := "swaps_row") (g4 := "buffer_row") F scMade (by rfl) (by decide +kernel) (by decide +kernel) (by decide +kernel) (by decide +kernel) (by decide +kernel) hB lock hc (by decide +kernel) (by decide +kernel) (by decide +kernel) (by decide +kernel) h1 h2 h3 h4 (by rfl) (by rfl) (by rfl) (by rfl) M FI bI hk
theorem initOk {P : Program} {w : World} {K : PySem.W.Frag} {mg : Str → Option Value} {base : Heap} {C fI d : Addr} {fd : FuncData} {k : Nat} (F : L2.Fun K "__init__" "Order.__init__" sInit fI fd) (hB : ∀ b ∈ blts, mg b = none) (c : SlX.SCls K C) (sl : SlX.Slot1 K C "own_items" d 0) : FnOk P w K mg base CX0 (k + 1) fI fd ["self", "items"] (Ob.spInit K C) :=
  Ob.init_ok (st := sInit) F scInit (by rfl) (by decide +kernel) (by decide +kernel) hB (by decide +kernel) c sl
theorem defs_chk : ∀ d ∈ defs, d.chk defs = true := by
  intro d hd
  simp only [defs, List.mem_cons, List.not_mem_nil, or_false] at hd
  rcases hd with rfl | rfl | rfl | rfl | rfl | rfl | rfl | rfl | rfl | rfl | rfl | rfl | rfl | rfl | rfl | rfl | rfl | rfl
  · exact chk0
  · exact chk1
  · exact chk2
  · exact chk3
  · exact chk4
  · exact chk5
  · exact chk6
  · exact chk7
  · exact chk8
  · exact chk9
  · exact chk10
  · exact chk11
  · exact chk12
  · exact chk13
  · exact chk14
  · exact chk15
  · exact chk16
  · exact chk17
theorem all_mk {l : PySem.W.OpenLaw} {w : World} {K : PySem.W.Frag} {h : Heap} {mg : Str → Option Value} {fa : Addr} (X : K.In h) (G : h.Ns mainGlobals mg) (hfa : mg "law" = some (.ref fa)) {f0 f1 f2 f3 f4 f5 f6 f7 f8 f9 f10 f11 f12 f13 f14 f15 f16 : Addr}
    {od0 an0 od1 an1 od2 an2 od3 an3 od4 an4 od5 an5 od6 an6 od7 an7 od8 an8 od9 an9 od10 an10 od11 an11 od12 an12 od13 an13 od14 an14 od15 an15 od16 an16 : Option Addr} {sl0 sl1 sl2 sl3 sl4 sl5 sl6 sl7 sl8 sl9 sl10 sl11 sl12 sl13 sl14 sl15 sl16 : Array (Option Value)} {oc0 kV0 dc0 pm0 cd0 ct0 oc1 kV1 dc1 pm1 cd1 ct1 oc2 kV2 dc2 pm2 cd2 ct2 oc3 kV3 dc3 pm3 cd3 ct3 oc4 kV4 dc4 pm4 cd4 ct4 oc5 kV5 dc5 pm5 cd5 ct5 oc6 kV6 dc6 pm6 cd6 ct6 oc7 kV7 dc7 pm7 cd7 ct7 oc8 kV8 dc8 pm8 cd8 ct8 oc9 kV9 dc9 pm9 cd9 ct9 oc10 kV10 dc10 pm10 cd10 ct10 oc11 kV11 dc11 pm11 cd11 ct11 oc12 kV12 dc12 pm12 cd12 ct12 oc13 kV13 dc13 pm13 cd13 ct13 oc14 kV14 dc14 pm14 cd14 ct14 oc15 kV15 dc15 pm15 cd15 ct15 oc16 kV16 dc16 pm16 cd16 ct16 : Value}
    (a0 : PySem.W.nsIn K mainGlobals "_wall" = some (some (.ref f0))) (l0 : K.lookup f0 = some ⟨oc0, od0, .func (PySem.W.fnOf d0.name d0.name (L2.defArgs d0.st) (L2.defBody d0.st) (L2.defScope d0.st) .none kV0 dc0 pm0 an0 cd0 ct0), sl0⟩) (c0 : PySem.W.codeIn K cd0 d0.name = true) (k0 : PySem.W.keepIn K (.ref f0) = true)
    (a1 : PySem.W.nsIn K mainGlobals "tupled" = some (some (.ref f1))) (l1 : K.lookup f1 = some ⟨oc1, od1, .func (PySem.W.fnOf d1.name d1.name (L2.defArgs d1.st) (L2.defBody d1.st) (L2.defScope d1.st) .none kV1 dc1 pm1 an1 cd1 ct1), sl1⟩) (c1 : PySem.W.codeIn K cd1 d1.name = true) (k1 : PySem.W.keepIn K (.ref f1) = true)
    (a2 : PySem.W.nsIn K mainGlobals "plain_row" = some (some (.ref f2))) (l2 : K.lookup f2 = some ⟨oc2, od2, .func (PySem.W.fnOf d2.name d2.name (L2.defArgs d2.st) (L2.defBody d2.st) (L2.defScope d2.st) .none kV2 dc2 pm2 an2 cd2 ct2), sl2⟩) (c2 : PySem.W.codeIn K cd2 d2.name = true) (k2 : PySem.W.keepIn K (.ref f2) = true)
    (a3 : PySem.W.nsIn K mainGlobals "keys_row" = some (some (.ref f3))) (l3 : K.lookup f3 = some ⟨oc3, od3, .func (PySem.W.fnOf d3.name d3.name (L2.defArgs d3.st) (L2.defBody d3.st) (L2.defScope d3.st) .none kV3 dc3 pm3 an3 cd3 ct3), sl3⟩) (c3 : PySem.W.codeIn K cd3 d3.name = true) (k3 : PySem.W.keepIn K (.ref f3) = true)
    (a4 : PySem.W.nsIn K mainGlobals "swaps_row" = some (some (.ref f4))) (l4 : K.lookup f4 = some ⟨oc4, od4, .func (PySem.W.fnOf d4.name d4.name (L2.defArgs d4.st) (L2.defBody d4.st) (L2.defScope d4.st) .none kV4 dc4 pm4 an4 cd4 ct4), sl4⟩) (c4 : PySem.W.codeIn K cd4 d4.name = true) (k4 : PySem.W.keepIn K (.ref f4) = true)
    (a5 : PySem.W.nsIn K mainGlobals "buffer_row" = some (some (.ref f5))) (l5 : K.lookup f5 = some ⟨oc5, od5, .func (PySem.W.fnOf d5.name d5.name (L2.defArgs d5.st) (L2.defBody d5.st) (L2.defScope d5.st) .none kV5 dc5 pm5 an5 cd5 ct5), sl5⟩) (c5 : PySem.W.codeIn K cd5 d5.name = true) (k5 : PySem.W.keepIn K (.ref f5) = true)
    (a6 : PySem.W.nsIn K mainGlobals "first_used" = some (some (.ref f6))) (l6 : K.lookup f6 = some ⟨oc6, od6, .func (PySem.W.fnOf d6.name d6.name (L2.defArgs d6.st) (L2.defBody d6.st) (L2.defScope d6.st) .none kV6 dc6 pm6 an6 cd6 ct6), sl6⟩) (c6 : PySem.W.codeIn K cd6 d6.name = true) (k6 : PySem.W.keepIn K (.ref f6) = true)
    (a7 : PySem.W.nsIn K mainGlobals "told" = some (some (.ref f7))) (l7 : K.lookup f7 = some ⟨oc7, od7, .func (PySem.W.fnOf d7.name d7.name (L2.defArgs d7.st) (L2.defBody d7.st) (L2.defScope d7.st) .none kV7 dc7 pm7 an7 cd7 ct7), sl7⟩) (c7 : PySem.W.codeIn K cd7 d7.name = true) (k7 : PySem.W.keepIn K (.ref f7) = true)
    (a8 : PySem.W.nsIn K mainGlobals "by_number" = some (some (.ref f8))) (l8 : K.lookup f8 = some ⟨oc8, od8, .func (PySem.W.fnOf d8.name d8.name (L2.defArgs d8.st) (L2.defBody d8.st) (L2.defScope d8.st) .none kV8 dc8 pm8 an8 cd8 ct8), sl8⟩) (c8 : PySem.W.codeIn K cd8 d8.name = true) (k8 : PySem.W.keepIn K (.ref f8) = true)
    (a9 : PySem.W.nsIn K mainGlobals "by_keys" = some (some (.ref f9))) (l9 : K.lookup f9 = some ⟨oc9, od9, .func (PySem.W.fnOf d9.name d9.name (L2.defArgs d9.st) (L2.defBody d9.st) (L2.defScope d9.st) .none kV9 dc9 pm9 an9 cd9 ct9), sl9⟩) (c9 : PySem.W.codeIn K cd9 d9.name = true) (k9 : PySem.W.keepIn K (.ref f9) = true)
    (a10 : PySem.W.nsIn K mainGlobals "_law_box" = some (some (.ref f10))) (l10 : K.lookup f10 = some ⟨oc10, od10, .func (PySem.W.fnOf d10.name d10.name (L2.defArgs d10.st) (L2.defBody d10.st) (L2.defScope d10.st) .none kV10 dc10 pm10 an10 cd10 ct10), sl10⟩) (c10 : PySem.W.codeIn K cd10 d10.name = true) (k10 : PySem.W.keepIn K (.ref f10) = true)
    (a11 : PySem.W.nsIn K mainGlobals "_law_take" = some (some (.ref f11))) (l11 : K.lookup f11 = some ⟨oc11, od11, .func (PySem.W.fnOf d11.name d11.name (L2.defArgs d11.st) (L2.defBody d11.st) (L2.defScope d11.st) .none kV11 dc11 pm11 an11 cd11 ct11), sl11⟩) (c11 : PySem.W.codeIn K cd11 d11.name = true) (k11 : PySem.W.keepIn K (.ref f11) = true)
    (a12 : PySem.W.nsIn K mainGlobals "_law_cells" = some (some (.ref f12))) (l12 : K.lookup f12 = some ⟨oc12, od12, .func (PySem.W.fnOf d12.name d12.name (L2.defArgs d12.st) (L2.defBody d12.st) (L2.defScope d12.st) .none kV12 dc12 pm12 an12 cd12 ct12), sl12⟩) (c12 : PySem.W.codeIn K cd12 d12.name = true) (k12 : PySem.W.keepIn K (.ref f12) = true)
    (a13 : PySem.W.nsIn K mainGlobals "_law_pick" = some (some (.ref f13))) (l13 : K.lookup f13 = some ⟨oc13, od13, .func (PySem.W.fnOf d13.name d13.name (L2.defArgs d13.st) (L2.defBody d13.st) (L2.defScope d13.st) .none kV13 dc13 pm13 an13 cd13 ct13), sl13⟩) (c13 : PySem.W.codeIn K cd13 d13.name = true) (k13 : PySem.W.keepIn K (.ref f13) = true)
    (a14 : PySem.W.nsIn K mainGlobals "_law_items" = some (some (.ref f14))) (l14 : K.lookup f14 = some ⟨oc14, od14, .func (PySem.W.fnOf d14.name d14.name (L2.defArgs d14.st) (L2.defBody d14.st) (L2.defScope d14.st) .none kV14 dc14 pm14 an14 cd14 ct14), sl14⟩) (c14 : PySem.W.codeIn K cd14 d14.name = true) (k14 : PySem.W.keepIn K (.ref f14) = true)
    (a15 : PySem.W.nsIn K mainGlobals "_law_right" = some (some (.ref f15))) (l15 : K.lookup f15 = some ⟨oc15, od15, .func (PySem.W.fnOf d15.name d15.name (L2.defArgs d15.st) (L2.defBody d15.st) (L2.defScope d15.st) .none kV15 dc15 pm15 an15 cd15 ct15), sl15⟩) (c15 : PySem.W.codeIn K cd15 d15.name = true) (k15 : PySem.W.keepIn K (.ref f15) = true)
    (a16 : PySem.W.nsIn K mainGlobals "law" = some (some (.ref f16))) (l16 : K.lookup f16 = some ⟨oc16, od16, .func (PySem.W.fnOf d16.name d16.name (L2.defArgs d16.st) (L2.defBody d16.st) (L2.defScope d16.st) .none kV16 dc16 pm16 an16 cd16 ct16), sl16⟩) (c16 : PySem.W.codeIn K cd16 d16.name = true) (k16 : PySem.W.keepIn K (.ref f16) = true)
    {gt0 : Tok} (g0 : PySem.W.nsIn K mainGlobals "KEYS" = some (some (.str "keys" gt0)))
    (z0 : PySem.W.nsIn K mainGlobals "len" = some none)
    (z1 : PySem.W.nsIn K mainGlobals "abs" = some none)
    (z2 : PySem.W.nsIn K mainGlobals "min" = some none)
    (z3 : PySem.W.nsIn K mainGlobals "max" = some none)
    (z4 : PySem.W.nsIn K mainGlobals "sum" = some none)
    (z5 : PySem.W.nsIn K mainGlobals "int" = some none)
    (z6 : PySem.W.nsIn K mainGlobals "list" = some none)
    (z7 : PySem.W.nsIn K mainGlobals "tuple" = some none)
    (z8 : PySem.W.nsIn K mainGlobals "sorted" = some none)
    (z9 : PySem.W.nsIn K mainGlobals "all" = some none)
    (z10 : PySem.W.nsIn K mainGlobals "any" = some none)
    (z11 : PySem.W.nsIn K mainGlobals "divmod" = some none)
    (z12 : PySem.W.nsIn K mainGlobals "range" = some none)
    (z13 : PySem.W.nsIn K mainGlobals "enumerate" = some none)
    (z14 : PySem.W.nsIn K mainGlobals "zip" = some none)
    (z15 : PySem.W.nsIn K mainGlobals "isinstance" = some none)
    (z16 : PySem.W.nsIn K mainGlobals "bool" = some none)
    (z17 : PySem.W.nsIn K mainGlobals "str" = some none)
    (z18 : PySem.W.nsIn K mainGlobals "dict" = some none)
    (z19 : PySem.W.nsIn K mainGlobals "set" = some none)
    {C pM gM fI fT fL dS : Addr} {restM : List Value} {odI anI odT anT odL anL odM anM : Option Addr} {slI slT slL slM : Array (Option Value)} {ocI kVI dcI pmI cdI ctI ocT kVT dcT pmT cdT ctT ocL kVL dcL pmL cdL ctL ocM kVM dcM pmM cdM ctM : Value}
    (aC : PySem.W.nsIn K mainGlobals "Order" = some (some (.ref C)))
    (aI : PySem.W.findIn K (.ref C) "__init__" = some (some (.ref fI))) (iI : PySem.W.isFn K (.ref fI) = true)
    (aT : PySem.W.findIn K (.ref C) "__iter__" = some (some (.ref fT))) (iT : PySem.W.isFn K (.ref fT) = true)
    (aL : PySem.W.findIn K (.ref C) "__len__" = some (some (.ref fL))) (iL : PySem.W.isFn K (.ref fL) = true)
    (rdM : PySem.W.readsIn K C (.type "type") = true) (gaM : PySem.W.specialIn K (.ref C) "__getattribute__" = some (some (.builtin "type.__getattribute__"))) (atM : PySem.W.findCls K (.ref C) (.type "type") "made" = some (.get (.builtin "classmethod.__get__") (.ref pM) .none (.ref C))) (rcM : PySem.W.recIn K pM "classmethod" = some (.ref gM :: restM)) (fiM : PySem.W.fnIn K gM = true)
    (lI : K.lookup fI = some ⟨ocI, odI, .func (PySem.W.fnOf "__init__" "Order.__init__" (L2.defArgs sInit) (L2.defBody sInit) (L2.defScope sInit) .none kVI dcI pmI anI cdI ctI), slI⟩) (cI : PySem.W.codeIn K cdI "Order.__init__" = true) (kI : PySem.W.keepIn K (.ref fI) = true)
    (lT : K.lookup fT = some ⟨ocT, odT, .func (PySem.W.fnOf "__iter__" "Order.__iter__" (L2.defArgs sIter) (L2.defBody sIter) (L2.defScope sIter) .none kVT dcT pmT anT cdT ctT), slT⟩) (cT : PySem.W.codeIn K cdT "Order.__iter__" = true) (kT : PySem.W.keepIn K (.ref fT) = true)
    (lL : K.lookup fL = some ⟨ocL, odL, .func (PySem.W.fnOf "__len__" "Order.__len__" (L2.defArgs sLen) (L2.defBody sLen) (L2.defScope sLen) .none kVL dcL pmL anL cdL ctL), slL⟩) (cL : PySem.W.codeIn K cdL "Order.__len__" = true) (kL : PySem.W.keepIn K (.ref fL) = true)
    (lM : K.lookup gM = some ⟨ocM, odM, .func (PySem.W.fnOf "made" "Order.made" (L2.defArgs sMade) (L2.defBody sMade) (L2.defScope sMade) .none kVM dcM pmM anM cdM ctM), slM⟩) (cM : PySem.W.codeIn K cdM "Order.made" = true) (kM : PySem.W.keepIn K (.ref gM) = true)
    (mkC : PySem.W.makesIn K C = true) (kpC : PySem.W.keepIn K (.ref C) = true) (pgC : PySem.W.plainGet K C Str.empty = true) (icC : PySem.W.isClsIn K C = true) (poC : PySem.W.plainOver K C = true) (saC : PySem.W.findIn K (.ref C) "__setattr__" = some (some (.builtin "object.__setattr__")))
    (atS : PySem.W.findIn K (.ref C) "own_items" = some (some (.ref dS))) (geS : PySem.W.specialIn K (.ref dS) "__get__" = some (some (.builtin "member_descriptor.__get__"))) (tkS : PySem.W.takesIn K (.ref dS) = some true) (tyS : PySem.W.typeIn K (.ref dS) = some (.type "member_descriptor")) (ixS : PySem.W.slotIn K dS C = some 0)
    (zIt : PySem.W.nsIn K mainGlobals "iter" = some none)
    (law : ∀ ns : List Int, ns.length ≤ 63 → (∀ z ∈ ns, Builtin.Int.intBits z ≤ 1048576) → evF T 60 16 [.scr ns] = some (.bl true, [])) :
    ∃ fd : FuncData, (∀ (s : Shared) (v : Value), BindsTo s fd ⟨[v], []⟩ [("_law_script", v)]) ∧ ∀ base : Heap, K.In base → base.Ns mainGlobals mg → FnOk l.prog w K mg base CX0 60 fa fd ["_law_script"] (spLaw K 63) := by
  have e := hfa.symm.trans (PySem.W.mg_of X G a16)
  cases e
  have CON : ∀ y k, gcs.lookup y = some k → ConAt K mg y k := con_cons (con_str (PySem.W.mg_of X G g0) ⟨_, rfl⟩) (con_nil)
  have F0 := fun_mk (st := d0.st) l0 c0 k0
  have b0 := F0.binds (ps := d0.ps) fun _ _ _ _ _ _ us hl => match us, hl with | [_], _ => rfl
  have D0 : DefAt K mg d0 := ⟨⟨_, _, F0, PySem.W.mg_of X G a0, k0, b0, kw_nil⟩, sc0, CON⟩
  have F1 := fun_mk (st := d1.st) l1 c1 k1
  have b1 := F1.binds (ps := d1.ps) fun _ _ _ _ _ _ us hl => match us, hl with | [_], _ => rfl
  have D1 : DefAt K mg d1 := ⟨⟨_, _, F1, PySem.W.mg_of X G a1, k1, b1, kw_nil⟩, sc1, CON⟩
  have F2 := fun_mk (st := d2.st) l2 c2 k2
  have b2 := F2.binds (ps := d2.ps) fun _ _ _ _ _ _ us hl => match us, hl with | [_, _, _], _ => rfl
  have D2 : DefAt K mg d2 := ⟨⟨_, _, F2, PySem.W.mg_of X G a2, k2, b2, kw_nil⟩, sc2, CON⟩
  have F3 := fun_mk (st := d3.st) l3 c3 k3
  have b3 := F3.binds (ps := d3.ps) fun _ _ _ _ _ _ us hl => match us, hl with | [_, _, _], _ => rfl
  have D3 : DefAt K mg d3 := ⟨⟨_, _, F3, PySem.W.mg_of X G a3, k3, b3, kw_nil⟩, sc3, CON⟩
  have F4 := fun_mk (st := d4.st) l4 c4 k4
  have b4 := F4.binds (ps := d4.ps) fun _ _ _ _ _ _ us hl => match us, hl with | [_, _, _], _ => rfl
  have D4 : DefAt K mg d4 := ⟨⟨_, _, F4, PySem.W.mg_of X G a4, k4, b4, kw_nil⟩, sc4, CON⟩
  have F5 := fun_mk (st := d5.st) l5 c5 k5
  have b5 := F5.binds (ps := d5.ps) fun _ _ _ _ _ _ us hl => match us, hl with | [_, _, _], _ => rfl
  have D5 : DefAt K mg d5 := ⟨⟨_, _, F5, PySem.W.mg_of X G a5, k5, b5, kw_nil⟩, sc5, CON⟩
  have F6 := fun_mk (st := d6.st) l6 c6 k6
  have b6 := F6.binds (ps := d6.ps) fun _ _ _ _ _ _ us hl => match us, hl with | [_, _, _, _], _ => rfl
  have D6 : DefAt K mg d6 := ⟨⟨_, _, F6, PySem.W.mg_of X G a6, k6, b6, kw_nil⟩, sc6, CON⟩
  have F7 := fun_mk (st := d7.st) l7 c7 k7
  have b7 := F7.binds (ps := d7.ps) fun _ _ _ _ _ _ us hl => match us, hl with | [_, _, _], _ => rfl
  have D7 : DefAt K mg d7 := ⟨⟨_, _, F7, PySem.W.mg_of X G a7, k7, b7, kw_nil⟩, sc7, CON⟩
  have F8 := fun_mk (st := d8.st) l8 c8 k8
  have b8 := F8.binds (ps := d8.ps) fun _ _ _ _ _ _ us hl => match us, hl with | [_, _, _, _, _], _ => rfl
  have D8 : DefAt K mg d8 := ⟨⟨_, _, F8, PySem.W.mg_of X G a8, k8, b8, kw_nil⟩, sc8, CON⟩
  have F9 := fun_mk (st := d9.st) l9 c9 k9
  have b9 := F9.binds (ps := d9.ps) fun _ _ _ _ _ _ us hl => match us, hl with | [_, _, _, _, _], _ => rfl
  have D9 : DefAt K mg d9 := ⟨⟨_, _, F9, PySem.W.mg_of X G a9, k9, b9, kw_nil⟩, sc9, CON⟩
  have F10 := fun_mk (st := d10.st) l10 c10 k10
  have b10 := F10.binds (ps := d10.ps) fun _ _ _ _ _ _ us hl => match us, hl with | [_, _], _ => rfl
  have D10 : DefAt K mg d10 := ⟨⟨_, _, F10, PySem.W.mg_of X G a10, k10, b10, kw_nil⟩, sc10, CON⟩
  have F11 := fun_mk (st := d11.st) l11 c11 k11
  have b11 := F11.binds (ps := d11.ps) fun _ _ _ _ _ _ us hl => match us, hl with | [_, _], _ => rfl
  have D11 : DefAt K mg d11 := ⟨⟨_, _, F11, PySem.W.mg_of X G a11, k11, b11, kw_nil⟩, sc11, CON⟩
  have F12 := fun_mk (st := d12.st) l12 c12 k12
  have b12 := F12.binds (ps := d12.ps) fun _ _ _ _ _ _ us hl => match us, hl with | [_, _], _ => rfl
  have D12 : DefAt K mg d12 := ⟨⟨_, _, F12, PySem.W.mg_of X G a12, k12, b12, kw_nil⟩, sc12, CON⟩
  have F13 := fun_mk (st := d13.st) l13 c13 k13
  have b13 := F13.binds (ps := d13.ps) fun _ _ _ _ _ _ us hl => match us, hl with | [_, _, _], _ => rfl
  have D13 : DefAt K mg d13 := ⟨⟨_, _, F13, PySem.W.mg_of X G a13, k13, b13, kw_nil⟩, sc13, CON⟩
  have F14 := fun_mk (st := d14.st) l14 c14 k14
  have b14 := F14.binds (ps := d14.ps) fun _ _ _ _ _ _ us hl => match us, hl with | [_, _], _ => rfl
  have D14 : DefAt K mg d14 := ⟨⟨_, _, F14, PySem.W.mg_of X G a14, k14, b14, kw_nil⟩, sc14, CON⟩
  have F15 := fun_mk (st := d15.st) l15 c15 k15
  have b15 := F15.binds (ps := d15.ps) fun _ _ _ _ _ _ us hl => match us, hl with | [_], _ => rfl
  have D15 : DefAt K mg d15 := ⟨⟨_, _, F15, PySem.W.mg_of X G a15, k15, b15, kw_nil⟩, sc15, CON⟩
  have F16 := fun_mk (st := d16.st) l16 c16 k16
  have b16 := F16.binds (ps := d16.ps) fun _ _ _ _ _ _ us hl => match us, hl with | [_], _ => rfl
  have D16 : DefAt K mg d16 := ⟨⟨_, _, F16, PySem.W.mg_of X G a16, k16, b16, kw_nil⟩, sc16, CON⟩
  have hT : ∀ d ∈ defs, d.f.vt = none → DefAt K mg d := by
    intro d hd hv
    simp only [defs, List.mem_cons, List.not_mem_nil, or_false] at hd
    rcases hd with rfl | rfl | rfl | rfl | rfl | rfl | rfl | rfl | rfl | rfl | rfl | rfl | rfl | rfl | rfl | rfl | rfl | rfl
    · exact D0
    · exact D1
    · exact D2
    · exact D3
    · exact D4
    · exact D5
    · exact D6
    · exact D7
    · exact D8
    · exact D9
    · exact D10
    · exact D11
    · exact D12
    · exact D13
    · exact D14
    · exact D15
    · exact D16
    · cases hv
  have hB : ∀ b ∈ blts, mg b = none := by
    intro b hb
    simp only [blts, List.mem_cons, List.not_mem_nil, or_false] at hb
    rcases hb with rfl | rfl | rfl | rfl | rfl | rfl | rfl | rfl | rfl | rfl | rfl | rfl | rfl | rfl | rfl | rfl | rfl | rfl | rfl | rfl
    · exact PySem.W.mg_none_of X G z0
    · exact PySem.W.mg_none_of X G z1
    · exact PySem.W.mg_none_of X G z2
    · exact PySem.W.mg_none_of X G z3
    · exact PySem.W.mg_none_of X G z4
    · exact PySem.W.mg_none_of X G z5
    · exact PySem.W.mg_none_of X G z6
    · exact PySem.W.mg_none_of X G z7
    · exact PySem.W.mg_none_of X G z8
    · exact PySem.W.mg_none_of X G z9
    · exact PySem.W.mg_none_of X G z10
    · exact PySem.W.mg_none_of X G z11
    · exact PySem.W.mg_none_of X G z12
    · exact PySem.W.mg_none_of X G z13
    · exact PySem.W.mg_none_of X G z14
    · exact PySem.W.mg_none_of X G z15
    · exact PySem.W.mg_none_of X G z16
    · exact PySem.W.mg_none_of X G z17
    · exact PySem.W.mg_none_of X G z18
    · exact PySem.W.mg_none_of X G z19
  have FI := fun_mk (st := sInit) lI cI kI
  have bI := FI.binds (ps := ["self", "items"]) fun _ _ _ _ _ _ us hl => match us, hl with | [_, _], _ => rfl
  have FT := fun_mk (st := sIter) lT cT kT
  have bT := FT.binds (ps := ["self"]) fun _ _ _ _ _ _ us hl => match us, hl with | [_], _ => rfl
  have FL := fun_mk (st := sLen) lL cL kL
  have bL := FL.binds (ps := ["self"]) fun _ _ _ _ _ _ us hl => match us, hl with | [_], _ => rfl
  have FM := fun_mk (st := sMade) lM cM kM
  have bM := FM.binds (ps := ["cls", "rule", "items", "lap"]) fun _ _ _ _ _ _ us hl => match us, hl with | [_, _, _, _], _ => rfl
  have sC : SlX.SCls K C := ⟨pgC, icC, poC, saC⟩
  have sS : SlX.Slot1 K C "own_items" dS 0 := ⟨atS, geS, tkS, tyS, ixS, by decide⟩
  have itN := PySem.W.mg_none_of X G zIt
  have hV : ∀ base : Heap, VirtOk l.prog w K mg base defs := by
    intro base gv dv it ways hd hv k hc
    have hm := List.mem_of_getElem? hd
    simp only [defs, List.mem_cons, List.not_mem_nil, or_false] at hm
    rcases hm with rfl | rfl | rfl | rfl | rfl | rfl | rfl | rfl | rfl | rfl | rfl | rfl | rfl | rfl | rfl | rfl | rfl | rfl
    · cases hv
    · cases hv
    · cases hv
    · cases hv
    · cases hv
    · cases hv
    · cases hv
    · cases hv
    · cases hv
    · cases hv
    · cases hv
    · cases hv
    · cases hv
    · cases hv
    · cases hv
    · cases hv
    · cases hv
    · cases hv
      exact ⟨C, PySem.W.mg_of X G aC, _, pM, gM, fT, fL, _, _, _, ⟨rdM, gaM⟩, ⟨atM, ⟨_, rcM⟩, fiM⟩, ⟨aT, iT, aL, iL⟩, madeOk FM hB rfl hc (PySem.W.mg_of X G a2) (PySem.W.mg_of X G a3) (PySem.W.mg_of X G a4) (PySem.W.mg_of X G a5) ⟨mkC, aI, iI, kpC⟩ (initOk (k := 0) FI hB sC sS) bI (by omega), bM, Ob.iter_ok (st := sIter) (k := k + 2) FT scIter (by rfl) (by decide +kernel) itN sC sS, bT, Ob.len_ok (st := sLen) (k := k + 2) FL scLen (by rfl) (by decide +kernel) (PySem.W.mg_none_of X G z0) sC sS, bL⟩
  exact ⟨_, fun s v => .of_eq rfl, fun base _ _ => law_okV (k := 60) (g := 16) (most := 63) (d := d16) hT defs_chk hB (hV base) rfl rfl rfl law F16⟩
theorem walk {l : PySem.W.OpenLaw} {q : Program} {loose : List Str} {XP : (Str → Option Value) → Heap → Prop} {YP : World → Heap → Prop} {d : DefRec} {K : Params → PySem.W.Frag} (hn : l.most = some 63) (hdf : d.params.defaults = []) (hY : ∀ (w : World) (h : Heap), YP w h → (K w.params).In h)
    (F : ∀ (w : World) (mg : Str → Option Value) (fa : Addr) (h : Heap), (K w.params).In h → h.Ns mainGlobals mg → mg d.name = some (.ref fa) → ∃ fd : FuncData, (∀ (s : Shared) (u : Value), BindsTo s fd ⟨[u], []⟩ [("_law_script", u)]) ∧ ∀ base : Heap, (K w.params).In base → base.Ns mainGlobals mg → FnOk l.prog w (K w.params) mg base CX0 60 fa fd ["_law_script"] (spLaw (K w.params) 63)) :
    PySem.W.WalkO q loose XP YP l.row.toRowW d [] (fun f vs => PySem.call f vs) :=
  L2.walk_ofB (n := 63) (k := 60) (x := "_law_script") (CX := fun _ => CX0) (sp := fun w => spLaw (K w.params) 63) hn (by decide) hdf ⟨rfl, by decide, by decide⟩ hY F (fun _ _ a ns hl hb _ hS => ⟨a, ns, rfl, hS, hl, hb, fun _ => rfl⟩) fun _ _ _ _ _ z => z
theorem rowsT : Ev.Ro.RowsAt T 1 2 3 4 5 17 := ⟨rfl, rfl, rfl, rfl, rfl, rfl⟩
theorem law_true : ∀ ns : List Int, ns.length ≤ 63 → (∀ z ∈ ns, Builtin.Int.intBits z ≤ 1048576) → evF T 60 16 [.scr ns] = some (.bl true, []) := by
  intro ns _ _
  have h6 : T[6]? = some (Ev.Ro.f_first_used 17) := rfl
  have h7 : T[7]? = some (Ev.Ro.f_told 1) := rfl
  have h8 : T[8]? = some (Ev.Ro.f_by_number 6 7 17) := rfl
  have h9 : T[9]? = some (Ev.K62.f_by_keys 6 7 17 1) := rfl
  have h10 : T[10]? = some Ev.f_law_box := rfl
  have h11 : T[11]? = some Ev.f_law_take := rfl
  have h12 : T[12]? = some Ev.f_law_cells := rfl
  have h13 : T[13]? = some (Ev.Bu.f_law_pick 11) := rfl
  have h14 : T[14]? = some (Ev.Ro.f_law_items 11 13) := rfl
  have h15 : T[15]? = some (Ev.K62.f_law_right 11 14 8 9) := rfl
  have h16 : T[16]? = some (Ev.f_law12 12 10 15 2 15) := rfl
  rw [evF_run h16]
  have RS : Right (evF T 59) 15 200 100000 := fun d c hb hc => by
    rw [evF_run h15]
    exact Ev.K62.right_run (by simp [h11, Ev.f_law_take]) (by simp [h14, Ev.Ro.f_law_items]) (by simp [h8, Ev.Ro.f_by_number]) (by simp [h9, Ev.K62.f_by_keys]) (take_sp (k := 57) h11) (Ev.Ro.items_sp (k := 55) h11 h13 h14) (Ev.Ro.by_sp rowsT h6 h7 h8 44) (Ev.Ro.keys_sp rowsT h6 h7 h9 44) hb (by omega)
  refine law12_ok (by simp [h15, Ev.K62.f_law_right]) (by simp [h10, Ev.f_law_box]) (by simp [h12, Ev.f_law_cells]) RS (by omega) (by omega) (by omega) (by omega) (fun cs k c hk => ?_) (fun ns => ?_) ns
  · obtain ⟨d, e, b⟩ := box_ok (call := evF T 58) (io := fun h => ((T[h]?).map (·.io)).getD []) hk
    exact ⟨d, by rw [evF_run h10]; exact e, b⟩
  · obtain ⟨cs, l1, l2, e⟩ := cells_ok (call := evF T 58) (io := fun h => ((T[h]?).map (·.io)).getD []) (ns := ns) (m := 2) (by omega) (by omega)
    exact ⟨cs, l1, l2, by rw [evF_run h12]; exact e⟩
end Ev.Prog
open PySem PySem.W PyProof.Rows in
set_option maxRecDepth 100000 in
set_option maxHeartbeats 0 in
theorem PySem.Challenge.cw_stoppedloops_k62_whole_an_item_more_at_a_holds : PySem.Challenge.rw_stoppedloops_k62_whole_an_item_more_at_a.Holds := by
  w_on; o_law; k_head; (case hw => w_witness2)
  k_fill
  refine Ev.Prog.walk (l := PySem.Challenge.rw_stoppedloops_k62_whole_an_item_more_at_a) rfl rfl (fun w h Y => PySem.W.kIn_of Y) ?F
  case F =>
    intro w mg fa h KX G hmg
    refine' Ev.Prog.all_mk KX G hmg ?a0 ?l0 ?c0 ?k0 ?a1 ?l1 ?c1 ?k1 ?a2 ?l2 ?c2 ?k2 ?a3 ?l3 ?c3 ?k3 ?a4 ?l4 ?c4 ?k4 ?a5 ?l5 ?c5 ?k5 ?a6 ?l6 ?c6 ?k6 ?a7 ?l7 ?c7 ?k7 ?a8 ?l8 ?c8 ?k8 ?a9 ?l9 ?c9 ?k9 ?a10 ?l10 ?c10 ?k10 ?a11 ?l11 ?c11 ?k11 ?a12 ?l12 ?c12 ?k12 ?a13 ?l13 ?c13 ?k13 ?a14 ?l14 ?c14 ?k14 ?a15 ?l15 ?c15 ?k15 ?a16 ?l16 ?c16 ?k16 ?mcv0 ?z0 ?z1 ?z2 ?z3 ?z4 ?z5 ?z6 ?z7 ?z8 ?z9 ?z10 ?z11 ?z12 ?z13 ?z14 ?z15 ?z16 ?z17 ?z18 ?z19 ?aC ?aI ?iI ?aT ?iT ?aL ?iL ?rdM ?gaM ?atM ?rcM ?fiM ?lI ?cI ?kI ?lT ?cT ?kT ?lL ?cL ?kL ?lM ?cM ?kM ?mkC ?kpC ?pgC ?icC ?poC ?saC ?atS ?geS ?tkS ?tyS ?ixS ?zIt Ev.Prog.law_true
    (case a0 => k_is)
    (case l0 => k_is)
    (case c0 => k_is)
    (case k0 => k_is)
    (case a1 => k_is)
    (case l1 => k_is)
    (case c1 => k_is)
    (case k1 => k_is)
    (case a2 => k_is)
    (case l2 => k_is)
    (case c2 => k_is)
    (case k2 => k_is)
    (case a3 => k_is)
    (case l3 => k_is)
    (case c3 => k_is)
    (case k3 => k_is)
    (case a4 => k_is)
    (case l4 => k_is)
    (case c4 => k_is)
    (case k4 => k_is)
    (case a5 => k_is)
    (case l5 => k_is)
    (case c5 => k_is)
    (case k5 => k_is)
    (case a6 => k_is)
    (case l6 => k_is)
    (case c6 => k_is)
    (case k6 => k_is)
    (case a7 => k_is)
    (case l7 => k_is)
    (case c7 => k_is)
    (case k7 => k_is)
    (case a8 => k_is)
    (case l8 => k_is)
    (case c8 => k_is)
    (case k8 => k_is)
    (case a9 => k_is)
    (case l9 => k_is)
    (case c9 => k_is)
    (case k9 => k_is)
    (case a10 => k_is)
    (case l10 => k_is)
    (case c10 => k_is)
    (case k10 => k_is)
    (case a11 => k_is)
    (case l11 => k_is)
    (case c11 => k_is)
    (case k11 => k_is)
    (case a12 => k_is)
    (case l12 => k_is)
    (case c12 => k_is)
    (case k12 => k_is)
    (case a13 => k_is)
    (case l13 => k_is)
    (case c13 => k_is)
    (case k13 => k_is)
    (case a14 => k_is)
    (case l14 => k_is)
    (case c14 => k_is)
    (case k14 => k_is)
    (case a15 => k_is)
    (case l15 => k_is)
    (case c15 => k_is)
    (case k15 => k_is)
    (case a16 => k_is)
    (case l16 => k_is)
    (case c16 => k_is)
    (case k16 => k_is)
    (case mcv0 => k_is)
    (case z0 => k_is)
    (case z1 => k_is)
    (case z2 => k_is)
    (case z3 => k_is)
    (case z4 => k_is)
    (case z5 => k_is)
    (case z6 => k_is)
    (case z7 => k_is)
    (case z8 => k_is)
    (case z9 => k_is)
    (case z10 => k_is)
    (case z11 => k_is)
    (case z12 => k_is)
    (case z13 => k_is)
    (case z14 => k_is)
    (case z15 => k_is)
    (case z16 => k_is)
    (case z17 => k_is)
    (case z18 => k_is)
    (case z19 => k_is)
    (case aC => k_is)
    (case aI => k_is)
    (case iI => k_is)
    (case aT => k_is)
    (case iT => k_is)
    (case aL => k_is)
    (case iL => k_is)
    (case rdM => k_is)
    (case gaM => k_is)
    (case atM => k_is)
    (case rcM => k_is)
    (case fiM => k_is)
    (case lI => k_is)
    (case cI => k_is)
    (case kI => k_is)
    (case lT => k_is)
    (case cT => k_is)
    (case kT => k_is)
    (case lL => k_is)
    (case cL => k_is)
    (case kL => k_is)
    (case lM => k_is)
    (case cM => k_is)
    (case kM => k_is)
    (case mkC => k_is)
    (case kpC => k_is)
    (case pgC => k_is)
    (case icC => k_is)
    (case poC => k_is)
    (case saC => k_is)
    (case atS => k_is)
    (case geS => k_is)
    (case tkS => k_is)
    (case tyS => k_is)
    (case ixS => k_is)
    (case zIt => k_is)

