import PyProof.Rows.All
import Wide.All
import OpenK.AllK
import Wide.FinOn
import HandS.ForMost
import HandS.EndBits
import KE.DataCmp
import KE.KExcSuper
import KE.KExcInit
import HandS.ExcInit
import HandS.ExcSuper
import HandS.ExcCtx
import HandS.ExcOwn
import HandS.WordsExc
import KE.KTryMore
import HandS.TryMany
import HandS.ExcIs
import HandS.ExcField
import HandS.Slots
import HandS.Deep
import HandS.TupAny
import HandS.SortInts
import HandS.IsInst
import HandS.WideBits
import HandS.Style
import KE.OsSortAny
import KE.KOpsOwn
import HandS.SlotsOwn
import HandS.ClsMeth
import HandS.Defaults
import HandS.More
import PyProof.InstNe
import PyProof.SumAny
import KE.KTupSum
import OpenK.KMeth
import HandS.OwnEq
import PyProof.P3In
import PyProof.FactsInt
import HandS.SortOrd
import PyProof.ListStr
import KE.KSortedM
import KE.DataMinMax
import HandS.RaiseMore
import HandS.Conv
import HandS.Zip
import HandS.Walk
import HandS.SetFor
import HandS.Flow
import KE.GoesEnum
import HandS.OwnIter
import HandS.IterVal
import HandS.MakeKw
import PyProof.CollectWalk
import PyProof.TupleOfGen
import HandS.GenOver
import HandS.TryOnly
import HandS.SortKw
import HandS.Star
import HandS.TupSets
import HandS.Strs
import KE.KeyNested
import HandS.MakeKwOnly
import KE.GoesRev
import HandS.Replace
import KE.KUnpackStar
import HandS.HeadHook3
import KE.KExcRaise
import HandS.RaiseFrom
import HandS.SuiteRaise
import KE.OsRunLaw
import PySem.Challenge.RW_stoppedloops_k67_whole_no_two_leads_go_o
set_option Elab.async false
set_option linter.all false
set_option maxRecDepth 100000
set_option maxHeartbeats 8000000
open PySem.W (Frag nsIn findIn isFn typeIn subIn specialIn takesIn keepIn fnOf codeIn mg_of mg_none_of)
open L2 (Key Mk E0 defScope defBody Fun defArgs)
local macro_rules | `(tactic| k_head) => `(tactic| k_headL)
set_option maxHeartbeats 0 in
open_top Ev.hd for PySem.Challenge.rw_stoppedloops_k67_whole_no_two_leads_go_o
namespace Ev
open PySem
inductive D where
 | non | bl (b:Bool) | int (i:Int) | str (s:Str) | tup (xs:List D) | lst (o:Bool) (xs:List D)
 | scr (ns:List Int)
 | obj (cn:Str) (xs:List D)
 | exc (cn:Str) (nms:List Str) (xs:List D)
 | mob (cn:Str) (xs:List D)
 | dct (o:Bool) (ks:List Str) (xs:List D)
 | cls (cn:Str)
 | tpn (xs:List D)
 deriving Inhabited,Repr
mutual
def D.frz:D→D
 | .tup xs=>.tup (frzs xs)
 | .lst _ xs=>.lst false (frzs xs)
 | .non=>.non
 | .bl b=>.bl b
 | .int i=>.int i
 | .str s=>.str s
 | .scr ns=>.scr ns
 | .obj cn xs=>.obj cn (frzs xs)
 | .exc cn nms xs=>.exc cn nms (frzs xs)
 | .mob cn xs=>.obj cn (frzs xs)
 | .dct _ ks xs=>.dct false ks (frzs xs)
 | .cls cn=>.cls cn
 | .tpn xs=>.tpn (frzs xs)
def frzs:List D→List D
 | []=>[]
 | d::ds=>d.frz::frzs ds
end
mutual
def D.fz:D→Bool
 | .tup xs=>fzs xs
 | .lst o xs=>!o&&fzs xs
 | .obj _ xs=>fzs xs
 | .exc _ _ xs=>fzs xs
 | .mob _ _=>false
 | .dct o _ xs=>!o&&fzs xs
 | .cls _=>true
 | .tpn xs=>fzs xs
 | .non=>true
 | .bl _=>true
 | .int _=>true
 | .str _=>true
 | .scr _=>true
def fzs:List D→Bool
 | []=>true
 | d::ds=>d.fz&&fzs ds
end
mutual
def D.py:D→PyData
 | .non=>.none
 | .bl b=>.bool b
 | .int i=>.int i
 | .str s=>.str s
 | .tup xs=>.tuple (pys xs)
 | .lst _ xs=>.list (pys xs)
 | .scr _=>.dict []
 | .obj _ _=>.dict []
 | .exc _ _ _=>.dict []
 | .mob _ _=>.dict []
 | .dct _ _ _=>.dict []
 | .cls _=>.dict []
 | .tpn _=>.dict []
def pys:List D→List PyData
 | []=>[]
 | d::ds=>d.py::pys ds
end
mutual
def D.ok:Nat→D→Bool
 | _,.non=>true
 | _,.bl _=>true
 | _,.int _=>true
 | _,.str s=>PyData.strOk s
 | 0,.tup _=>false
 | k+1,.tup xs=>oks k xs
 | 0,.lst _ _=>false
 | k+1,.lst _ xs=>oks k xs
 | _,.scr _=>false
 | _,.obj _ _=>false
 | _,.exc _ _ _=>false
 | _,.mob _ _=>false
 | _,.dct _ _ _=>false
 | _,.cls _=>false
 | _,.tpn _=>false
def oks:Nat→List D→Bool
 | _,[]=>true
 | k,d::ds=>d.ok k&&oks k ds
end
mutual
def D.eq:D→D→Bool
 | .non,.non=>true
 | .bl a,.bl b=>a==b
 | .bl a,.int j=>(if a then 1 else 0)==j
 | .int i,.bl b=>i==(if b then 1 else 0)
 | .int i,.int j=>i==j
 | .str x,.str y=>x==y
 | .lst _ xs,.lst _ ys=>eqs xs ys
 | .tup xs,.tup ys=>eqs xs ys
 | _,_=>false
def eqs:List D→List D→Bool
 | [],[]=>true
 | x::xs,y::ys=>x.eq y&&eqs xs ys
 | _,_=>false
end
def D.flat:D→Bool
 | .tup _=>false
 | .lst _ _=>false
 | .scr _=>false
 | .obj _ _=>false
 | .exc _ _ _=>false
 | .mob _ _=>false
 | .dct _ _ _=>false
 | .cls _=>false
 | .tpn _=>false
 | _=>true
def cS:List D→Bool
 | []=>true
 | d::ds=>d.flat&&cS ds
abbrev cap:Nat:=1000000
inductive Op where | add | sub | mul | fdiv | mod | pow
 deriving DecidableEq,Repr
inductive Cop where | eq | ne | lt | le | gt | ge | isin | notin | isn | isnotn
 deriving DecidableEq,Repr
inductive Bi where | len | abs | min2 | max2 | min1 | max1 | sum1 | int1 | list1 | tuple1 | sorted1 | all1 | any1 | divmod | lrange | trange | maxd | sset | lset | step | lenr | str1 | join (sep:Str) | splt (sep:Str) | repl (c:Str)
 deriving DecidableEq,Repr
def Bi.pl:Bi→Bool
 | .lrange=>false
 | .trange=>false
 | .maxd=>false
 | .sset=>false
 | .lset=>false
 | .step=>false
 | .lenr=>false
 | .join _=>false
 | .splt _=>false
 | .repl _=>false
 | _=>true
inductive Ty where | bool | int | str | list | tuple | dict
 deriving DecidableEq,Repr
inductive Me where | append | pop | popAt | extend | remove | index | reverse
 deriving DecidableEq,Repr
inductive OOp where | mth | len | made | isO | madeK (perm:List Nat) | new | bin (sq:Bool) | una | eqO (ne:Bool) | mthK (kn:Str) | tupO | mobN (ks:List Str) | mobP (n:Nat) (ks:List Str) | newL | newLK (kn:Str) | tR | contO (ne:Bool) | st | stK (perm:List Nat) | cmpO (op:Cop) | binI | rbinI | prop | dcp | cm | cmK (kn:Str) | inMix (ne:Bool)
 deriving DecidableEq,Repr
inductive ItK where | val | range | enum | zip | valO (cn:Str) (f:Nat)
 deriving DecidableEq,Repr
def small64:Int→Bool
 | .ofNat n=>Nat.ble n 18446744073709551615
 | .negSucc n=>Nat.ble n 18446744073709551614
theorem fw (a:Int):small64 a=(decide (-18446744073709551616<a)&&decide (a<18446744073709551616)):=by
 rw [Bool.eq_iff_iff,Bool.and_eq_true,decide_eq_true_eq,decide_eq_true_eq]
 cases a with
 | ofNat n=>rw [show small64 (Int.ofNat n)=Nat.ble n 18446744073709551615 from rfl,Nat.ble_eq];simp only [Int.ofNat_eq_natCast];omega
 | negSucc n=>rw [show small64 (Int.negSucc n)=Nat.ble n 18446744073709551614 from rfl,Nat.ble_eq];omega
def mx:Op→D→D→Option D
 | .add,.int a,.int b=>some (.int (a+b))
 | .add,.lst _ xs,.lst _ ys=>if fzs xs&&fzs ys&&decide (xs.length+ys.length≤cap) then some (.lst true (xs++ys)) else none
 | .add,.tup xs,.tup ys=>if decide (xs.length+ys.length≤cap) then some (.tup (xs++ys)) else none
 | .add,.str a,.str b=>if decide (a.length+b.length≤cap) then some (.str (a++b)) else none
 | .sub,.int a,.int b=>some (.int (a-b))
 | .mul,.int a,.int b=>if small64 a||small64 b then some (.int (a*b)) else none
 | .mul,.lst _ xs,.int k=>if fzs xs&&decide (0≤k)&&decide (k≤1000)&&decide (xs.length≤1000) then some (.lst true (List.replicate k.toNat xs).flatten) else none
 | .fdiv,.int a,.int b=>if decide (0<b)&&decide (b<1073741824) then some (.int (a / b)) else none
 | .mod,.int a,.int b=>if decide (0<b) then some (.int (a % b)) else none
 | .pow,.int a,.int b=>if decide (0≤b)&&decide (b≤1000000)&&small64 a then some (.int (a ^ b.toNat)) else none
 | _,_,_=>none
def intsOf:List D→Option (List Int)
 | []=>some []
 | .int i::ds=>(intsOf ds).map (i::·)
 | _=>none
def boolsOf:List D→Option (List Bool)
 | []=>some []
 | .bl i::ds=>(boolsOf ds).map (i::·)
 | _=>none
def ltI:List Int→List Int→Bool
 | [],[]=>false
 | [],_::_=>true
 | _::_,[]=>false
 | x::xs,y::ys=>if x=y then ltI xs ys else decide (x<y)
def items:D→Option (List D)
 | .tup xs=>some xs
 | .lst _ xs=>if fzs xs then some xs else none
 | _=>none
def isNon:D→Bool
 | .non=>true
 | _=>false
def plain (d:D):Bool:=d.ok 60
def nG (c z:Str):Option Bool:=match c.cps.toList with
 | [x]=>some (decide (x∈z.cps.toList))
 | _=>none
def ia:Cop→D→D→Option Bool
 | .eq,a,b=>if plain a&&plain b then some (a.eq b) else none
 | .ne,a,b=>if plain a&&plain b then some (!a.eq b) else none
 | .lt,.int a,.int b=>some (decide (a<b))
 | .lt,.tup xs,.tup ys=>match intsOf xs,intsOf ys with
  | some ns,some ms=>some (ltI ns ms)
  | _,_=>none
 | .le,.int a,.int b=>some (decide (a≤b))
 | .gt,.int a,.int b=>some (decide (b<a))
 | .gt,.tup xs,.tup ys=>match intsOf xs,intsOf ys with
  | some ns,some ms=>some (ltI ms ns)
  | _,_=>none
 | .ge,.int a,.int b=>some (decide (b≤a))
 | .le,.tup xs,.tup ys=>match intsOf xs,intsOf ys with
  | some ns,some ms=>some (!ltI ms ns)
  | _,_=>none
 | .ge,.tup xs,.tup ys=>match intsOf xs,intsOf ys with
  | some ns,some ms=>some (!ltI ns ms)
  | _,_=>none
 | .isin,a,.lst _ xs=>if plain a&&oks 58 xs then some (xs.any fun x=>x.eq a) else none
 | .isin,.non,.tup xs=>if cS xs then some (xs.any fun x=>x.eq .non) else if oks 58 xs then some (xs.any fun x=>x.eq .non) else none
 | .isin,a,.tup xs=>if a.flat&&cS xs then some (xs.any fun x=>x.eq a) else none
 | .notin,a,.lst _ xs=>if plain a&&oks 58 xs then some (!xs.any fun x=>x.eq a) else none
 | .notin,a,.tup xs=>if a.flat&&cS xs then some (!xs.any fun x=>x.eq a) else none
 | .isin,.str c,.str z=>nG c z
 | .notin,.str c,.str z=>(nG c z).map (!·)
 | .isn,a,.non=>some (isNon a)
 | .isnotn,a,.non=>some (!isNon a)
 | .isn,.bl a,.bl b=>some (decide (a=b))
 | .isnotn,.bl a,.bl b=>some (!decide (a=b))
 | _,_,_=>none
def ixN (n:Nat) (i:Int):Option Nat:=if 0≤i then (if i<n then some i.toNat else none) else if -(n:Int)≤i then some (i+n).toNat else none
def sIx (n d:Nat):Option Int→Nat
 | none=>d
 | some v=>(if v<0 then max (v+(n:Int)) 0 else min v (n:Int)).toNat
def cutD (xs:List D) (lo hi:Option Int):List D:=(xs.drop (sIx xs.length 0 lo)).take (sIx xs.length xs.length hi-sIx xs.length 0 lo)
def slD:D→Option Int→Option Int→Option D
 | .lst _ xs,lo,hi=>if fzs xs then some (.lst true (cutD xs lo hi)) else none
 | .tup xs,lo,hi=>some (.tup (cutD xs lo hi))
 | .scr ns,lo,hi=>some (.lst true (cutD (ns.map .int) lo hi))
 | .str z,lo,hi=>if decide (z.length≤cap) then some (.str (L2.cutS z lo hi)) else none
 | _,_,_=>none
def E7:D→Option D
 | .lst _ xs=>if fzs xs then some (.lst true xs.reverse) else none
 | .tup xs=>some (.tup xs.reverse)
 | _=>none
def insI (x:Int):List Int→List Int
 | []=>[x]
 | y::ys=>if x≤y then x::y::ys else y::insI x ys
def leT (a b:Str):Bool:=!decide (b.cps.toList<a.cps.toList)
def tm (l:List Str):List Str:=l.mergeSort leT
def sortI:List Int→List Int
 | []=>[]
 | x::xs=>insI x (sortI xs)
def pP:Int→List Int→Int
 | m,[]=>m
 | m,x::xs=>pP (if x<m then x else m) xs
def pF:Int→List Int→Int
 | m,[]=>m
 | m,x::xs=>pF (if m<x then x else m) xs
def az (lo:Int) (st:Int):Nat→List D
 | 0=>[]
 | n+1=>.int lo::az (lo+st) st n
def aX:Int→Bool
 | .ofNat n=>Nat.ble n 4611686018427387903
 | .negSucc n=>Nat.ble n 4611686018427387903
theorem iR (a:Int):aX a=(decide (-4611686018427387904≤a)&&decide (a<4611686018427387904)):=by
 rw [Bool.eq_iff_iff,Bool.and_eq_true,decide_eq_true_eq,decide_eq_true_eq]
 cases a with
 | ofNat n=>rw [show aX (Int.ofNat n)=Nat.ble n 4611686018427387903 from rfl,Nat.ble_eq];simp only [Int.ofNat_eq_natCast];omega
 | negSucc n=>rw [show aX (Int.negSucc n)=Nat.ble n 4611686018427387903 from rfl,Nat.ble_eq];omega
def iS (i j c:Int):Nat:=(Builtin.Range.rangeSize i j c).toNat
def e9:Int→Bool
 | .ofNat n=>Nat.ble n 1000000000
 | .negSucc n=>Nat.ble n 1000000000
theorem jt {a:Int} (h:e9 a=true):-1000000001≤a∧a≤1000000000:=by
 cases a with
 | ofNat n=>rw [show e9 (Int.ofNat n)=Nat.ble n 1000000000 from rfl,Nat.ble_eq] at h;simp only [Int.ofNat_eq_natCast];omega
 | negSucc n=>rw [show e9 (Int.negSucc n)=Nat.ble n 1000000000 from rfl,Nat.ble_eq] at h;omega
theorem kT {i j c:Int} (h:(e9 i&&e9 j&&e9 c)=true) (g:c≠0):Builtin.Range.small i j c=true:=by
 simp only [Bool.and_eq_true] at h
 obtain ⟨⟨d,e⟩,f⟩:=h
 have k:=jt d
 have l:=jt e
 have m:=jt f
 have fl:∀ {a:Int},-1000000000000≤a→a≤1000000000000→Builtin.Range.rangeFitsLong a=true:=fun {a} h0 d=>by
  unfold Builtin.Range.rangeFitsLong
  simp only [Bool.and_eq_true,decide_eq_true_eq]
  constructor<;>omega
 have rs:-1000000000000≤Builtin.Range.rangeSize i j c∧Builtin.Range.rangeSize i j c≤1000000000000:=by
  unfold Builtin.Range.rangeSize
  split
  ·split
   ·have:=Int.ediv_nonneg (a:=j-i-1) (b:=c) (by omega) (by omega)
    have:=Int.ediv_le_self (a:=j-i-1) c (by omega)
    omega
   ·omega
  ·split
   ·have:=Int.ediv_nonneg (a:=i-j-1) (b:=-c) (by omega) (by omega)
    have:=Int.ediv_le_self (a:=i-j-1) (-c) (by omega)
    omega
   ·omega
 unfold Builtin.Range.small
 rw [fl (by omega) (by omega),fl (by omega) (by omega),fl (by omega) (by omega),fl rs.1 rs.2]
 split
 ·rw [fl (by omega) (by omega)];simp
 ·rw [fl (by omega) (by omega)];simp
def aN:List D→Option (List D)
 | [.int j]=>if aX j then some (az 0 1 j.toNat) else none
 | [.int i,.int j]=>if aX i&&aX j then some (az i 1 (j-i).toNat) else none
 | [.int i,.int j,.int c]=>if (e9 i&&e9 j&&e9 c)&&decide (c≠0)&&decide (c.natAbs<1000000) then some (az i c (iS i j c)) else none
 | _=>none
def pairsOf:List D→Option (List (Nat × Nat))
 | []=>some []
 | .tup [.int (.ofNat x),.int (.ofNat y)]::ds=>if Nat.blt x 64&&Nat.blt y 64 then (pairsOf ds).map fun ps=>(x,y)::ps else none
 | _=>none
def jT (p:Nat × Nat):Nat:=p.1*64+p.2
def wX (p:Nat × Nat):List (Nat × Nat)→List (Nat × Nat)
 | []=>[p]
 | q::l=>if Nat.blt (jT p) (jT q) then p::q::l else if Nat.beq (jT p) (jT q) then q::l else q::wX p l
def ik:List (Nat × Nat)→List (Nat × Nat)
 | []=>[]
 | p::l=>wX p (ik l)
def pairD (p:Nat × Nat):D:=.tup [.int p.1,.int p.2]
def wy (k:Int):List Int→List Int
 | []=>[k]
 | q::l=>if decide (k<q) then k::q::l else if decide (k=q) then q::l else q::wy k l
def hO:List Int→List Int
 | []=>[]
 | k::l=>wy k (hO l)
def gh:List Int→Bool
 | []=>true
 | k::l=>!l.contains k&&gh l
def oneMore {K:Type} [DecidableEq K] (l:List K) (k:K):List K:=if l.any (fun y=>decide (y=k)) then l else l++[k]
def bf {K:Type} [DecidableEq K] (l:List K):List K:=l.foldl oneMore []
def hX (n lo st:Nat):Nat:=if Nat.blt lo n then (n-lo-1) / st+1 else 0
def fE {α:Type} (is:List Nat) (xs:List α):List α:=is.filterMap fun i=>xs[i]?
def bV {α:Type} (xs:List α) (lo st:Nat):List α:=fE ((List.range (hX xs.length lo st)).map fun m=>min lo xs.length+m*st) xs
def uu:List D→Option (List (Nat × Nat))
 | []=>some []
 | .tup [.int (.ofNat x),.int (.ofNat y)]::ds=>(uu ds).map fun ps=>(x,y)::ps
 | _=>none
def ltQ (p q:Nat × Nat):Bool:=Nat.blt p.1 q.1||(Nat.beq p.1 q.1&&Nat.blt p.2 q.2)
def zh (p:Nat × Nat):List (Nat × Nat)→List (Nat × Nat)
 | []=>[p]
 | q::l=>if ltQ q p then q::zh p l else p::q::l
def pM:List (Nat × Nat)→List (Nat × Nat)
 | []=>[]
 | p::l=>zh p (pM l)
def strsOf:List D→Option (List Str)
 | []=>some []
 | .str s::ds=>(strsOf ds).map (s::·)
 | _=>none
def qi:D→Option (List Int)
 | .tup xs=>intsOf xs
 | _=>none
def di:List D→Option (List (List Int))
 | []=>some []
 | d::ds=>match qi d with
  | some r=>(di ds).map (r::·)
  | none=>none
def tG:D→Option (List (List Int))
 | .tup xs=>di xs
 | _=>none
def cA:List D→Option (List (List (List Int)))
 | []=>some []
 | d::ds=>match tG d with
  | some z=>(cA ds).map (z::·)
  | none=>none
def fA (z:Str):List D:=z.cps.toList.map fun c=>.str ⟨#[c]⟩
def uO (a x:Str) (k b:Int):Bool:=aX k&&aX b&&decide (a.length≠0)&&decide ((Str.ofString (toString k)).length≠0)&&decide (a.length+(Str.ofString (toString k)).length≤1000)&&!(a++Str.ofString (toString k)==Str.ofString (toString b))&&decide (x.length+(x.length+1)*(Str.ofString (toString b)).length≤16777216)
def biD:Bi→List D→Option D
 | .len,[.lst _ xs]=>some (.int xs.length)
 | .len,[.tup xs]=>some (.int xs.length)
 | .len,[.str s]=>if decide (s.length≤cap) then some (.int s.length) else none
 | .abs,[.int a]=>some (.int (if a<0 then -a else a))
 | .min2,[.int a,.int b]=>some (.int (if b<a then b else a))
 | .max2,[.int a,.int b]=>some (.int (if b > a then b else a))
 | .min1,[.lst _ xs]=>match intsOf xs with
  | some (n::ns)=>some (.int (pP n ns))
  | _=>none
 | .min1,[.tup xs]=>match intsOf xs with
  | some (n::ns)=>some (.int (pP n ns))
  | _=>none
 | .max1,[.lst _ xs]=>match intsOf xs with
  | some (n::ns)=>some (.int (pF n ns))
  | _=>none
 | .maxd,[.lst _ xs,.int z]=>match intsOf xs with
  | some (n::ns)=>some (.int (pF n ns))
  | some []=>some (.int z)
  | none=>none
 | .sum1,[.lst _ xs]=>match intsOf xs with
  | some ns=>some (.int ns.sum)
  | _=>none
 | .sum1,[.tup xs]=>match intsOf xs with
  | some ns=>some (.int ns.sum)
  | _=>none
 | .int1,[.int a]=>some (.int a)
 | .int1,[.bl b]=>some (.int (if b then 1 else 0))
 | .int1,[.str z]=>if decide (z.length≤640) then (PySem.intText? z).map .int else none
 | .list1,[.str z]=>if decide (z.length≤cap) then some (.lst true (fA z)) else none
 | .list1,[d]=>(items d).map (.lst true)
 | .tuple1,[d]=>(items d).map .tup
 | .sorted1,[.lst _ xs]=>match intsOf xs with
  | some ns=>some (.lst true ((sortI ns).map .int))
  | none=>match uu xs with
   | some ps=>some (.lst true ((pM ps).map pairD))
   | none=>match strsOf xs with
    | some ss=>if Nat.ble xs.length 60 then some (.lst true ((tm ss).map .str)) else none
    | none=>none
 | .sorted1,[.tup xs]=>match intsOf xs with
  | some ns=>some (.lst true ((sortI ns).map .int))
  | _=>none
 | .all1,[.lst _ xs]=>match boolsOf xs with
  | some ns=>some (.bl (ns.all id))
  | _=>none
 | .any1,[.lst _ xs]=>match boolsOf xs with
  | some ns=>some (.bl (ns.any id))
  | _=>none
 | .divmod,[.int a,.int b]=>if decide (0<b)&&decide (b<1073741824) then some (.tup [.int (a / b),.int (a % b)]) else none
 | .lrange,ds=>match aN ds with
  | some xs=>if decide (xs.length≤cap) then some (.lst true xs) else none
  | none=>none
 | .trange,ds=>match aN ds with
  | some xs=>if decide (xs.length≤cap) then some (.tup xs) else none
  | none=>none
 | .lenr,ds=>match aN ds with
  | some xs=>if decide (xs.length≤cap) then some (.int xs.length) else none
  | none=>none
 | .step,[.tup xs,.int (.ofNat lo),.int (.ofNat st)]=>if Nat.blt 0 st then some (.tup (bV xs lo st)) else none
 | .sset,[.lst _ xs]=>match pairsOf xs with
  | some ps=>if Nat.ble xs.length 60 then some (.lst true ((ik ps).map pairD)) else none
  | none=>match intsOf xs with
   | some ns=>if Nat.ble xs.length 60 then some (.lst true ((hO ns).map D.int)) else none
   | none=>match strsOf xs with
    | some ss=>if Nat.ble xs.length 60 then some (.lst true ((tm (bf ss)).map .str)) else none
    | none=>none
 | .lset,[.lst _ xs]=>match intsOf xs with
  | some ns=>if gh ns&&Nat.ble xs.length 60 then some (.int xs.length) else if Nat.ble xs.length 60 then some (.int (bf ns).length) else none
  | none=>match strsOf xs with
   | some ss=>if Nat.ble xs.length 60 then some (.int (bf ss).length) else none
   | none=>match cA xs with
    | some zs=>if Nat.ble xs.length 76 then some (.int (bf zs).length) else none
    | none=>none
 | .str1,[.int i]=>if aX i then some (.str (toString i)) else none
 | .str1,[.str z]=>some (.str z)
 | .join a,[.lst _ xs]=>match strsOf xs with
  | some ys=>if Nat.ble ((ys.map (·.length)).sum+ys.length*a.length) 1000000 then some (.str (Txt.join a ys)) else none
  | none=>none
 | .splt a,[.str z]=>if decide (0<a.length)&&decide (z.length≤999000) then some (.lst true ((Txt.split z a).map .str)) else none
 | .repl a,[.str x,.int k,.int u,.int v]=>if uO a x k (u+v) then some (.str (Txt.replace x (a++Str.ofString (toString k)) (Str.ofString (toString (u+v))))) else none
 | _,_=>none
def hG:D→Ty→Bool
 | .bl _,.bool=>true
 | .bl _,.int=>true
 | .int _,.int=>true
 | .str _,.str=>true
 | .lst _ _,.list=>true
 | .scr _,.list=>true
 | .tup _,.tuple=>true
 | _,_=>false
inductive A where
 | tmp (d:D)
 | bor (i:Nat) (p:List Nat)
 deriving Inhabited,Repr
abbrev Dl:=List (Option D)
def D.at:D→List Nat→Option D
 | d,[]=>some d
 | .lst true xs,k::p=>match xs[k]? with
  | some x=>x.at p
  | none=>none
 | _,_::_=>none
def D.lu:D→List Nat→(D→Option D)→Option D
 | d,[],f=>f d
 | .lst true xs,k::p,f=>match xs[k]? with
  | some x=>match x.lu p f with
   | some y=>some (.lst true (xs.set k y))
   | none=>none
  | none=>none
 | _,_::_,_=>none
def slot (δ:Dl) (i:Nat):Option D:=match δ[i]? with
 | some (some d)=>some d
 | _=>none
def look (δ:Dl):A→Option D
 | .tmp d=>some d
 | .bor i p=>match slot δ i with
  | some d=>d.at p
  | none=>none
def looks (δ:Dl):List A→Option (List D)
 | []=>some []
 | a::as=>match look δ a,looks δ as with
  | some d,some ds=>some (d::ds)
  | _,_=>none
def bL (δ:Dl) (i:Nat) (p:List Nat) (f:D→Option D):Option Dl:=match slot δ i with
 | some d=>match d.lu p f with
  | some d'=>some (δ.set i (some d'))
  | none=>none
 | none=>none
def toV (δ:Dl):A→Option (D × Dl)
 | .tmp d=>some (d,δ)
 | .bor i p=>match look δ (.bor i p),bL δ i p (fun d=>some d.frz) with
  | some d,some δ'=>some (d.frz,δ')
  | _,_=>none
def bC (δ:Dl):List A→Option (List D × Dl)
 | []=>some ([],δ)
 | a::as=>match toV δ a with
  | some (d,δ1)=>match bC δ1 as with
   | some (ds,δ2)=>some (d::ds,δ2)
   | none=>none
  | none=>none
def mX:A→Bool
 | .bor _ (_::_)=>false
 | _=>true
def settle {α:Type} (es:List α) (δ:Dl):A→Option (A × Dl)
 | .bor i (k::p)=>if es.isEmpty then some (.bor i (k::p),δ) else match toV δ (.bor i (k::p)) with
  | some (d,δ1)=>some (.tmp d,δ1)
  | none=>none
 | a=>some (a,δ)
def FE:Op→Int→Int→Option Int
 | .add,a,b=>some (a+b)
 | .sub,a,b=>some (a-b)
 | .mul,a,b=>if small64 a||small64 b then some (a*b) else none
 | _,_,_=>none
inductive Tg where
 | nm (i:Nat)
 | tp (is:List Nat)
 deriving Repr
def da (lock:List Nat) (i:Nat) (d:D) (δ:Dl):Option Dl:=if decide (i<δ.length)&&!lock.contains i then some (δ.set i (some d)) else none
def cz (lock:List Nat):List Nat→List D→Dl→Option Dl
 | [],[],δ=>some δ
 | i::is,d::ds,δ=>match da lock i d δ with
  | some δ1=>cz lock is ds δ1
  | none=>none
 | _,_,_=>none
def lZ:D→Option (D × List D)
 | .lst _ (x::xs)=>if fzs (x::xs)&&decide (xs.length≤cap) then some (x,xs) else none
 | .tup (x::xs)=>if fzs (x::xs)&&decide (xs.length≤cap) then some (x,xs) else none
 | _=>none
def setT (lock:List Nat):Tg→D→Dl→Option Dl
 | .nm i,d,δ=>da lock i d δ
 | .tp is,.tup ds,δ=>if fzs ds then cz lock is ds δ else none
 | .tp is,.lst _ ds,δ=>if fzs ds then cz lock is ds δ else none
 | .tp _,_,_=>none
inductive Kc where
 | int (i:Int) | str (s:Str) | strs (l:List Str) | dct (ps:List (Str × Int))
 deriving Inhabited,Repr,DecidableEq
def Kc.toD:Kc→D
 | .int i=>.int i
 | .str s=>.str s
 | .strs l=>.tup (l.map .str)
 | .dct _=>.non
inductive E where
 | non | bl (b:Bool) | int (i:Int) | str (s:Str)
 | con (k:Kc)
 | kin (ne:Bool) (ps:List (Str × Int)) (e:E)
 | kix (ps:List (Str × Int)) (e:E)
 | var (i:Nat)
 | bin (op:Op) (a b:E)
 | neg (a:E)
 | cmp (op:Cop) (a b:E)
 | chain (o1 o2:Cop) (a b c:E)
 | band (es:List E)
 | bor (es:List E)
 | bnot (a:E)
 | ite (c a b:E)
 | tup (es:List E)
 | lst (es:List E)
 | disS (l:Bool) (pre:List E) (st:E) (post:List E)
 | pur (e:E)
 | sub (a i:E)
 | slice (a:E) (lo hi:Option E)
 | rev (a:E)
 | call (f:Nat) (es:List E)
 | callK (f:Nat) (es:List E) (perm:List Nat)
 | callT (f:Nat) (es:List E)
 | bi (b:Bi) (es:List E)
 | isi (a:E) (ts:List Ty)
 | xf (a:E) (nm:Str) (cns:List Str)
 | isx (a:E) (t:Str) (cns:List (Str × Bool))
 | meth (m:Me) (o:E) (es:List E)
 | fld (a:E) (cn nm:Str) (i:Nat)
 | wk (a:E)
 | tupN (a:E)
 | tix (a:E) (cn nm:Str) (i:Nat) (e:E)
 | ob (o:OOp) (cn nm:Str) (f:Nat) (es:List E)
 | mthM (v:Nat) (cn nm:Str) (f:Nat) (es:List E)
 | mthMK (v:Nat) (cn nm:Str) (f:Nat) (ks ps:List Str) (es:List E)
 | dct (ks:List Str) (es:List E)
 | key (a:E) (k:Str)
 | clsC (v:Nat) (cn nm:Str) (f:Nat) (st:Bool) (es:List E)
 | lc (elt:E) (tg:Tg) (k:ItK) (its:List E) (ifs:List E) (own:List Nat)
 | lc2 (elt:E) (tg:Tg) (k:ItK) (its:List E) (tg2:Tg) (k2:ItK) (its2:List E) (own own2:List Nat)
 deriving Inhabited,Repr
inductive S where
 | expr (e:E)
 | ret (e:E)
 | retN
 | asg (t:Tg) (e:E)
 | par (is:List Nat) (es:List E)
 | setIx (o i e:E)
 | swapIx (o1 i1 o2 i2:E) (e:E)
 | aug (i:Nat) (op:Op) (e:E)
 | ifs (c:E) (a b:List S)
 | for_ (tg:Tg) (k:ItK) (its:List E) (body:List S)
 | while_ (c:E) (body:List S)
 | pass | brk | cont | bad
 | raise (cn:Str) (nms:List Str) (es:List E)
 | raiseF (cn:Str) (nms:List Str) (es:List E) (cn2:Str) (nms2:List Str) (es2:List E)
 | asgS (i j:Nat) (e:E)
 | setF (v:Nat) (cn nm:Str) (i:Nat) (e:E)
 | parF (v:Nat) (cn:Str) (fs:List (Str × Nat)) (es:List E)
 | setK (v:Nat) (k:Str) (e:E)
 | parK (v:Nat) (ks:List Str) (es:List E)
 deriving Inhabited,Repr
inductive Fl where
 | nx (δ:Dl) | rt (d:D) (δ:Dl) | bk (δ:Dl) | ct (δ:Dl)
 deriving Inhabited,Repr
structure Ctx where
 call:Nat→List D→Option (D × List D)
 io:Nat→List Nat
 lock:List Nat
def isAtom:D→Bool
 | .tup _=>false
 | .lst _ _=>false
 | .scr _=>false
 | .obj _ _=>false
 | .exc _ _ _=>false
 | .mob _ _=>false
 | .dct _ _ _=>false
 | .cls _=>false
 | .tpn _=>false
 | _=>true
def gH:D→Option Bool
 | .non=>some false
 | .bl b=>some b
 | .int i=>some (i != 0)
 | .str s=>if decide (s.length≤cap) then some ((s.length:Int) != 0) else none
 | .tup xs=>some (!xs.isEmpty)
 | .lst _ xs=>some (!xs.isEmpty)
 | .scr _=>none
 | .obj _ _=>none
 | .exc _ _ _=>none
 | .mob _ _=>none
 | .dct _ _ _=>none
 | .cls _=>none
 | .tpn _=>none
def deep (io:List Nat):Bool:=io.contains 1000
@[simp] theorem CC:deep []=false:=rfl
@[simp] theorem Bs (i:Nat) (io:List Nat):deep (i::io)=(1000==i||deep io):=List.contains_cons
def eB (io:List Nat):Nat→List A→Dl→Option (List (Option D) × Dl)
 | _,[],δ=>some ([],δ)
 | j,a::as,δ=>match io.contains j with
  | true=>match a with
   | .tmp _=>match eB io (j+1) as δ with
    | some (os,δ')=>some (none::os,δ')
    | none=>none
   | .bor i []=>match slot δ i with
    | some d=>match eB io (j+1) as (δ.set i none) with
     | some (os,δ')=>some (some d::os,δ')
     | none=>none
    | none=>none
   | .bor _ (_::_)=>none
  | false=>match eB io (j+1) as δ with
   | some (os,δ')=>some (none::os,δ')
   | none=>none
def valOf:List (Option D)→List A→Dl→Option (List D × Dl)
 | [],[],δ=>some ([],δ)
 | some d::os,_::as,δ=>match valOf os as δ with
  | some (ds,δ')=>some (d::ds,δ')
  | none=>none
 | none::os,a::as,δ=>match toV δ a with
  | some (d,δ1)=>match valOf os as δ1 with
   | some (ds,δ')=>some (d::ds,δ')
   | none=>none
  | none=>none
 | _,_,_=>none
mutual
def tfl:D→Bool
 | .tup xs=>uL xs
 | .lst _ _=>false
 | .scr _=>false
 | .obj _ _=>false
 | .exc _ _ _=>false
 | .mob _ _=>false
 | .dct _ _ _=>false
 | .cls _=>false
 | .tpn _=>false
 | .non=>true
 | .bl _=>true
 | .int _=>true
 | .str _=>true
def uL:List D→Bool
 | []=>true
 | d::ds=>tfl d&&uL ds
end
def bh:D→Bool
 | .lst true xs=>cS xs
 | .mob _ xs=>uL xs
 | .dct true _ xs=>uL xs
 | _=>false
def aP (io:List Nat):Nat→List A→List D→Dl→Dl
 | _,[],_,δ=>δ
 | j,a::as,outs,δ=>match io.contains j with
  | true=>match outs with
   | d::outs=>aP io (j+1) as outs (match a with
    | .bor i _=>δ.set i (some d)
    | _=>δ)
   | []=>δ
  | false=>aP io (j+1) as outs δ
def s8 {α:Type} (perm:List Nat) (ds:List α):Option (List α):=perm.mapM fun i=>ds[i]?
def cO:Nat→List D→List D
 | _,[]=>[]
 | k,d::ds=>.tup [.int k,d]::cO (k+1) ds
def lP:List D→List D→List D
 | x::xs,y::ys=>.tup [x,y]::lP xs ys
 | _,_=>[]
def eD:List D→List D→List D→List D
 | x::xs,y::ys,z::zs=>.tup [x,y,z]::eD xs ys zs
 | _,_,_=>[]
def ke:List D→Option (List D)
 | [.tup xs]=>some xs
 | [.lst false xs]=>some xs
 | [.str z]=>some (fA z)
 | _=>none
def fU:List D→Option (List D)
 | [.lst false xs]=>some (cO 0 xs)
 | [.tup xs]=>some (cO 0 xs)
 | _=>none
def qQ:List D→Option (List D)
 | [.tup xs,.tup ys]=>some (lP xs ys)
 | [.lst false xs,.lst false ys]=>some (lP xs ys)
 | [.tup xs,.tup ys,.tup zs]=>some (eD xs ys zs)
 | _=>none
def itD:ItK→List D→Option (List D)
 | .val,ds=>ke ds
 | .valO _ _,ds=>ke ds
 | .range,ds=>aN ds
 | .enum,ds=>fU ds
 | .zip,ds=>qQ ds
def bu (δ:Dl):List Nat→Dl
 | []=>δ
 | v::vs=>(bu δ vs).set v none
def kM (δ0 δ:Dl):List Nat→Dl
 | []=>δ
 | v::vs=>(kM δ0 δ vs).set v (match δ0[v]? with
  | some x=>x
  | none=>none)
def lcL (set:D→Dl→Option Dl) (test:Dl→Option (Bool × Dl)) (elt:Dl→Option (D × Dl)) (own:List Nat):List D→List D→Dl→Option (List D × Dl)
 | [],acc,δ=>some (acc,δ)
 | x::xs,acc,δ=>match set x δ with
  | none=>none
  | some δ1=>match test δ1 with
   | none=>none
   | some (false,δ2)=>lcL set test elt own xs acc (bu δ2 own)
   | some (true,δ2)=>match elt δ2 with
    | none=>none
    | some (y,δ3)=>if decide (acc.length<cap) then lcL set test elt own xs (acc++[y]) (bu δ3 own) else none
def pR (set:D→Dl→Option Dl) (its:Dl→Option (List D × Dl)) (inner:List D→List D→Dl→Option (List D × Dl)) (own own2:List Nat):List D→List D→Dl→Option (List D × Dl)
 | [],acc,δ=>some (acc,δ)
 | x::xs,acc,δ=>match set x δ with
  | none=>none
  | some δ1=>match its δ1 with
   | none=>none
   | some (ys,δ2)=>match inner ys acc (bu δ2 own2) with
    | none=>none
    | some (acc',δ3)=>pR set its inner own own2 xs acc' (bu δ3 own)
def forL (set:D→Dl→Option Dl) (body:Dl→Option Fl):List D→Dl→Option Fl
 | [],δ=>some (.nx δ)
 | x::xs,δ=>match set x δ with
  | none=>none
  | some δ1=>match body δ1 with
   | some (.nx δ2)=>forL set body xs δ2
   | some (.ct δ2)=>forL set body xs δ2
   | some (.bk δ2)=>some (.nx δ2)
   | some (.rt d δ2)=>some (.rt d δ2)
   | none=>none
def fC (test:Dl→Option (Bool × Dl)) (body:Dl→Option Fl):Nat→Dl→Option Fl
 | 0,_=>none
 | n+1,δ=>match test δ with
  | none=>none
  | some (false,δ1)=>some (.nx δ1)
  | some (true,δ1)=>match body δ1 with
   | some (.nx δ2)=>fC test body n δ2
   | some (.ct δ2)=>fC test body n δ2
   | some (.bk δ2)=>some (.nx δ2)
   | some (.rt d δ2)=>some (.rt d δ2)
   | none=>none
def xu (i:Int):List Int→Option Nat
 | []=>none
 | x::xs=>if x=i then some 0 else match xu i xs with
  | some j=>some (j+1)
  | none=>none
def lR:Me→D→List D→Option (D × D)
 | .append,.lst true xs,[d]=>if decide (xs.length<cap) then some (.non,.lst true (xs++[d])) else none
 | .pop,.lst true xs,[]=>match xs.reverse with
  | y::r=>if y.fz then some (y,.lst true r.reverse) else none
  | []=>none
 | .popAt,.lst true xs,[.int i]=>if aX i then match ixN xs.length i with
   | some k=>match xs[k]? with
    | some y=>if y.fz then some (y,.lst true (xs.eraseIdx k)) else none
    | none=>none
   | none=>none
  else none
 | .extend,.lst true xs,[.lst _ ys]=>if fzs ys&&decide (xs.length+ys.length≤cap) then some (.non,.lst true (xs++ys)) else none
 | .remove,.lst true xs,[.int i]=>match intsOf xs with
  | some ns=>match xu i ns with
   | some j=>some (.non,.lst true ((ns.eraseIdx j).map .int))
   | none=>none
  | none=>none
 | .reverse,.lst true xs,[]=>some (.non,.lst true xs.reverse)
 | _,_,_=>none
def AX:Me→D→List D→Option D
 | .index,.lst _ xs,[.int i]=>match intsOf xs with
  | some ns=>match xu i ns with
   | some j=>some (.int j)
   | none=>none
  | none=>none
 | _,_,_=>none
def o7:Option D→Bool
 | some (.lst _ _)=>true
 | _=>false
def partsOf:Bool→Bool→List A→Option (Option Int × Option Int)
 | false,false,[]=>some (none,none)
 | true,false,[.tmp (.int i)]=>some (some i,none)
 | false,true,[.tmp (.int i)]=>some (none,some i)
 | true,true,[.tmp (.int i),.tmp (.int j)]=>some (some i,some j)
 | _,_,_=>none
def aY (C:Ctx) (f:Nat) (as:List A) (δ:Dl):Option (A × Dl):=match eB (C.io f) 0 as δ with
 | some (os,δm)=>match valOf os as δm with
  | some (ds,δ2)=>match C.call f ds with
   | some (r,outs)=>some (.tmp r,aP (C.io f) 0 as outs (if isAtom r then (if deep (C.io f) then δ2 else δm) else δ2))
   | none=>none
  | none=>none
 | none=>none
def Bt (C:Ctx) (f:Nat) (as:List A) (δ:Dl):Option (A × Dl):=if deep (C.io f) then none else match eB (C.io f) 0 as δ with
 | some (os,δm)=>match valOf os as δm with
  | some (ds,_)=>match C.call f ds with
   | some (r,outs)=>if tfl r||bh r then some (.tmp r,aP (C.io f) 0 as outs δm) else none
   | none=>none
  | none=>none
 | none=>none
def zK (C:Ctx) (cn:Str) (f:Nat) (as:List A) (δ:Dl):Option (A × Dl):=match as with
 | [a]=>match look δ a with
  | some (.lst _ xs)=>match C.call f [.lst false xs] with
   | some (.lst true rs,_)=>match intsOf xs,intsOf rs with
    | some ns,some ms=>if decide (ns=ms) then some (.tmp (.obj cn [.tpn rs]),δ) else none
    | _,_=>none
   | _=>none
  | some (.tpn xs)=>match C.call f [.tup xs] with
   | some (.lst true rs,_)=>match intsOf xs,intsOf rs with
    | some ns,some ms=>if decide (ns=ms) then some (.tmp (.obj cn [.tpn rs]),δ) else none
    | _,_=>none
   | _=>none
  | _=>none
 | _=>none
def fY (cn:Str):Option D→Bool
 | some (.obj cn' _)=>decide (cn'=cn)
 | _=>false
def isObj:D→Bool
 | .obj _ _=>true
 | .exc _ _ _=>true
 | .mob _ _=>true
 | .dct _ _ _=>true
 | .cls _=>true
 | .tpn _=>true
 | _=>false
def uR:D→Bool
 | .tup _=>true
 | .lst _ _=>true
 | _=>false
def okR (sq:Bool) (cn:Str) (e:D):Bool:=fY cn (some e)||(sq&&uR e)
def okQ (cn:Str) (e:D):Bool:=fY cn (some e)||!isObj e
def isInt:D→Bool
 | .int _=>true
 | _=>false
def okI (cn:Str) (e:D):Bool:=fY cn (some e)||isInt e
def tY {α:Type}:List Str→List α→List Str→List α→List α
 | n::ns,d::ds,ks,zs=>((ks.zip zs).lookup n).getD d::tY ns ds ks zs
 | _,_,_,_=>[]
abbrev jQ:List Str:=["way","workers","batch","ends"]
abbrev EL:List D:=[.str "turns",.int 1,.int 1,.str "short"]
def E1 (C:Ctx) (cn:Str) (f:Nat) (ks:List Str) (as:List A) (δ:Dl):Option (A × Dl):=match bC δ as with
 | some (it::ru::zs,δ2)=>if zs.length=ks.length then match C.call f (it::ru::tY jQ EL ks zs) with
   | some (.lst true (r::rs),_)=>some (.tmp (.mob cn (r::rs)),δ2)
   | _=>none
  else none
 | _=>none
abbrev zJ:List Str:=["items","rule"]
def Dz (C:Ctx) (cn:Str) (f m:Nat) (ks:List Str) (as:List A) (δ:Dl):Option (A × Dl):=match bC δ as with
 | some (ds,δ2)=>if (ds.drop m).length=ks.length&&decide (m<2) then match ds.take m++tY (zJ.drop m) [.non,.non] ks (ds.drop m) with
   | [it,ru]=>match C.call f (it::ru::tY jQ EL ks (ds.drop m)) with
    | some (.lst true (r::rs),_)=>some (.tmp (.mob cn (r::rs)),δ2)
    | _=>none
   | _=>none
  else none
 | _=>none
def stD (C:Ctx) (cn:Str) (f:Nat) (as:List A) (δ:Dl):Option (A × Dl):=match as with
 | [.tmp (.int a),.tmp (.int b),.tmp (.int u)]=>match C.call f [.int a,.int b,.int u] with
  | some (.lst true (r::rs),_)=>some (.tmp (.obj cn (r::rs)),δ)
  | _=>none
 | _=>none
def Ej (C:Ctx) (cn:Str) (f:Nat) (x:D):List D→Dl→Option (Bool × Dl)
 | [],δ=>some (false,δ)
 | y::ys,δ=>if plain x&&plain y then (if y.eq x then some (true,δ) else Ej C cn f x ys δ)
  else if fY cn (some x)&&uR y then match aY C f [.tmp x,.tmp y] δ with
   | some (.tmp (.bl true),δ')=>some (true,δ')
   | some (.tmp (.bl false),δ')=>Ej C cn f x ys δ'
   | _=>none
  else if fY cn (some x)&&fY cn (some y) then match aY C f [.tmp y,.tmp x] δ with
   | some (.tmp (.bl true),δ')=>some (true,δ')
   | _=>none
  else none
def obD (C:Ctx) (o:OOp) (cn:Str) (f:Nat) (as:List A) (δ:Dl):Option (A × Dl):=match o with
 | .made=>match aY C f as δ with
  | some (.tmp (.lst true rs),δ')=>some (.tmp (.obj cn [.tup rs]),δ')
  | _=>none
 | .mth=>match as with
  | .tmp d::bs=>if fY cn (some d) then aY C f (.tmp d::bs) δ else none
  | _=>none
 | .mthK _=>match as with
  | .tmp d::bs=>if fY cn (some d) then aY C f (.tmp d::bs) δ else none
  | _=>none
 | .len=>match as with
  | [.tmp (.obj cn' [.tup xs])]=>if decide (cn'=cn)&&Nat.ble xs.length 1000000 then match C.call f [.tup []] with
    | some _=>some (.tmp (.int xs.length),δ)
    | none=>none
   else none
  | _=>none
 | .tupO=>match looks δ as with
  | some [.obj cn' [.tup xs]]=>if decide (cn'=cn)&&Nat.ble xs.length 1000000 then match C.call f [.tup []] with
    | some _=>some (.tmp (.tup xs),δ)
    | none=>none
   else none
  | some [d]=>if isObj d then none else match biD .tuple1 [d] with
   | some r=>some (.tmp r,δ)
   | none=>none
  | _=>none
 | .isO=>match as with
  | [.tmp d]=>if fY cn (some d) then some (.tmp (.bl true),δ) else if isObj d then none else some (.tmp (.bl false),δ)
  | _=>none
 | .madeK perm=>match s8 perm as with
  | some as'=>match aY C f as' δ with
   | some (.tmp (.lst true rs),δ')=>some (.tmp (.obj cn [.tup rs]),δ')
   | _=>none
  | none=>none
 | .new=>match as with
  | [a]=>match aY C f [a] δ with
   | some (.tmp (.lst true rs),δ')=>some (.tmp (.obj cn [.tup rs]),δ')
   | _=>none
  | _=>none
 | .tR=>match as with
  | [a]=>match aY C f [a] δ with
   | some (.tmp (.lst true rs),δ')=>some (.tmp (.obj cn [.tup rs]),δ')
   | _=>none
  | _=>none
 | .newL=>zK C cn f as δ
 | .newLK _=>zK C cn f as δ
 | .contO ne=>match s8 [1,0] as with
  | some (.tmp d::bs)=>if fY cn (some d) then match aY C f (.tmp d::bs) δ with
    | some (.tmp (.bl t),δ')=>some (.tmp (.bl (if ne then !t else t)),δ')
    | _=>none
   else none
  | _=>none
 | .bin sq=>match as with
  | .tmp d::bs=>match looks δ bs with
   | some [e]=>if fY cn (some d)&&okR sq cn e then aY C f (.tmp d::bs) δ else none
   | _=>none
  | _=>none
 | .una=>match as with
  | [.tmp d]=>if fY cn (some d) then aY C f [.tmp d] δ else none
  | _=>none
 | .prop=>match as with
  | [.tmp d]=>if fY cn (some d) then aY C f [.tmp d] δ else none
  | _=>none
 | .mobN ks=>E1 C cn f ks as δ
 | .mobP m ks=>Dz C cn f m ks as δ
 | .st=>stD C cn f as δ
 | .stK perm=>match s8 perm as with
  | some as'=>stD C cn f as' δ
  | none=>none
 | .cmpO _=>match as with
  | .tmp d::bs=>match looks δ bs with
   | some [e]=>if fY cn (some d)&&fY cn (some e) then match aY C f (.tmp d::bs) δ with
     | some (.tmp (.bl t),δ')=>some (.tmp (.bl t),δ')
     | _=>none
    else none
   | _=>none
  | _=>none
 | .binI=>match as with
  | .tmp d::bs=>match looks δ bs with
   | some [e]=>if fY cn (some d)&&okI cn e then aY C f (.tmp d::bs) δ else none
   | _=>none
  | _=>none
 | .rbinI=>match as with
  | [.tmp (.int i),.tmp d]=>if fY cn (some d) then aY C f [.tmp d,.tmp (.int i)] δ else none
  | _=>none
 | .dcp=>match looks δ as with
  | some [.dct _ ks xs]=>some (.tmp (.dct true ks xs),δ)
  | _=>none
 | .cm=>aY C f (.tmp (.cls cn)::as) δ
 | .cmK _=>aY C f (.tmp (.cls cn)::as) δ
 | .inMix ne=>match as with
  | [.tmp x,.tmp (.tup ys)]=>match C.call f [ys.getLastD .non,x] with
   | some _=>if x.fz then match Ej C cn f x ys δ with
     | some (b,δ')=>some (.tmp (.bl (if ne then !b else b)),δ')
     | none=>none
    else none
   | none=>none
  | _=>none
 | .eqO ne=>match as with
  | .tmp d::bs=>match looks δ bs with
   | some [e]=>if fY cn (some d)&&okQ cn e then match aY C f (.tmp d::bs) δ with
     | some (.tmp (.bl t),δ')=>some (.tmp (.bl (if ne then !t else t)),δ')
     | _=>none
    else none
   | _=>none
  | _=>none
def pb (m:Me) (es:Dl→Option (List A × Dl)):Option (A × Dl)→Option (A × Dl)
 | some (.bor s p,δ1)=>match slot δ1 s with
  | some d0=>if o7 (d0.at p) then match es (if p.isEmpty then δ1 else δ1.set s none) with
    | some (as,δ2)=>match bC δ2 as with
     | some (ds,δ3)=>match slot (if p.isEmpty then δ3 else δ3.set s (some d0)) s with
      | some d1=>match d1.at p with
       | some d=>match lR m d ds with
        | some (r,d')=>match bL (if p.isEmpty then δ3 else δ3.set s (some d0)) s p (fun _=>some d') with
         | some δ4=>some (.tmp r,δ4)
         | none=>none
        | none=>none
       | none=>none
      | none=>none
     | none=>none
    | none=>none
   else none
  | none=>none
 | _=>none
def dh (δ:Dl):List Nat→Bool
 | []=>true
 | v::vs=>(match slot δ v with
  | some d=>d.fz
  | none=>true)&&dh δ vs
def ixK (k:Str):List Str→Option Nat
 | []=>none
 | x::xs=>if x=k then some 0 else (ixK k xs).map (·+1)
def uY:List D→List (Str × Nat)→List D→List D
 | xs,p::fs,d::ds=>uY (xs.set p.2 d) fs ds
 | xs,_,_=>xs
def zH (ns:List Str):List D→List Str→List D→List D
 | xs,k::ks,d::ds=>match ixK k ns with
  | some i=>zH ns (xs.set i d) ks ds
  | none=>xs
 | xs,_,_=>xs
def inK (ns:List Str) (l:Nat) (k:Str):Bool:=match ixK k ns with
 | some i=>decide (i<l)
 | none=>false
def Fv (δ:Dl):Dl:=δ.map (Option.map D.frz)
def BX (l:Bool) (ds:List D):D:=if l then .lst true ds else .tup ds
def itC (C:Ctx):ItK→List D→Option (List D)
 | .valO cn f,ds=>match ds with
  | [.obj cn' [.tup xs]]=>if decide (cn'=cn)&&(C.call f [.tup []]).isSome then some xs else none
  | _=>ke ds
 | k,ds=>itD k ds
mutual
def evE (C:Ctx):Nat→E→Dl→Option (A × Dl)
 | 0,_,_=>none
 | n+1,e,δ=>match e with
  | .non=>some (.tmp .non,δ)
  | .bl b=>some (.tmp (.bl b),δ)
  | .int i=>some (.tmp (.int i),δ)
  | .str s=>some (.tmp (.str s),δ)
  | .con k=>some (.tmp k.toD,δ)
  | .kin ne ps e=>match evE C n e δ with
   | some (a,δ1)=>match look δ1 a with
    | some (.str z)=>some (.tmp (.bl (ne != (ps.lookup z).isSome)),δ1)
    | _=>none
   | none=>none
  | .kix ps e=>match evE C n e δ with
   | some (a,δ1)=>match look δ1 a with
    | some (.str z)=>match ps.lookup z with
     | some i=>some (.tmp (.int i),δ1)
     | none=>none
    | _=>none
   | none=>none
  | .var i=>match slot δ i with
   | some d=>if d.fz then some (.tmp d,δ) else some (.bor i [],δ)
   | none=>none
  | .bin op a b=>match aL C n [a,b] δ with
   | some (as,δ1)=>match looks δ1 as with
    | some [x,y]=>match mx op x y with
     | some d=>some (.tmp d,δ1)
     | none=>match bC δ1 as with
      | some ([x,y],δ2)=>match mx op x.frz y.frz with
       | some d=>some (.tmp d,δ2)
       | none=>none
      | _=>none
    | _=>none
   | none=>none
  | .neg a=>match evE C n a δ with
   | some (.tmp (.int i),δ1)=>some (.tmp (.int (-i)),δ1)
   | _=>none
  | .cmp op a b=>match aL C n [a,b] δ with
   | some (as,δ1)=>match looks δ1 as with
    | some [x,y]=>match ia op x y with
     | some t=>some (.tmp (.bl t),δ1)
     | none=>none
    | _=>none
   | none=>none
  | .chain o1 o2 a b c=>match aL C n [a,b] δ with
   | some ([.tmp x,.tmp y],δ1)=>match ia o1 x y with
    | some false=>some (.tmp (.bl false),δ1)
    | some true=>match evE C n c δ1 with
     | some (.tmp z,δ2)=>match ia o2 y z with
      | some t=>some (.tmp (.bl t),δ2)
      | none=>none
     | _=>none
    | none=>none
   | _=>none
  | .band es=>tO C n es δ
  | .bor es=>xp C n es δ
  | .bnot a=>match evE C n a δ with
   | some (x,δ1)=>match look δ1 x with
    | some d=>match gH d with
     | some b=>some (.tmp (.bl (!b)),δ1)
     | none=>none
    | none=>none
   | none=>none
  | .ite c a b=>match evT C n c δ with
   | some (true,δ1)=>evE C n a δ1
   | some (false,δ1)=>evE C n b δ1
   | none=>none
  | .tup es=>match aL C n es δ with
   | some (as,δ1)=>match bC δ1 as with
    | some (ds,δ2)=>if decide (ds.length≤cap) then some (.tmp (.tup (frzs ds)),δ2) else none
    | none=>none
   | none=>none
  | .lst es=>match aL C n es δ with
   | some (as,δ1)=>match bC δ1 as with
    | some (ds,δ2)=>if decide (ds.length≤cap) then some (.tmp (.lst true ds),δ2) else none
    | none=>none
   | none=>none
  | .disS l pre st post=>match wK C n pre δ with
   | some (ds,δ1)=>match evV C n st δ1 with
    | some (d,δ2)=>match items d.frz with
     | some xs=>match wK C n post δ2 with
      | some (bs,δ3)=>if decide (ds.length+xs.length+bs.length≤cap) then some (.tmp (BX l (frzs ds++xs++frzs bs)),δ3) else none
      | none=>none
     | none=>none
    | none=>none
   | none=>none
  | .pur e=>match evE C n e (Fv δ) with
   | some (.tmp d,_)=>if isAtom d then some (.tmp d,δ) else none
   | _=>none
  | .sub a i=>match aL C n [a,i] δ with
   | some ([x,.tmp (.int k)],δ1)=>match look δ1 x with
    | some d=>match d with
     | .lst _ xs=>match ixN xs.length k with
      | some j=>match xs[j]? with
       | some y=>if y.fz then some (.tmp y,δ1) else match x with
        | .bor s p=>some (.bor s (p++[j]),δ1)
        | .tmp _=>none
       | none=>none
      | none=>none
     | .tup xs=>match ixN xs.length k with
      | some j=>match xs[j]? with
       | some y=>some (.tmp y,δ1)
       | none=>none
      | none=>none
     | .str z=>if decide (z.length≤cap) then match ixN z.cps.toList.length k with
       | some j=>match z.cps.toList[j]? with
        | some y=>some (.tmp (.str ⟨#[y]⟩),δ1)
        | none=>none
       | none=>none
      else none
     | _=>none
    | none=>none
   | _=>none
  | .slice a lo hi=>match aL C n (a::(lo.toList++hi.toList)) δ with
   | some (x::as,δ1)=>match look δ1 x,partsOf lo.isSome hi.isSome as with
    | some d,some (l,h)=>match slD d l h with
     | some r=>some (.tmp r,δ1)
     | none=>match bC δ1 (x::as) with
      | some (d::_,δ2)=>match slD d.frz l h with
       | some r=>some (.tmp r,δ2)
       | none=>none
      | _=>none
    | _,_=>none
   | _=>none
  | .rev a=>match evE C n a δ with
   | some (x,δ1)=>match look δ1 x with
    | some d=>match E7 d with
     | some r=>some (.tmp r,δ1)
     | none=>none
    | none=>none
   | none=>none
  | .call f es=>match aL C n es δ with
   | some (as,δ1)=>aY C f as δ1
   | none=>none
  | .callK f es perm=>match aL C n es δ with
   | some (as,δ1)=>match s8 perm as with
    | some as=>aY C f as δ1
    | none=>none
   | none=>none
  | .callT f es=>match aL C n es δ with
   | some (as,δ1)=>Bt C f as δ1
   | none=>none
  | .bi b es=>match aL C n es δ with
   | some (as,δ1)=>match looks δ1 as with
    | some ds=>match biD b ds with
     | some d=>some (.tmp d,δ1)
     | none=>none
    | none=>none
   | none=>none
  | .isi a ts=>match evE C n a δ with
   | some (x,δ1)=>match look δ1 x with
    | some d=>if isObj d then none else some (.tmp (.bl (ts.any (hG d))),δ1)
    | none=>none
   | none=>none
  | .xf a nm cns=>match evE C n a δ with
   | some (x,δ1)=>match look δ1 x with
    | some (.exc cn nms xs)=>if cns.contains cn then match (nms.zip xs).lookup nm with
      | some d=>if tfl d then some (.tmp d,δ1) else none
      | none=>none
     else none
    | _=>none
   | none=>none
  | .isx a t cns=>match evE C n a δ with
   | some (x,δ1)=>match look δ1 x with
    | some (.exc cn nms xs)=>match cns.lookup cn with
     | some b=>some (.tmp (.bl b),δ1)
     | none=>none
    | some .non=>some (.tmp (.bl false),δ1)
    | _=>none
   | none=>none
  | .fld a cn nm i=>match evE C n a δ with
   | some (x,δ1)=>match look δ1 x with
    | some (.obj cn' xs)=>if decide (cn'=cn) then match xs[i]? with
      | some y=>some (.tmp y,δ1)
      | none=>none
     else none
    | some (.mob cn' xs)=>if decide (cn'=cn) then match xs[i]? with
      | some y=>some (.tmp y,δ1)
      | none=>none
     else none
    | _=>none
   | none=>none
  | .wk a=>match evE C n a δ with
   | some (x,δ1)=>match look δ1 x with
    | some (.obj cn [.tpn xs])=>some (.tmp (.obj cn [.tup xs]),δ1)
    | some (.obj cn [.tup xs])=>some (.tmp (.obj cn [.tup xs]),δ1)
    | some (.tpn xs)=>some (.tmp (.tup xs),δ1)
    | _=>none
   | none=>none
  | .tupN a=>match evE C n a δ with
   | some (x,δ1)=>match look δ1 x with
    | some (.lst _ xs)=>match intsOf xs with
     | some _=>some (.tmp (.tpn xs),δ1)
     | none=>none
    | _=>none
   | none=>none
  | .tix a cn nm i e=>match evE C n a δ with
   | some (x,δ1)=>match look δ1 x with
    | some (.obj cn' xs)=>if decide (cn'=cn) then match xs[i]? with
      | some (.tpn ys)=>match evE C n e δ1 with
       | some (.tmp (.int z),δ2)=>match intsOf ys with
        | some ns=>match xu z ns with
         | some j=>some (.tmp (.int j),δ2)
         | none=>none
        | none=>none
       | _=>none
      | _=>none
     else none
    | _=>none
   | none=>none
  | .mthM v cn nm f es=>match evE C n (.var v) δ with
   | some (.bor s [],δ0)=>match slot δ0 s with
    | some (.mob cn' _)=>if decide (cn'=cn) then match aL C n es δ0 with
      | some (as,δ1)=>aY C f (.bor s []::as) δ1
      | none=>none
     else none
    | _=>none
   | _=>none
  | .mthMK v cn nm f ks ps es=>match evE C n (.var v) δ with
   | some (.bor s [],δ0)=>match slot δ0 s with
    | some (.mob cn' _)=>if decide (cn'=cn) then match aL C n es δ0 with
      | some (as,δ1)=>match bC δ1 as with
       | some (ds,δ2)=>if fzs ds&&decide (ds.length=ks.length) then aY C f (.bor s []::(tY ps (ps.map fun _=>.non) ks ds).map .tmp) δ2 else none
       | none=>none
      | none=>none
     else none
    | _=>none
   | _=>none
  | .dct ks es=>match aL C n es δ with
   | some (as,δ1)=>match bC δ1 as with
    | some (ds,δ2)=>if decide (ds.length=ks.length) then some (.tmp (.dct true ks (frzs ds)),δ2) else none
    | none=>none
   | none=>none
  | .key a k=>match evE C n a δ with
   | some (x,δ1)=>match look δ1 x with
    | some (.dct _ ks xs)=>match (ks.zip xs).lookup k with
     | some y=>some (.tmp y,δ1)
     | none=>none
    | _=>none
   | none=>none
  | .ob o cn nm f es=>match aL C n es δ with
   | some (as,δ1)=>obD C o cn f as δ1
   | none=>none
  | .clsC v cn nm f st es=>match evE C n (.var v) δ with
   | some (.tmp (.cls cn'),δ0)=>if decide (cn'=cn) then match aL C n es δ0 with
     | some (as,δ1)=>obD C (if st then .st else .new) cn f as δ1
     | none=>none
    else none
   | _=>none
  | .meth m o es=>match m with
   | .index=>match evE C n o δ with
    | some (x,δ1)=>if mX x&&o7 (look δ1 x) then match aL C n es δ1 with
      | some (as,δ2)=>match look δ2 x,looks δ2 as with
       | some d,some ds=>match AX m d ds with
        | some r=>some (.tmp r,δ2)
        | none=>none
       | _,_=>none
      | none=>none
     else none
    | none=>none
   | m=>pb m (aL C n es) (evE C n o δ)
  | .lc elt tg k its ifs own=>match cH C n k its δ with
   | some (xs,δ1)=>if dh δ1 own then match lcL (setT C.lock tg) (bR C n ifs) (evV C n elt) own xs [] (bu δ1 own) with
     | some (ys,δ2)=>some (.tmp (.lst true ys),kM δ1 δ2 own)
     | none=>none
    else none
   | none=>none
  | .lc2 elt tg k its tg2 k2 its2 own own2=>match cH C n k its δ with
   | some (xs,δ1)=>if dh δ1 own then match pR (setT C.lock tg) (cH C n k2 its2) (lcL (setT C.lock tg2) (bR C n []) (evV C n elt) own2) own own2 xs [] (bu δ1 own) with
     | some (ys,δ2)=>some (.tmp (.lst true ys),kM δ1 δ2 own)
     | none=>none
    else none
   | none=>none
def bR (C:Ctx):Nat→List E→Dl→Option (Bool × Dl)
 | 0,_,_=>none
 | _+1,[],δ=>some (true,δ)
 | n+1,[c],δ=>evT C n c δ
 | _+1,_::_::_,_=>none
def evV (C:Ctx):Nat→E→Dl→Option (D × Dl)
 | 0,_,_=>none
 | n+1,e,δ=>match evE C n e δ with
  | some (a,δ1)=>toV δ1 a
  | none=>none
def wK (C:Ctx):Nat→List E→Dl→Option (List D × Dl)
 | 0,_,_=>none
 | n+1,es,δ=>match aL C n es δ with
  | some (as,δ1)=>bC δ1 as
  | none=>none
def aL (C:Ctx):Nat→List E→Dl→Option (List A × Dl)
 | 0,_,_=>none
 | _+1,[],δ=>some ([],δ)
 | n+1,e::es,δ=>match evE C n e δ with
  | some (a,δ1)=>match settle es δ1 a with
   | some (a,δ2)=>match aL C n es δ2 with
    | some (as,δ3)=>some (a::as,δ3)
    | none=>none
   | none=>none
  | none=>none
def tO (C:Ctx):Nat→List E→Dl→Option (A × Dl)
 | 0,_,_=>none
 | _+1,[],_=>none
 | n+1,[e],δ=>evE C n e δ
 | n+1,e::es,δ=>match evE C n e δ with
  | some (a,δ1)=>match look δ1 a with
   | some d=>match gH d with
    | some true=>tO C n es δ1
    | some false=>some (a,δ1)
    | none=>none
   | none=>none
  | none=>none
def xp (C:Ctx):Nat→List E→Dl→Option (A × Dl)
 | 0,_,_=>none
 | _+1,[],_=>none
 | n+1,[e],δ=>evE C n e δ
 | n+1,e::es,δ=>match evE C n e δ with
  | some (a,δ1)=>match look δ1 a with
   | some d=>match gH d with
    | some false=>xp C n es δ1
    | some true=>some (a,δ1)
    | none=>none
   | none=>none
  | none=>none
def evT (C:Ctx):Nat→E→Dl→Option (Bool × Dl)
 | 0,_,_=>none
 | n+1,e,δ=>match e with
  | .band es=>eK C n es δ
  | .bor es=>jw C n es δ
  | .bnot a=>match evT C n a δ with
   | some (b,δ1)=>some (!b,δ1)
   | none=>none
  | e=>match evE C n e δ with
   | some (a,δ1)=>match look δ1 a with
    | some d=>match gH d with
     | some b=>some (b,δ1)
     | none=>none
    | none=>none
   | none=>none
def eK (C:Ctx):Nat→List E→Dl→Option (Bool × Dl)
 | 0,_,_=>none
 | _+1,[],_=>none
 | n+1,[e],δ=>evT C n e δ
 | n+1,e::es,δ=>match evT C n e δ with
  | some (true,δ1)=>eK C n es δ1
  | some (false,δ1)=>some (false,δ1)
  | none=>none
def jw (C:Ctx):Nat→List E→Dl→Option (Bool × Dl)
 | 0,_,_=>none
 | _+1,[],_=>none
 | n+1,[e],δ=>evT C n e δ
 | n+1,e::es,δ=>match evT C n e δ with
  | some (false,δ1)=>jw C n es δ1
  | some (true,δ1)=>some (true,δ1)
  | none=>none
def cH (C:Ctx):Nat→ItK→List E→Dl→Option (List D × Dl)
 | 0,_,_,_=>none
 | n+1,k,es,δ=>match aL C n es δ with
  | some (as,δ1)=>match bC δ1 as with
   | some (ds,δ2)=>match itC C k (frzs ds) with
    | some xs=>some (xs,δ2)
    | none=>none
   | none=>none
  | none=>none
def evS (C:Ctx):Nat→S→Dl→Option Fl
 | 0,_,_=>none
 | n+1,s,δ=>match s with
  | .expr e=>match evE C n e δ with
   | some (_,δ1)=>some (.nx δ1)
   | none=>none
  | .ret e=>match evE C n e δ with
   | some (.tmp d,δ1)=>some (.rt d δ1)
   | some (.bor i [],δ1)=>match slot δ1 i with
    | some d=>if C.lock.contains i then none else some (.rt d (δ1.set i none))
    | none=>none
   | some (.bor i p,δ1)=>match toV δ1 (.bor i p) with
    | some (d,δ2)=>some (.rt d δ2)
    | none=>none
   | none=>none
  | .retN=>some (.rt .non δ)
  | .asg t e=>match evV C n e δ with
   | some (d,δ1)=>match setT C.lock t d δ1 with
    | some δ2=>some (.nx δ2)
    | none=>none
   | none=>none
  | .par is es=>match aL C n es δ with
   | some (as,δ1)=>match bC δ1 as with
    | some (ds,δ2)=>match cz C.lock is ds δ2 with
     | some δ3=>some (.nx δ3)
     | none=>none
    | none=>none
   | none=>none
  | .setIx o i e=>match aL C n [e,o,i] δ with
   | some ([v,.bor s p,.tmp (.int k)],δ1)=>match toV δ1 v with
    | some (d,δ2)=>match bL δ2 s p (fun x=>match x with
      | .lst true xs=>match ixN xs.length k with
       | some j=>some (.lst true (xs.set j d))
       | none=>none
      | _=>none) with
     | some δ3=>some (.nx δ3)
     | none=>none
    | none=>none
   | _=>none
  | .setF v cn nm i e=>match evV C n e δ with
   | some (d,δ1)=>match evE C n (.var v) δ1 with
    | some (.bor s [],δ2)=>match slot δ2 s with
     | some (.mob cn' xs)=>if decide (cn'=cn)&&d.fz&&decide (i<xs.length) then some (.nx (δ2.set s (some (.mob cn' (xs.set i d))))) else none
     | _=>none
    | _=>none
   | none=>none
  | .parF v cn fs es=>match aL C n es δ with
   | some (as,δ1)=>match bC δ1 as with
    | some (ds,δ1)=>match evE C n (.var v) δ1 with
     | some (.bor s [],δ2)=>match slot δ2 s with
      | some (.mob cn' xs)=>if decide (cn'=cn)&&fzs ds&&decide (ds.length=fs.length)&&fs.all (fun p=>decide (p.2<xs.length)) then some (.nx (δ2.set s (some (.mob cn' (uY xs fs ds))))) else none
      | _=>none
     | _=>none
    | none=>none
   | none=>none
  | .setK v k e=>match evV C n e δ with
   | some (d,δ1)=>match evE C n (.var v) δ1 with
    | some (.bor s [],δ2)=>match slot δ2 s with
     | some (.dct true ks xs)=>match ixK k ks with
      | some i=>if decide (i<xs.length)&&decide (ks.length≤15) then some (.nx (δ2.set s (some (.dct true ks (xs.set i d.frz))))) else none
      | none=>none
     | _=>none
    | _=>none
   | none=>none
  | .parK v ks es=>match aL C n es δ with
   | some (as,δ1)=>match bC δ1 as with
    | some (ds,δ1)=>match evE C n (.var v) δ1 with
     | some (.bor s [],δ2)=>match slot δ2 s with
      | some (.dct true ns xs)=>if decide (ds.length=ks.length)&&ks.all (inK ns xs.length)&&decide (ns.length≤15) then some (.nx (δ2.set s (some (.dct true ns (zH ns xs ks (frzs ds)))))) else none
      | _=>none
     | _=>none
    | none=>none
   | none=>none
  | .swapIx o1 i1 o2 i2 e=>match evV C n e δ with
   | some (.tup [a,b],δ1)=>match aL C n [o1,i1] δ1 with
    | some ([.bor s1 [],.tmp (.int k1)],δ2)=>match bL δ2 s1 [] (fun x=>match x with
      | .lst true xs=>match ixN xs.length k1 with
       | some j=>some (.lst true (xs.set j a))
       | none=>none
      | _=>none) with
     | some δ3=>match aL C n [o2,i2] δ3 with
      | some ([.bor s2 [],.tmp (.int k2)],δ4)=>match bL δ4 s2 [] (fun x=>match x with
        | .lst true xs=>match ixN xs.length k2 with
         | some j=>some (.lst true (xs.set j b))
         | none=>none
        | _=>none) with
       | some δ5=>some (.nx δ5)
       | none=>none
      | _=>none
     | none=>none
    | _=>none
   | _=>none
  | .aug i op e=>match slot δ i with
   | some (.int x)=>match evE C n e δ with
    | some (.tmp (.int y),δ1)=>match FE op x y with
     | some z=>match da C.lock i (.int z) δ1 with
      | some δ2=>some (.nx δ2)
      | none=>none
     | none=>none
    | _=>none
   | _=>none
  | .ifs c a b=>match evT C n c δ with
   | some (true,δ1)=>aT C n a δ1
   | some (false,δ1)=>aT C n b δ1
   | none=>none
  | .for_ tg k its body=>match cH C n k its δ with
   | some (xs,δ1)=>forL (setT C.lock tg) (aT C n body) xs δ1
   | none=>none
  | .while_ c body=>fC (evT C n c) (aT C n body) 1000 δ
  | .pass=>some (.nx δ)
  | .brk=>some (.bk δ)
  | .cont=>some (.ct δ)
  | .bad=>none
  | .raise cn nms es=>none
  | .raiseF cn nms es cn2 nms2 es2=>none
  | .asgS i j e=>match evV C n e δ with
   | some (d,δ1)=>match lZ d with
    | some (x,xs)=>if i != j then match da C.lock i x δ1 with
      | some δ2=>match da C.lock j (.lst true xs) δ2 with
       | some δ3=>some (.nx δ3)
       | none=>none
      | none=>none
     else none
    | none=>none
   | none=>none
def aT (C:Ctx):Nat→List S→Dl→Option Fl
 | 0,_,_=>none
 | _+1,[],δ=>some (.nx δ)
 | n+1,s::ss,δ=>match evS C n s δ with
  | some (.nx δ1)=>aT C n ss δ1
  | r=>r
end
def isX:D→Bool
 | .exc _ _ xs=>uL xs
 | _=>false
def kh (C:Ctx) (f:Nat) (as:List A) (δ:Dl):Option (D × Dl):=if deep (C.io f) then none else match eB (C.io f) 0 as δ with
  | some (os,δm)=>match valOf os as δm with
   | some (ds,_)=>match C.call (1000+f) ds with
    | some (x,outs)=>if isX x then some (x,aP (C.io f) 0 as outs δm) else none
    | none=>none
   | none=>none
  | none=>none
def rSt (C:Ctx) (xn:Str) (f:Nat) (as:List A) (δ:Dl):Option (D × Dl):=match as with
 | [.tmp (.int a),.tmp (.int b),.tmp (.int u)]=>match C.call f [.int a,.int b,.int u] with
  | some (.lst true [],_)=>some (.exc xn ["used"] [.int u],δ)
  | _=>none
 | _=>none
def EU:List Int→List Int→Option Int
 | _,[]=>none
 | pre,x::xs=>if pre.contains x then some x else EU (pre++[x]) xs
def EY:D→Option (List Int)
 | .tup xs=>intsOf xs
 | .lst _ xs=>intsOf xs
 | _=>none
def E6 (C:Ctx) (f:Nat) (as:List A) (δ:Dl):Option (D × Dl):=match as with
 | [a]=>match look δ a with
  | some d=>match EY d with
   | some ns=>match EU [] ns with
    | some z=>match C.call f [.tup []] with
     | some _=>some (.exc "Twice" ["item"] [.int z],δ)
     | none=>none
    | none=>none
   | none=>none
  | none=>none
 | _=>none
def rOb (C:Ctx) (o:OOp) (cn nm:Str) (f:Nat) (as:List A) (δ:Dl):Option (D × Dl):=match o with
 | .mth=>match as with
  | .tmp d::bs=>if fY cn (some d) then kh C f (.tmp d::bs) δ else none
  | _=>none
 | .bin sq=>match as with
  | .tmp d::bs=>match looks δ bs with
   | some [e]=>if fY cn (some d)&&okR sq cn e then kh C f (.tmp d::bs) δ else none
   | _=>none
  | _=>none
 | .binI=>match as with
  | .tmp d::bs=>match looks δ bs with
   | some [e]=>if fY cn (some d)&&okI cn e then kh C f (.tmp d::bs) δ else none
   | _=>none
  | _=>none
 | .tR=>E6 C f as δ
 | .st=>rSt C nm f as δ
 | .stK perm=>match s8 perm as with
  | some as'=>rSt C nm f as' δ
  | none=>none
 | .cm=>kh C f (.tmp (.cls cn)::as) δ
 | .cmK _=>kh C f (.tmp (.cls cn)::as) δ
 | _=>none
def DT:E→Bool
 | .ob .mth _ _ _ (.var _::_)=>true
 | .ob .mth _ _ _ (.wk (.var _)::_)=>true
 | .call _ _=>true
 | .ob .cm _ _ _ _=>true
 | .mthM _ _ _ _ _=>true
 | _=>false
def Ew (set:D→Dl→Option Dl) (test:Dl→Option (Bool × Dl)) (elt:Dl→Option (D × Dl)) (relt:Dl→Option (D × Dl)) (own:List Nat):List D→List D→Dl→Option (D × Dl)
 | [],_,_=>none
 | x::xs,acc,δ=>match set x δ with
  | none=>none
  | some δ1=>match test δ1 with
   | none=>none
   | some (false,δ2)=>Ew set test elt relt own xs acc (bu δ2 own)
   | some (true,δ2)=>match relt δ2 with
    | some (r,δ3)=>some (r,bu δ3 own)
    | none=>match elt δ2 with
     | none=>none
     | some (y,δ3)=>if decide (acc.length<cap) then Ew set test elt relt own xs (acc++[y]) (bu δ3 own) else none
def rE (C:Ctx):Nat→E→Dl→Option (D × Dl)
 | 0,_,_=>none
 | n+1,e,δ=>match e with
  | .call f es=>if es.isEmpty then none else match aL C n es δ with
   | some (as,δ1)=>kh C f as δ1
   | none=>match es with
    | [e1]=>if DT e1 then rE C n e1 δ else none
    | _=>none
  | .sub a _=>rE C n a δ
  | .ob o cn nm f es=>match aL C n es δ with
   | some (as,δ1)=>rOb C o cn nm f as δ1
   | none=>match o,es with
    | .new,[.lc elt tg k its ifs own]=>if DT elt&&(C.call f [.tup []]).isSome then match cH C n k its δ with
      | some (xs,δ1)=>if dh δ1 own then match Ew (setT C.lock tg) (bR C n ifs) (evV C n elt) (rE C n elt) own xs [] (bu δ1 own) with
        | some (r,δ2)=>some (r,kM δ1 δ2 own)
        | none=>none
       else none
      | none=>none
     else none
    | .mth,e1::_=>rE C n e1 δ
    | _,_=>none
  | .ite c a b=>match evT C n c δ with
   | some (t,δ1)=>rE C n (if t then a else b) δ1
   | none=>none
  | .clsC v cn nm f st es=>match evE C n (.var v) δ with
   | some (.tmp (.cls cn'),δ0)=>if st&&decide (cn'=cn) then match aL C n es δ0 with
     | some (as,δ1)=>rSt C nm f as δ1
     | none=>none
    else none
   | _=>none
  | .mthM v cn _ f es=>match evE C n (.var v) δ with
   | some (.bor s [],δ0)=>match slot δ0 s with
    | some (.mob cn' _)=>if decide (cn'=cn) then match aL C n es δ0 with
      | some (as,δ1)=>kh C f (.bor s []::as) δ1
      | none=>match es with
       | [e1]=>if DT e1 then rE C n e1 δ0 else none
       | _=>none
     else none
    | _=>none
   | _=>none
  | .mthMK v cn _ f ks ps es=>match evE C n (.var v) δ with
   | some (.bor s [],δ0)=>match slot δ0 s with
    | some (.mob cn' _)=>if decide (cn'=cn) then match aL C n es δ0 with
      | some (as,δ1)=>match bC δ1 as with
       | some (ds,δ2)=>if fzs ds&&decide (ds.length=ks.length) then kh C f (.bor s []::(tY ps (ps.map fun _=>.non) ks ds).map .tmp) δ2 else none
       | none=>none
      | none=>none
     else none
    | _=>none
   | _=>none
  | _=>none
def xl (set:D→Dl→Option Dl) (rb:Dl→Option (D × Dl)) (body:Dl→Option Fl):List D→Dl→Option (D × Dl)
 | [],_=>none
 | x::xs,δ=>match set x δ with
  | none=>none
  | some δ1=>match rb δ1 with
   | some r=>some r
   | none=>match body δ1 with
    | some (.nx δ2)=>xl set rb body xs δ2
    | some (.ct δ2)=>xl set rb body xs δ2
    | _=>none
mutual
def rS (C:Ctx):Nat→S→Dl→Option (D × Dl)
 | 0,_,_=>none
 | n+1,s,δ=>match s with
  | .expr e=>rE C n e δ
  | .ret e=>rE C n e δ
  | .asg _ e=>rE C n e δ
  | .ifs c a b=>match evT C n c δ with
   | some (t,δ1)=>rSs C n (if t then a else b) δ1
   | none=>none
  | .raise cn nms es=>match aL C n es δ with
   | some (as,δ1)=>match bC δ1 as with
    | some (ds,δ2)=>if uL ds&&decide (ds.length=nms.length) then some (.exc cn nms.reverse ds.reverse,δ2) else none
    | none=>none
   | none=>none
  | .raiseF cn nms es cn2 nms2 es2=>match aL C n es δ with
   | some (as,δ1)=>match bC δ1 as with
    | some (ds,δ2)=>if uL ds&&decide (ds.length=nms.length) then match aL C n es2 δ2 with
      | some (as2,δ3)=>match bC δ3 as2 with
       | some (ds2,δ4)=>if decide (ds2.length=nms2.length) then some (.exc cn nms.reverse ds.reverse,δ4) else none
       | none=>none
      | none=>none
     else none
    | none=>none
   | none=>none
  | .par _ es=>match es with
   | e::_=>rE C n e δ
   | []=>none
  | .for_ tg k its body=>match cH C n k its δ with
   | some (xs,δ1)=>xl (setT C.lock tg) (fun δ=>rSs C n body δ) (aT C n body) xs δ1
   | none=>none
  | _=>none
def rSs (C:Ctx):Nat→List S→Dl→Option (D × Dl)
 | 0,_,_=>none
 | n+1,ss,δ=>match ss with
  | []=>none
  | s::ss=>match rS C n s δ with
   | some r=>some r
   | none=>match evS C n s δ with
    | some (.nx δ1)=>rSs C n ss δ1
    | _=>none
end
structure Tr where
 body:List S
 ei:Nat
 ci:Nat
 cs:List Str
 post:List S
 su:Option (List S):=none
 nm:Bool:=true
 sco:Option (List Nat):=none
 rz:Option (Str × Str):=none
 deriving Inhabited,Repr
def FU:D→Option Str
 | .exc cn _ _=>some cn
 | _=>none
def FZ (C:Ctx) (t:Tr) (δ:Dl):Option Fl:=match aT C 100 t.body δ with
 | some r=>some r
 | none=>match rSs C 100 t.body δ with
  | some (x,δ1)=>match FU x with
   | some cn=>if !t.nm then (if t.cs.contains cn then match t.su with
     | some ss=>match aT C 100 ss δ1 with
      | some (.rt d δ3)=>some (.rt d δ3)
      | some (.nx δ3)=>some (.nx δ3)
      | _=>none
     | none=>none
    else none) else if t.cs.contains cn&&(slot δ1 t.ei).isNone&&t.ei != t.ci&&!C.lock.contains t.ei then match t.su with
    | none=>match da C.lock t.ci x δ1 with
     | some δ2=>some (.nx δ2)
     | none=>none
    | some ss=>match da C.lock t.ei x δ1 with
     | some δ2=>match aT C 100 ss δ2 with
      | some (.rt d δ3)=>some (.rt d δ3)
      | some (.nx δ3)=>some (.nx (δ3.set t.ei none))
      | _=>none
     | none=>none
    else none
   | none=>none
  | none=>none
def rX (C:Ctx) (post:List S):Option Fl→Option Fl
 | some (.nx δ)=>aT C 100 post δ
 | r=>r
structure Fn where
 n:Nat
 ps:Nat
 io:List Nat
 body:List S
 vt:Option (Nat × List (Str × Nat)):=none
 tr:Option Tr:=none
 deriving Inhabited,Repr
def Ae:S:=.asg (.nm 2) (.bi .tuple1 [(.var 1)])
def AG:S:=.for_ (.tp [3,4]) .enum [(.var 2)] [.ifs (.cmp .isin (.var 4) (.slice (.var 2) none (some (.var 3)))) [.bad] []]
abbrev CI:Ctx:=⟨fun _ _=>none,fun _=>[],[0]⟩
abbrev CI2:Ctx:=⟨fun _ _=>none,fun _=>[],[0,2]⟩
def u5 (d:D):Option (List D):=match evS CI 99 Ae [none,some d,none,none,none] with
 | some (.nx δ1)=>match evS CI2 98 AG δ1 with
  | some (.nx δ2)=>match slot δ2 2 with
   | some (.tup rs)=>if fzs rs then some rs else none
   | _=>none
  | _=>none
 | _=>none
structure qI where
 take:Nat
 done:Nat
 rest:Nat
 state:Nat
 text:Nat
 items:Nat
 good:Nat
 frm:Nat
 goOn:Nat
 chg:Nat
 ld:Nat
abbrev DkR:=Option ((Bool × Str) × List D)
def kL:List D→Option (List D)
 | [.mob cn ls]=>if cn="Loader" then some ls else none
 | _=>none
def x7 (C:Ctx) (ix:qI) (r:D):Option Str:=match C.call ix.items [r] with
 | some (.str z,_)=>some z
 | _=>none
abbrev EM:List Str:=["NoBatch","BadText","Unlike","NoState","Uneven"]
def CS:Option (D × List D)→DkR
 | some (.exc cn _ _,outs)=>if EM.contains cn then (kL outs).map fun ls'=>((false,cn),ls') else none
 | _=>none
def xC (C:Ctx) (ix:qI) (f:Nat) (ls:List D):DkR:=match C.call f [.mob "Loader" ls] with
 | some (r,outs)=>match kL outs,x7 C ix r with
  | some ls',some z=>some ((true,z),ls')
  | _,_=>none
 | none=>CS (C.call (1000+f) [.mob "Loader" ls])
def EB:List D→List D→Option (List D)
 | [b,l,d,_,_,_,_,w],[_,_,_,e,i,r,y,_]=>some [b,l,d,e,i,r,y,w]
 | _,_=>none
def Ai (C:Ctx) (ix:qI) (fails:Bool) (ls:List D):DkR:=if ls.length=8 then match C.call ix.take [.mob "Loader" ls] with
  | some (r,outs)=>match kL outs,x7 C ix r with
   | some ls',some z=>if fails then (EB ls ls').map fun q=>((true,z),q) else some ((true,z),ls')
   | _,_=>none
  | none=>CS (C.call (1000+ix.take) [.mob "Loader" ls])
 else none
def xg (C:Ctx) (ix:qI) (ls:List D):DkR:=match C.call ix.state [.mob "Loader" ls] with
 | some (.obj cn xs,outs)=>if cn="State" then match kL outs,C.call ix.text [.obj cn xs] with
   | some ls',some (.str z,_)=>some ((true,z),ls')
   | _,_=>none
  else none
 | _=>none
def El (ls:List D):DkR:=match (ls[1]?:Option D) with
 | some (.int i)=>if aX i then some ((true,toString i),ls) else none
 | _=>none
def zR (C:Ctx) (ix:qI) (word:Str) (ls:List D):DkR :=
 if word="take" then xC C ix ix.take ls else if word="done" then xC C ix ix.done ls else if word="rest" then xC C ix ix.rest ls
 else if word="state" then xg C ix ls else if word="lap" then El ls else Ai C ix (decide (word="fail")) ls
def AK (C:Ctx) (ix:qI) (n:Int) (way ends:Str) (k:Int) (ls:List D):DkR:=match (ls[0]?:Option D),(ls[7]?:Option D) with
 | some (.int b),some (.int w)=>match C.call ix.good [.tup [.str way,.int w,.int b,.str ends],.tup [.str way,.int k,.int b,.str ends],.int n] with
  | some (r,_)=>(x7 C ix r).map fun z=>((true,z),ls)
  | none=>none
 | _,_=>none
def DI (C:Ctx) (f:Nat) (ls:List D) (ds:List D):DkR:=match C.call f (.mob "Loader" ls::ds) with
 | some (_,outs)=>(kL outs).map fun ls'=>((true,"done"),ls')
 | none=>CS (C.call (1000+f) (.mob "Loader" ls::ds))
def Gf (C:Ctx) (ix:qI) (z:Str) (ls:List D):DkR:=match C.call ix.frm [.cls "State",.str z] with
 | some (.obj cn xs,_)=>if fzs xs then DI C ix.goOn ls [.obj cn xs] else none
 | some _=>none
 | none=>match C.call (1000+ix.frm) [.cls "State",.str z] with
  | some (.exc cn _ _,_)=>if EM.contains cn then some ((false,cn),ls) else none
  | _=>none
def uj (C:Ctx) (ix:qI) (n:Int) (way ends:Str) (word:Str) (m:D) (ls:List D):DkR :=
 if word="good" then match m with
  | .int k=>AK C ix n way ends k ls
  | _=>none
 else if word="go" then match m with
  | .str z=>Gf C ix z ls
  | _=>none
 else match m with
  | .int k=>if word="workers" then DI C ix.chg ls [.int k,.non] else DI C ix.chg ls [.non,.int k]
  | _=>none
def uV (C:Ctx) (ix:qI) (n:Int) (way ends:Str):D→List D→Option (Str × List D)
 | .tup (.str word::rest),ls=>match (match rest with
   | []=>zR C ix word ls
   | [m]=>uj C ix n way ends word m ls
   | _=>none) with
  | some ((true,z),ls')=>some (z,ls')
  | some ((false,cn),ls')=>some ("refused " ++ cn,ls')
  | none=>none
 | _,_=>none
def AR (C:Ctx) (ix:qI) (n:Int) (way ends:Str):List D→List D→Option (List D)
 | [],_=>some []
 | q::qs,ls=>match uV C ix n way ends q ls with
  | some (z,ls')=>(AR C ix n way ends qs ls').map (.str z::·)
  | none=>none
def qA:List (Str × Nat)→Option qI
 | [(_,a),(_,b),(_,c),(_,d),(_,e),(_,f),(_,g),(_,h),(_,i),(_,j),(_,k)]=>some ⟨a,b,c,d,e,f,g,h,i,j,k⟩
 | _=>none
def dkF (C:Ctx) (ways:List (Str × Nat)):List D→Option (List D)
 | [.int n,rule,.tup [.str way,.int w,.int b,.str ends],.lst _ qs]=>match qA ways with
  | some ix=>if rule.fz&&fzs qs&&decide (0≤n)&&decide (n≤1000)&&decide (qs.length≤cap) then match C.call ix.ld [.tup (az 0 1 n.toNat),rule,.str way,.int w,.int b,.str ends] with
    | some (.lst _ (r::rs),_)=>AR C ix n way ends qs (r::rs)
    | _=>none
   else none
  | none=>none
 | _=>none
def u9 (C:Ctx) (it:Nat) (ways:List (Str × Nat)):List D→Option (List D)
 | [rule,items,lap]=>match evS C 99 (.asg (.nm 4) (.call it [.var 1])) [none,some rule,some items,some lap,none,none] with
  | some (.nx δ1)=>match evE C 97 (.sub (.var 4) (.int 0)) δ1 with
   | some (.tmp (.str w),δ2)=>match ways.lookup w with
    | some f=>match δ2[5]? with
     | some none=>match evE C 96 (.call f [(.bi .tuple1 [.var 2]),.var 3,.var 4]) δ2 with
      | some (.tmp d,_)=>u5 d
      | _=>none
     | _=>none
    | none=>none
   | _=>none
  | _=>none
 | [a,b,c,d]=>dkF C ways [a,b,c,d]
 | _=>none
abbrev stN:Nat:=7777
def stF:List D→Option (List D)
 | [.int a,.int b,.int u]=>some (if u<a then [.int b,.tup [.int a,.int b,.int u],.int a,.int u] else [])
 | _=>none
def ldF (C:Ctx) (it:Nat):List D→Option (List D)
 | [items,rule,.str way,.int wk,.int bt,.str en]=>match aL C 99 [(.bi .tuple1 [.var 1]),(.call it [.var 2])] [none,some items,some rule,some (.str way),some (.int wk),some (.int bt),some (.str en)] with
  | some (as,δ1)=>match bC δ1 as with
   | some ([a,b],_)=>if a.fz&&b.fz then some [.int bt,.int 0,.tup [],.str en,a,b,.str way,.int wk] else none
   | _=>none
  | none=>none
 | _=>none
def qB (C:Ctx) (it:Nat) (ways:List (Str × Nat)) (ds:List D):Option (List D):=match ways with
 | []=>if it=stN then stF ds else if 8000≤it then ldF C (it-8000) ds else match ds with
  | [d]=>u5 d
  | _=>none
 | w::ws=>u9 C it (w::ws) ds
def aF (δ:Dl) (io:List Nat):Nat→Nat→Option (List D)
 | _,0=>some []
 | j,m+1=>if io.contains j then match slot δ j,aF δ io (j+1) m with
   | some d,some ds=>if bh d||deep io then some (d::ds) else none
   | _,_=>none
  else aF δ io (j+1) m
def br (f:Fn) (ds:List D):Dl:=ds.map some++List.replicate (f.n-ds.length) none
def Au (C:Ctx) (t:Tr) (vars:List Nat) (δ:Dl):Option Fl:=match aT ⟨C.call,C.io,((List.range δ.length).filter fun i=>!vars.contains i)++C.lock⟩ 100 t.body (δ.map (Option.map D.frz)) with
 | some (.nx δ2)=>if δ2.length=δ.length then some (.nx (bu δ vars)) else none
 | _=>none
def vz (C:Ctx) (f:Fn) (δ:Dl):Option Fl:=match f.tr with
 | none=>aT C 100 f.body δ
 | some t=>match t.sco with
  | some vars=>rX C t.post (match aT C 100 f.body δ with
   | some (.nx δ1)=>Au C t vars δ1
   | _=>none)
  | none=>rX C t.post (match aT C 100 f.body δ with
   | some (.nx δ1)=>FZ C t δ1
   | _=>none)
def E4 (t:Tr):Bool:=t.rz.isNone&&t.sco.isNone&&t.su.isNone&&!t.nm
def DH (C:Ctx) (f:Fn) (δ:Dl):Option (D × Dl):=match f.tr with
 | none=>rSs C 100 f.body δ
 | some t=>match t.rz with
  | none=>if E4 t then rSs C 100 f.body δ else none
  | some (cC,cB)=>match rSs C 100 f.body δ with
   | some r=>some r
   | none=>match aT C 100 f.body δ with
    | some (.nx δ1)=>match rSs C 100 t.body δ1 with
     | some (.exc cn (_::_) _,δ2)=>if cn==cC&&!C.lock.contains t.ei then some (.exc cB [] [],δ2.set t.ei none) else none
     | _=>none
    | _=>none
def evF (T:List Fn):Nat→Nat→List D→Option (D × List D)
 | 0,_,_=>none
 | k+1,g,ds=>match T[g]? with
  | none=>match T[g-1000]? with
   | some f=>if decide (1000≤g)&&f.vt.isNone&&decide (ds.length=f.ps) then match DH ⟨evF T k,fun h=>((T[h]?).map (·.io)).getD [],f.io⟩ f (br f ds) with
     | some (x,δ)=>(aF δ f.io 0 f.ps).map fun o=>(x,o)
     | none=>none
    else none
   | none=>none
  | some f=>match f.vt with
   | some (it,ways)=>match k with
    | k'+8=>(qB ⟨evF T k',fun h=>((T[h]?).map (·.io)).getD [],[0]⟩ it ways ds).map fun rs=>(.lst true rs,[])
    | _=>none
   | none=>if ds.length=f.ps then match vz ⟨evF T k,fun h=>((T[h]?).map (·.io)).getD [],f.io⟩ f (br f ds) with
    | some (.rt d δ)=>(aF δ f.io 0 f.ps).map fun o=>(d,o)
    | some (.nx δ)=>(aF δ f.io 0 f.ps).map fun o=>(.non,o)
    | _=>none
   else none
end Ev
namespace Ev
open PySem PySem.Spec PyProof.Rows L2 PySem.W
theorem jq:∀ ns ms:List Int,PyProof.Rows.lexLt itemOrd (keyToksAll (ns.map PyData.int)) (keyToksAll (ms.map PyData.int))=ltI ns ms
 | [],[]=>by rfl
 | [],y::ys=>by rfl
 | x::xs,[]=>by rfl
 | x::xs,y::ys=>by
  rw [List.map_cons,List.map_cons]
  have a:alike (.int x) (.int y)=true:=by simp [alike]
  by_cases h:x=y
  ·rw [dataLt_all_yes a (by simp [PyData.eqv,h]),jq xs ys]
   simp [ltI,h]
  ·rw [dataLt_all_no a (by simp [PyData.eqv,h]),dataLt_int]
   simp [ltI,h]
theorem eR:∀ ns ms:List Int,alike (.tuple (ns.map PyData.int)) (.tuple (ms.map PyData.int))=true:=by
 intro ns ms
 simp only [alike]
 induction ns generalizing ms with
 | nil=>cases ms<;>simp [alikeAll]
 | cons n ns ih =>
  cases ms with
  | nil=>simp [alikeAll]
  | cons m ms =>
   simp only [List.map_cons,alikeAll,Bool.and_eq_true]
   exact ⟨by simp [alike],ih ms⟩
theorem gG:∀ ns:List Int,(PyData.tuple (ns.map PyData.int)).depth≤2:=by
 intro ns
 induction ns with
 | nil=>decide
 | cons n ns ih=>simp_all [PyData.depth,PyData.depthAll]
section
variable {X:Cx}
def Fx (K:Frag):R2:=fun x y H Q=>∃ ns ms:List Int,Dp K H x (.tuple (ns.map PyData.int))∧Dp K H y (.tuple (ms.map PyData.int))∧Q (.bl (ltI ms ns)) H
theorem BD (d:X.A.units+4<cLine):OpR X (compareOp .Gt) (Fx X.K):=by
 intro pins s σ H x y v u Q I a b h
 obtain ⟨ns,ms,hd,he,q⟩:=h
 obtain ⟨as,r1⟩:=Dp.reads I _ x v hd a
 obtain ⟨bs,c⟩:=Dp.reads I _ y u he b
 refine gt_data r1 c (eR ns ms) (fun z=>nomatch z) (by have:=gG ns;omega) ⟨.bl _,H,I,rfl,?_⟩
 rw [dataLt_tuple,jq]
 exact q
def Ek (K:Frag):R2:=fun x y H Q=>∃ ns ms:List Int,Dp K H x (.tuple (ns.map PyData.int))∧Dp K H y (.tuple (ms.map PyData.int))∧Q (.bl (!ltI ms ns)) H
theorem xJ (d:X.A.units+4<cLine):OpR X (compareOp .LtE) (Ek X.K):=by
 intro pins s σ H x y v u Q I a b h
 obtain ⟨ns,ms,hd,he,q⟩:=h
 obtain ⟨as,r1⟩:=Dp.reads I _ x v hd a
 obtain ⟨bs,c⟩:=Dp.reads I _ y u he b
 refine le_data r1 c (eR ns ms) (fun z=>nomatch z) (by have:=gG ns;omega) ⟨.bl _,H,I,rfl,?_⟩
 rw [dataLt_tuple,jq]
 exact q
def Ez (K:Frag):R2:=fun x y H Q=>∃ ns ms:List Int,Dp K H x (.tuple (ns.map PyData.int))∧Dp K H y (.tuple (ms.map PyData.int))∧Q (.bl (!ltI ns ms)) H
theorem yI (d:X.A.units+4<cLine):OpR X (compareOp .GtE) (Ez X.K):=by
 intro pins s σ H x y v u Q I a b h
 obtain ⟨ns,ms,hd,he,q⟩:=h
 obtain ⟨as,r1⟩:=Dp.reads I _ x v hd a
 obtain ⟨bs,c⟩:=Dp.reads I _ y u he b
 refine ge_data r1 c (eR ns ms) (fun z=>nomatch z) (by have:=gG ns;omega) ⟨.bl _,H,I,rfl,?_⟩
 rw [dataLt_tuple,jq]
 exact q
end
end Ev
namespace Xc
open PySem PySem.Spec PySem.W PySem.Calls PyProof.Rows
section
variable {prog:Program} {w:World} {M:Model} {A:Around} {E:Value→Shared→Prop} {h:Heap} {g:Array GenState} {d:Drawn} {t:Nat} {os:OsState}
variable {nm q:Str} {C N:Addr} {bs bm bmB:List Value} {hdct:Bool} {sn:List Str} {sub:List Value} {ab:Bool} {col:Option Bool} {dd:Option Addr} {k0 k1 k2 k3 k5:Option Value} {B newId i:String}
structure Bas where
 nm:String
 newId:String
 initId:String
 mro:List Value
section
open Builtin Builtin.ObjectAttr
variable {R:Result→Shared→Prop} {K:Frag}
end
section
variable {bb:Bas} {K:Frag} {mg:Str→Option Value} {base:Heap} {C fI cc e t0 L:Addr} {qual:Str} {params:Arguments} {body rest:List Stmt} {scope:Scope} {fd:FuncData} {m:Str→Option Value} {es:List Expr} {us:List Value} {p0 p1 p2 p3 p4:Pos} {cda:Addr}
end
end
end Xc
namespace Xn
open PySem PySem.Spec PyProof.Rows L2
def Zd (cls:Value) (d:Option Addr):Obj→Prop:=fun o=>o.cls=cls∧o.dict=d∧(d≠none→PXN.CtxN o)
end Xn
namespace Xc
open PySem PySem.Spec PySem.W PySem.Calls PyProof.Rows L2
end Xc
namespace Xc
open PySem PySem.Spec PySem.W PySem.Calls PyProof.Rows L2
section
variable {M:Model} {K:Frag} {A:Around} {E:Value→Shared→Prop} {s:Shared}
end
section
variable {X:Cx} {pins:List (Addr × Obj)} {σ:L2.St} {H:Hp} {s:Shared}
def ET (a:Addr) (cls:Value) (d:Option Addr):HO:=.ext fun h=>∃ oe vs,h.get? a=some oe∧Xn.Zd cls d oe∧oe.data=.fields vs
end
end Xc
namespace Xc
open PySem PySem.Spec PySem.W PySem.Calls PyProof.Rows L2
section
variable {prog:Program} {w:World} {A:Around} {E:Value→Shared→Prop} {s:Shared} {K:Frag} {x D:Addr} {ox:Obj} {od:Option Obj}
end
def rIsK (K:Frag):List V→Hp→VK→Prop:=fun xs H Q=>∃ (a C:Addr) (d:Option Addr) (c:V) (cv:Value) (b:Bool),xs=[.ref a,c]∧H a=some (ET a (.ref C) d)∧(∀ dd,d=some dd→∃ fs,H dd=some (.xd fs))∧ExcC K C∧(∀ u,RelV c u→u=cv)∧kitOne K (.ref C) cv=some b∧Q (.bl b) H
end Xc
namespace Ev
open PySem PySem.Spec PyProof.Rows L2
mutual
theorem wx:∀ d:D,d.fz=true→d.frz=d
 | .non,_=>rfl
 | .bl _,_=>rfl
 | .int _,_=>rfl
 | .str _,_=>rfl
 | .scr _,_=>rfl
 | .tup xs,h=>by simp only [D.fz] at h;simp only [D.frz,cX xs h]
 | .obj cn xs,h=>by simp only [D.fz] at h;simp only [D.frz,cX xs h]
 | .exc cn nms xs,h=>by simp only [D.fz] at h;simp only [D.frz,cX xs h]
 | .mob _ _,h=>by simp [D.fz] at h
 | .cls _,_=>rfl
 | .tpn xs,h=>by simp only [D.fz] at h;simp only [D.frz,cX xs h]
 | .dct o ks xs,h=>by
  simp only [D.fz,Bool.and_eq_true,Bool.not_eq_true'] at h
  obtain ⟨a,b⟩:=h
  subst a
  simp only [D.frz,cX xs b]
 | .lst o xs,h=>by
  simp only [D.fz,Bool.and_eq_true,Bool.not_eq_true'] at h
  obtain ⟨a,b⟩:=h
  subst a
  simp only [D.frz,cX xs b]
theorem cX:∀ ds:List D,fzs ds=true→frzs ds=ds
 | [],_=>rfl
 | d::ds,h=>by
  simp only [fzs,Bool.and_eq_true] at h
  simp only [frzs,wx d h.1,cX ds h.2]
end
mutual
theorem Aw:∀ d:D,d.frz.fz=true
 | .non=>rfl
 | .bl _=>rfl
 | .int _=>rfl
 | .str _=>rfl
 | .scr _=>rfl
 | .tup xs=>by simp only [D.frz,D.fz,bY xs]
 | .obj cn xs=>by simp only [D.frz,D.fz,bY xs]
 | .exc cn nms xs=>by simp only [D.frz,D.fz,bY xs]
 | .mob cn xs=>by simp only [D.frz,D.fz,bY xs]
 | .dct o ks xs=>by simp only [D.frz,D.fz,bY xs];rfl
 | .cls _=>rfl
 | .tpn xs=>by simp only [D.frz,D.fz,bY xs]
 | .lst o xs=>by simp only [D.frz,D.fz,bY xs];rfl
theorem bY:∀ ds:List D,fzs (frzs ds)=true
 | []=>rfl
 | d::ds=>by simp only [frzs,fzs,Aw d,bY ds];rfl
end
theorem cY:∀ ds:List D,(frzs ds).length=ds.length
 | []=>rfl
 | d::ds=>by simp only [frzs,List.length_cons,cY ds]
def C4 (F:Hp):Option Addr→List (Str × V)→Prop
 | none,fs=>fs=[]
 | some dd,fs=>F dd=some (.xd fs)
def eM (ks:List Str) (vs:List V):List (Key × V):=(ks.map Sum.inr).zip vs
def BJ (F:Hp) (a:Addr) (vs:List V):Prop:=∃ o:Obj,F a=some (.frz o (.tup vs))∧o.cls=.type "tuple" ∧ o.dict=none
mutual
inductive Rp (K:Frag) (F:Hp):V→D→Prop
 | non:Rp K F .non .non
 | bl (b:Bool):Rp K F (.bl b) (.bl b)
 | int (i:Int):Rp K F (.int i) (.int i)
 | str (s:Str):Rp K F (.str s) (.str s)
 | tup {a:Addr} {vs:List V} {ds:List D}:SqT K F a vs→RpL K F vs ds→Rp K F (.ref a) (.tup ds)
 | lst {a:Addr} {vs:List V} {ds:List D}:F a=some (.lst vs)→RpL K F vs ds→Rp K F (.ref a) (.lst false ds)
 | scr {a:Addr} {ns:List Int}:SqL K F a (ns.map V.int)→Rp K F (.ref a) (.scr ns)
 | obj {a C dx:Addr} {cn:Str} {vs:List V} {ds:List D}:nsIn K mainGlobals cn=some (some (.ref C))→SlX.Slt F a C dx (vs.map some)→vs≠[]→RpL K F vs ds→Rp K F (.ref a) (.obj cn ds)
 | exc {a C:Addr} {d:Option Addr} {cn:Str} {fs:List (Str × V)} {vs:List V} {nms:List Str} {ds:List D}:nsIn K mainGlobals cn=some (some (.ref C))→F a=some (Xc.ET a (.ref C) d)→C4 F d fs→fs.map (·.1)=nms→fs.map (·.2)=vs→RpL K F vs ds→Rp K F (.ref a) (.exc cn nms ds)
 | dct {a:Addr} {ks:List Str} {vs:List V} {ds:List D}:F a=some (.dK (eM ks vs))→ks.length=vs.length→ks.Nodup→RpL K F vs ds→Rp K F (.ref a) (.dct false ks ds)
 | cls {C:Addr} {cn:Str}:nsIn K mainGlobals cn=some (some (.ref C))→Rp K F (.ref C) (.cls cn)
 | tpn {a:Addr} {vs:List V} {ds:List D}:BJ F a vs→RpL K F vs ds→Rp K F (.ref a) (.tpn ds)
inductive RpL (K:Frag) (F:Hp):List V→List D→Prop
 | nil:RpL K F [] []
 | cons {v:V} {vs:List V} {d:D} {ds:List D}:Rp K F v d→RpL K F vs ds→RpL K F (v::vs) (d::ds)
end
theorem aa {K:Frag} {F F':Hp} (s:Same F F') {a:Addr} {xs:List V} (h:SqT K F a xs):SqT K F' a xs:=by
 rcases h with (h | ⟨o,h⟩) | h
 ·exact .inl (.inl (s _ _ h))
 ·exact .inl (.inr ⟨o,s _ _ h⟩)
 ·exact .inr h
theorem pY {F F':Hp} (s:Same F F') {a:Addr} {xs:List V} (h:BJ F a xs):BJ F' a xs:=by
 obtain ⟨o,b,c,d⟩:=h
 exact ⟨o,s _ _ b,c,d⟩
theorem xy {F F':Hp} (s:Same F F') {d:Option Addr} {fs:List (Str × V)} (h:C4 F d fs):C4 F' d fs:=by
 cases d with
 | none=>exact h
 | some dd=>exact s _ _ h
theorem bW {F F':Hp} (s:Same F F') {a C dx:Addr} {vs:List (Option V)} (h:SlX.Slt F a C dx vs):SlX.Slt F' a C dx vs:=by
 rcases h with ⟨b,c⟩ | ⟨b,c⟩
 ·exact .inl ⟨s _ _ b,c⟩
 ·exact .inr ⟨s _ _ b,s _ _ c⟩
section
variable {K:Frag} {F F' H H':Hp}
mutual
theorem Rp.mono (s:Same F F'):∀ {v:V} {d:D},Rp K F v d→Rp K F' v d
 | _,_,.non=>.non
 | _,_,.bl b=>.bl b
 | _,_,.int i=>.int i
 | _,_,.str x=>.str x
 | _,_,.tup h l=>.tup (aa s h) (RpL.mono s l)
 | _,_,.lst h l=>.lst (s _ _ h) (RpL.mono s l)
 | _,_,.scr h=>.scr (s.seq h)
 | _,_,.obj n h e l=>.obj n (bW s h) e (RpL.mono s l)
 | _,_,.exc n h x a c l=>.exc n (s _ _ h) (xy s x) a c (RpL.mono s l)
 | _,_,.dct h e n l=>.dct (s _ _ h) e n (RpL.mono s l)
 | _,_,.cls n=>.cls n
 | _,_,.tpn h l=>.tpn (pY s h) (RpL.mono s l)
theorem RpL.mono (s:Same F F'):∀ {vs:List V} {ds:List D},RpL K F vs ds→RpL K F' vs ds
 | _,_,.nil=>.nil
 | _,_,.cons h t=>.cons (Rp.mono s h) (RpL.mono s t)
end
mutual
theorem Rp.fz:∀ {v:V} {d:D},Rp K F v d→d.fz=true
 | _,_,.non=>rfl
 | _,_,.bl b=>rfl
 | _,_,.int i=>rfl
 | _,_,.str x=>rfl
 | _,_,.tup h l=>by simp only [D.fz];exact RpL.fz l
 | _,_,.lst h l=>by simp only [D.fz,Bool.not_false,Bool.true_and];exact RpL.fz l
 | _,_,.scr h=>rfl
 | _,_,.obj n h e l=>by simp only [D.fz];exact RpL.fz l
 | _,_,.exc n h x a c l=>by simp only [D.fz];exact RpL.fz l
 | _,_,.dct h e n l=>by simp only [D.fz,Bool.not_false,Bool.true_and];exact RpL.fz l
 | _,_,.cls _=>rfl
 | _,_,.tpn h l=>by simp only [D.fz];exact RpL.fz l
theorem RpL.fz:∀ {vs:List V} {ds:List D},RpL K F vs ds→fzs ds=true
 | _,_,.nil=>rfl
 | _,_,.cons h t=>by simp only [fzs,Rp.fz h,RpL.fz t];rfl
end
theorem RpL.length:∀ {vs:List V} {ds:List D},RpL K F vs ds→vs.length=ds.length
 | _,_,.nil=>rfl
 | _,_,.cons _ t=>by simp only [List.length_cons,RpL.length t]
theorem RpL.get:∀ {vs:List V} {ds:List D} {i:Nat} {d:D},RpL K F vs ds→ds[i]?=some d→∃ v,vs[i]?=some v∧Rp K F v d
 | _,_,i,d,.nil,e=>by simp at e
 | _,_,0,d,.cons h t,e=>by simp at e;subst e;exact ⟨_,rfl,h⟩
 | _,_,i+1,d,.cons h t,e=>by
  obtain ⟨v,a,b⟩:=RpL.get (i:=i) (d:=d) t (by simpa using e)
  exact ⟨v,by simpa using a,b⟩
theorem RpL.append:∀ {vs ws:List V} {ds es:List D},RpL K F vs ds→RpL K F ws es→RpL K F (vs++ws) (ds++es)
 | _,_,_,_,.nil,q=>q
 | _,_,_,_,.cons h t,q=>.cons h (RpL.append t q)
theorem RpL.take:∀ {vs:List V} {ds:List D} (n:Nat),RpL K F vs ds→RpL K F (vs.take n) (ds.take n)
 | _,_,0,_=>.nil
 | _,_,_+1,.nil=>.nil
 | _,_,n+1,.cons h t=>.cons h (RpL.take n t)
theorem RpL.drop:∀ {vs:List V} {ds:List D} (n:Nat),RpL K F vs ds→RpL K F (vs.drop n) (ds.drop n)
 | _,_,0,r=>r
 | _,_,_+1,.nil=>.nil
 | _,_,n+1,.cons h t=>RpL.drop n t
abbrev Fp:=Addr→Prop
def Dj (W U:Fp):Prop:=∀ b,W b→¬ U b
def Un2 (W U:Fp):Fp:=fun b=>W b∨U b
def No:Fp:=fun _=>False
mutual
inductive Ow (K:Frag) (F H:Hp):V→D→Fp→Prop
 | frz {v:V} {d:D} {W:Fp}:Rp K F v d→Ow K F H v d W
 | own {a:Addr} {vs:List V} {ds:List D} {W U:Fp}:H a=some (.lst vs)→F a=none→W a→OwL K F H vs ds U→¬ U a→(∀ b,U b→W b)→Ow K F H (.ref a) (.lst true ds) W
 | mob {a C dx:Addr} {cn:Str} {vs:List V} {ds:List D} {W:Fp}:nsIn K mainGlobals cn=some (some (.ref C))→H a=some (SlX.SlO a C dx (vs.map some))→H dx=some (.xd [])→dx≠a→vs≠[]→F a=none→F dx=none→W a→W dx→RpL K F vs ds→Ow K F H (.ref a) (.mob cn ds) W
 | dct {a:Addr} {ks:List Str} {vs:List V} {ds:List D} {W:Fp}:H a=some (.dK (eM ks vs))→ks.length=vs.length→ks.Nodup→F a=none→W a→RpL K F vs ds→Ow K F H (.ref a) (.dct true ks ds) W
inductive OwL (K:Frag) (F H:Hp):List V→List D→Fp→Prop
 | nil {W:Fp}:OwL K F H [] [] W
 | cons {v:V} {vs:List V} {d:D} {ds:List D} {W W1 W2:Fp}:Ow K F H v d W1→OwL K F H vs ds W2→Dj W1 W2→(∀ b,W1 b→W b)→(∀ b,W2 b→W b)→OwL K F H (v::vs) (d::ds) W
end
theorem Ow.weak {v:V} {d:D} {W W':Fp} (h:Ow K F H v d W) (s:∀ b,W b→W' b):Ow K F H v d W':=by
 cases h with
 | frz r=>exact .frz r
 | own a c g i j k=>exact .own a c (s _ g) i j fun b q=>s b (k b q)
 | mob n h hd ne e f1 f2 m o l=>exact .mob n h hd ne e f1 f2 (s _ m) (s _ o) l
 | dct h e n f w l=>exact .dct h e n f (s _ w) l
theorem OwL.weak {vs:List V} {ds:List D} {W W':Fp} (h:OwL K F H vs ds W) (s:∀ b,W b→W' b):OwL K F H vs ds W':=by
 cases h with
 | nil=>exact .nil
 | cons a c d e f=>exact .cons a c d (fun b q=>s b (e b q)) fun b q=>s b (f b q)
mutual
theorem Ow.keep (s:Same F F'):∀ {v:V} {d:D} {W:Fp},Ow K F H v d W→(∀ b,W b→∀ o,H b=some o→F b=none→H' b=some o∧F' b=none)→Ow K F' H' v d W
 | _,_,_,.frz r,_=>.frz (r.mono s)
 | _,_,_,.own i j a p t m,k=>.own (k _ a _ i j).1 (k _ a _ i j).2 a (OwL.keep s p fun b q=>k b (m b q)) t m
 | _,_,_,.mob n h hd ne e f1 f2 c g l,k=>.mob n (k _ c _ h f1).1 (k _ g _ hd f2).1 ne e (k _ c _ h f1).2 (k _ g _ hd f2).2 c g (l.mono s)
 | _,_,_,.dct h e n f w l,k=>.dct (k _ w _ h f).1 e n (k _ w _ h f).2 w (l.mono s)
theorem OwL.keep (s:Same F F'):∀ {vs:List V} {ds:List D} {W:Fp},OwL K F H vs ds W→(∀ b,W b→∀ o,H b=some o→F b=none→H' b=some o∧F' b=none)→OwL K F' H' vs ds W
 | _,_,_,.nil,_=>.nil
 | _,_,_,.cons d e f a c,k=>.cons (Ow.keep s d fun b q=>k b (a b q)) (OwL.keep s e fun b q=>k b (c b q)) f a c
end
theorem Ow.fz {v:V} {d:D} {W:Fp} (h:Ow K F H v d W) (e:d.fz=true):Rp K F v d:=by
 cases h with
 | frz r=>exact r
 | own _ _ _ _ _ _=>simp [D.fz] at e
 | mob _ _ _ _ _ _ _ _ _ _=>simp [D.fz] at e
 | dct _ _ _ _ _ _=>simp [D.fz] at e
theorem OwL.fz:∀ {vs:List V} {ds:List D} {W:Fp},OwL K F H vs ds W→fzs ds=true→RpL K F vs ds
 | _,_,_,.nil,_=>.nil
 | _,_,_,.cons a b _ _ _,e=>by
  simp only [fzs,Bool.and_eq_true] at e
  exact .cons (a.fz e.1) (OwL.fz b e.2)
theorem OwL.length:∀ {vs:List V} {ds:List D} {W:Fp},OwL K F H vs ds W→vs.length=ds.length
 | _,_,_,.nil=>rfl
 | _,_,_,.cons _ a _ _ _=>by simp only [List.length_cons,OwL.length a]
theorem OwL.of:∀ {vs:List V} {ds:List D} {W:Fp},RpL K F vs ds→OwL K F H vs ds W
 | _,_,_,.nil=>.nil
 | _,_,_,.cons h t=>.cons (W1:=No) (W2:=No) (.frz h) (OwL.of t) (fun _ q=>q.elim) (fun _ q=>q.elim) fun _ q=>q.elim
open Classical in
noncomputable def fzH (F H:Hp) (W:Fp):Hp:=fun b=>if W b then H b else F b
theorem cI {W:Fp} {b:Addr} (h:W b):fzH F H W b=H b:=by unfold fzH;rw [if_pos h]
theorem gK {W:Fp} {b:Addr} (h:¬ W b):fzH F H W b=F b:=by unfold fzH;rw [if_neg h]
theorem cg {W:Fp} (s:Same F H):Same F (fzH F H W):=fun b o e=>by
 by_cases h:W b
 ·rw [cI h];exact s _ _ e
 ·rw [gK h];exact e
theorem iI {W:Fp} (s:Same F H):Same (fzH F H W) H:=fun b o e=>by
 by_cases h:W b
 ·rw [cI h] at e;exact e
 ·rw [gK h] at e;exact s _ _ e
theorem gq {W:Fp} {b:Addr} {o:HO} (e:fzH F H W b=some o):F b=some o∨W b:=by
 by_cases h:W b
 ·exact .inr h
 ·rw [gK h] at e;exact .inl e
mutual
theorem Ow.share (s:Same F H) {U:Fp}:∀ {v:V} {d:D} {W:Fp},Ow K F H v d W→(∀ b,W b→U b)→Rp K (fzH F H U) v d.frz
 | _,d,_,.frz r,_=>by rw [wx d r.fz];exact r.mono (cg s)
 | _,_,_,.own a o c g p i,k=>by
  simp only [D.frz]
  exact .lst (by rw [cI (k _ c)];exact a) (OwL.share s g fun b q=>k b (i b q))
 | _,_,_,.mob n h hd ne e f1 f2 j m l,k=>by
  simp only [D.frz]
  rw [cX _ l.fz]
  exact .obj n (.inr ⟨by rw [cI (k _ j)];exact h,by rw [cI (k _ m)];exact hd⟩) e (l.mono (cg s))
 | _,_,_,.dct h e n f w l,k=>by
  simp only [D.frz]
  rw [cX _ l.fz]
  exact .dct (by rw [cI (k _ w)];exact h) e n (l.mono (cg s))
theorem OwL.share (s:Same F H) {U:Fp}:∀ {vs:List V} {ds:List D} {W:Fp},OwL K F H vs ds W→(∀ b,W b→U b)→RpL K (fzH F H U) vs (frzs ds)
 | _,_,_,.nil,_=>.nil
 | _,_,_,.cons a c _ d e,k=>.cons (Ow.share s a fun b q=>k b (d b q)) (OwL.share s c fun b q=>k b (e b q))
end
def bq (H:Hp):V→List Nat→V→Prop
 | v0,[],v=>v0=v
 | v0,k::p,v=>∃ a vs v1,v0=.ref a∧H a=some (.lst vs)∧vs[k]?=some v1∧bq H v1 p v
theorem bq.uniq:∀ {p:List Nat} {v0 v v':V},bq H v0 p v→bq H v0 p v'→v=v'
 | [],_,_,_,a,b=>a.symm.trans b
 | k::p,_,_,_,⟨a,vs,v1,d,e,g1,f⟩,⟨j,vs',g,h,c,g2,i⟩=>by
  subst d
  cases h
  rw [e] at c
  cases c
  rw [g1] at g2
  cases g2
  exact bq.uniq f i
theorem OwL.get:∀ {vs:List V} {ds:List D} {W:Fp} {i:Nat} {d:D},OwL K F H vs ds W→ds[i]?=some d→∃ v U,vs[i]?=some v∧Ow K F H v d U∧∀ b,U b→W b
 | _,_,_,i,d,.nil,e=>by simp at e
 | _,_,_,0,d,.cons a _ _ c _,e=>by simp at e;subst e;exact ⟨_,_,rfl,a,c⟩
 | _,_,_,i+1,d,.cons _ f _ _ j,e=>by
  obtain ⟨v,U,g,h,s⟩:=OwL.get (i:=i) (d:=d) f (by simpa using e)
  exact ⟨v,U,by simpa using g,h,fun b q=>j b (s b q)⟩
theorem Ow.at:∀ {p:List Nat} {v0:V} {d0 d:D} {W:Fp},Ow K F H v0 d0 W→d0.at p=some d→∃ v U,bq H v0 p v∧Ow K F H v d U∧∀ b,U b→W b
 | [],v0,d0,d,W,h,e=>by
  simp only [D.at,Option.some.injEq] at e
  subst e
  exact ⟨v0,W,rfl,h,fun _ q=>q⟩
 | k::p,v0,d0,d,W,h,e=>by
  cases d0 with
  | lst o ds =>
   cases o with
   | true =>
    cases h with
    | frz r=>cases r
    | own a g i c j f =>
     simp only [D.at] at e
     split at e
     ·rename_i x ex
      obtain ⟨v1,l,g1,o1,s1⟩:=c.get ex
      obtain ⟨v,U,q,o2,s2⟩:=Ow.at o1 e
      exact ⟨v,U,⟨_,_,v1,rfl,a,g1,q⟩,o2,fun b z=>f b (s1 b (s2 b z))⟩
     ·cases e
   | false=>simp [D.at] at e
  | _=>simp [D.at] at e
end
end Ev
namespace Ev
open PySem PySem.Spec PyProof.Rows L2
theorem fO {α:Type}:∀ {l:List α} {k:Nat} {x:α},l[k]?=some x→l.set k x=l
 | [],k,x,e=>by simp at e
 | y::l,0,x,e=>by simp at e;simp [e]
 | y::l,k+1,x,e=>by simp only [List.set_cons_succ];rw [fO (by simpa using e)]
section
variable {K:Frag} {F H:Hp}
def Kept (F H F' H':Hp) (W U:Fp):Prop:=∀ b,W b→¬ U b→∀ o,H b=some o→F b=none→H' b=some o∧F' b=none
theorem OwL.zip:∀ {vs:List V} {ds:List D} {W:Fp} {k:Nat} {d:D},OwL K F H vs ds W→ds[k]?=some d→∃ v U,vs[k]?=some v∧Ow K F H v d U∧(∀ b,U b→W b) ∧
  ∀ {F' H':Hp} {v':V} {d':D} {U' W':Fp},Same F F'→Ow K F' H' v' d' U'→Kept F H F' H' W U→(∀ b,U' b→U b∨¬ W b)→(∀ b,W b→W' b)→(∀ b,U' b→W' b)→OwL K F' H' (vs.set k v') (ds.set k d') W'
 | _,_,_,k,d,.nil,e=>by simp at e
 | _,_,_,0,d,.cons (v:=v) (W1:=W1) (W2:=W2) i j c f a,e=>by
  simp at e
  subst e
  refine ⟨v,W1,rfl,i,f,fun {F' H' v' d' U' W'} s o kp un h l=>?_⟩
  simp only [List.set_cons_zero]
  refine .cons o (j.keep s fun b q=>kp b (a b q) fun z=>c b z q) (fun b q z=>?_) l fun b q=>h b (a b q)
  rcases un b q with r | r
  ·exact c b r z
  ·exact r (a b z)
 | _,_,_,k+1,d,.cons (v:=v0) (W1:=W1) (W2:=W2) i j c f a,e=>by
  obtain ⟨v,U,g,o,s1,z⟩:=OwL.zip (k:=k) j (by simpa using e)
  refine ⟨v,U,by simpa using g,o,fun b q=>a b (s1 b q),fun {F' H' v' d' U' W'} s o' kp un h l=>?_⟩
  simp only [List.set_cons_succ]
  refine .cons (W1:=W1) (W2:=Un2 W2 U') (i.keep s fun b q=>kp b (f b q) fun r=>c b q (s1 b r)) (z s o' (fun b q=>kp b (a b q)) (fun b q=>(un b q).imp id fun r t=>r (a b t)) (fun b q=>.inl q) fun b q=>.inr q) (fun b q r=>?_) (fun b q=>h b (f b q)) fun b q=>?_
  ·rcases r with r | r
   ·exact c b q r
   ·rcases un b r with t | t
    ·exact c b q (s1 b t)
    ·exact t (f b q)
  ·rcases q with q | q
   ·exact h b (a b q)
   ·exact l b q
theorem Ow.zip:∀ {p:List Nat} {v0:V} {d0 d:D} {W:Fp},Ow K F H v0 d0 W→d0.at p=some d→∃ v U,bq H v0 p v∧Ow K F H v d U∧(∀ b,U b→W b) ∧
  ∀ {F' H':Hp} {d' c:D} {U' W':Fp} {f:D→Option D},Same F F'→Ow K F' H' v d' U'→Kept F H F' H' W U→(∀ b,U' b→U b∨¬ W b)→(∀ b,W b→W' b)→(∀ b,U' b→W' b) →
   f d=some d'→d0.lu p f=some c→Ow K F' H' v0 c W'
 | [],v0,d0,d,W,h,e=>by
  simp only [D.at,Option.some.injEq] at e
  subst e
  refine ⟨v0,W,rfl,h,fun _ q=>q,fun {F' H' d' c U' W' f} s o kp un j m hf g=>?_⟩
  simp only [D.lu] at g
  rw [hf] at g
  cases g
  exact o.weak m
 | k::p,v0,d0,d,W,h,e=>by
  cases d0 with
  | lst o ds =>
   cases o with
   | true =>
    cases h with
    | frz r=>cases r
    | @own a vs _ _ W0 w G u I B i =>
     simp only [D.at] at e
     split at e
     ·rename_i x ex
      obtain ⟨v1,C,g1,o1,s1,z1⟩:=I.zip ex
      obtain ⟨v,U,q,o2,s2,z2⟩:=Ow.zip o1 e
      refine ⟨v,U,⟨_,_,v1,rfl,w,g1,q⟩,o2,fun b z=>i b (s1 b (s2 b z)),fun {F' H' d' c U' W' f} s o kp un j m hf g=>?_⟩
      simp only [D.lu,ex] at g
      split at g
      ·rename_i y J
       cases g
       have na:¬ U a:=fun z=>B (s1 a (s2 a z))
       obtain ⟨ha,L⟩:=kp a u na _ w G
       have M:Ow K F' H' v1 y (Un2 C U'):=z2 s o (fun b q=>kp b (i b (s1 b q))) (fun b q=>(un b q).imp id fun r t=>r (i b (s1 b t))) (fun b q=>.inl q) (fun b q=>.inr q) hf J
       have l:=z1 (F':=F') (H':=H') (v':=v1) (d':=y) (U':=Un2 C U') (W':=Un2 W0 U') s M (fun b q n=>kp b (i b q) fun z=>n (s2 b z)) (fun b q=>?_) (fun b q=>.inl q) fun b q=>q.imp (s1 b) id
       ·rw [fO g1] at l
        refine .own ha L (j a u) l (fun z=>?_) fun b z=>?_
        ·rcases z with z | z
         ·exact B z
         ·rcases un a z with t | t
          ·exact na t
          ·exact t u
        ·rcases z with z | z
         ·exact j b (i b z)
         ·exact m b z
       ·rcases q with q | q
        ·exact .inl q
        ·rcases un b q with t | t
         ·exact .inl (s2 b t)
         ·exact .inr fun z=>t (i b z)
      ·cases g
     ·cases e
   | false=>simp [D.at] at e
  | _=>simp [D.at] at e
theorem Ow.rD (s:Same F H) {p:List Nat} {v0:V} {d0 d a:D} {W:Fp} (h:Ow K F H v0 d0 W) (e:d0.at p=some d) (u:d0.lu p (fun x=>some x.frz)=some a) :
  ∃ F' v,bq H v0 p v∧Same F F'∧Same F' H∧(∀ b o,F' b=some o→F b=some o∨W b)∧Rp K F' v d.frz∧Ow K F' H v0 a W:=by
 obtain ⟨v,U,q,o,s1,z⟩:=h.zip e
 have r:=o.share s (U:=U) fun _ z=>z
 exact ⟨fzH F H U,v,q,cg s,iI s,fun b o z=>(gq z).imp id (s1 b),r,z (U':=No) (cg s) (.frz r) (fun b _ n o e f=>⟨e,by rw [gK n];exact f⟩) (fun _ q=>q.elim) (fun _ q=>q) (fun _ q=>q.elim) rfl u⟩
end
section
variable {K:Frag} {F F' H H':Hp}
inductive StL (K:Frag) (F H:Hp):L2.St→Dl→Fp→Prop
 | nil {W:Fp}:StL K F H [] [] W
 | gap {x:Option V} {σ:L2.St} {δ:Dl} {W:Fp}:StL K F H σ δ W→StL K F H (x::σ) (none::δ) W
 | one {v:V} {d:D} {σ:L2.St} {δ:Dl} {W W1 W2:Fp}:Ow K F H v d W1→StL K F H σ δ W2→Dj W1 W2→(∀ b,W1 b→W b)→(∀ b,W2 b→W b)→StL K F H (some v::σ) (some d::δ) W
structure SOk (K:Frag) (F H:Hp) (σ:L2.St) (δ:Dl) (W:Fp):Prop where
 sub:Same F H
 st:StL K F H σ δ W
 lv:∀ b,W b→H b≠none
theorem StL.weak:∀ {σ:L2.St} {δ:Dl} {W W':Fp},StL K F H σ δ W→(∀ b,W b→W' b)→StL K F H σ δ W'
 | _,_,_,_,.nil,_=>.nil
 | _,_,_,_,.gap h,s=>.gap (StL.weak h s)
 | _,_,_,_,.one a c d e f,s=>.one a c d (fun b q=>s b (e b q)) fun b q=>s b (f b q)
theorem StL.keep (s:Same F F'):∀ {σ:L2.St} {δ:Dl} {W:Fp},StL K F H σ δ W→(∀ b,W b→∀ o,H b=some o→F b=none→H' b=some o∧F' b=none)→StL K F' H' σ δ W
 | _,_,_,.nil,_=>.nil
 | _,_,_,.gap h,k=>.gap (StL.keep s h k)
 | _,_,_,.one d e f a c,k=>.one (d.keep s fun b q=>k b (a b q)) (StL.keep s e fun b q=>k b (c b q)) f a c
theorem StL.length:∀ {σ:L2.St} {δ:Dl} {W:Fp},StL K F H σ δ W→σ.length=δ.length
 | _,_,_,.nil=>rfl
 | _,_,_,.gap h=>by simp only [List.length_cons,StL.length h]
 | _,_,_,.one _ h _ _ _=>by simp only [List.length_cons,StL.length h]
theorem StL.zip:∀ {σ:L2.St} {δ:Dl} {W:Fp} {i:Nat} {d:D},StL K F H σ δ W→δ[i]?=some (some d)→∃ v U R,σ[i]?=some (some v)∧Ow K F H v d U∧(∀ b,U b→W b)∧(∀ b,R b→W b)∧Dj U R∧StL K F H σ (δ.set i none) R ∧
  ∀ {F' H':Hp} {d':D} {U' W':Fp},Same F F'→Ow K F' H' v d' U'→Kept F H F' H' W U→(∀ b,U' b→U b∨¬ W b)→(∀ b,W b→W' b)→(∀ b,U' b→W' b)→StL K F' H' σ (δ.set i (some d')) W'
 | _,_,_,i,d,.nil,e=>by simp at e
 | _,_,_,0,d,.gap h,e=>by simp at e
 | _,_,_,i+1,d,.gap h,e=>by
  obtain ⟨v,U,R,g,o,s1,s2,dj,t,z⟩:=StL.zip (i:=i) h (by simpa using e)
  exact ⟨v,U,R,by simpa using g,o,s1,s2,dj,by simpa using StL.gap t,fun {F' H' d' U' W'} s o' kp un f k=>by simpa using StL.gap (z s o' kp un f k)⟩
 | _,_,_,0,d,.one (v:=v) (W1:=W1) (W2:=W2) l m c j a,e=>by
  simp at e
  subst e
  refine ⟨v,W1,W2,rfl,l,j,a,c,by simpa using StL.gap m,fun {F' H' d' U' W'} s o' kp un f k=>?_⟩
  simp only [List.set_cons_zero]
  refine .one o' (m.keep s fun b q=>kp b (a b q) fun z=>c b z q) (fun b q z=>?_) k fun b q=>f b (a b q)
  rcases un b q with r | r
  ·exact c b r z
  ·exact r (a b z)
 | _,_,_,i+1,d,.one (v:=v0) (d:=d0) (W1:=W1) (W2:=W2) l m c j a,e=>by
  obtain ⟨v,U,R,g,o,s1,s2,dj,t,z⟩:=StL.zip (i:=i) m (by simpa using e)
  refine ⟨v,U,Un2 W1 R,by simpa using g,o,fun b q=>a b (s1 b q),fun b q=>q.elim (j b) fun q=>a b (s2 b q),fun b q r=>?_,?_,fun {F' H' d' U' W'} s o' kp un f k=>?_⟩
  ·rcases r with r | r
   ·exact c b r (s1 b q)
   ·exact dj b q r
  ·simp only [List.set_cons_succ]
   exact .one l t (fun b q r=>c b q (s2 b r)) (fun b q=>.inl q) fun b q=>.inr q
  ·simp only [List.set_cons_succ]
   refine .one (W1:=W1) (W2:=Un2 W2 U') (l.keep s fun b q=>kp b (j b q) fun r=>c b q (s1 b r)) (z s o' (fun b q=>kp b (a b q)) (fun b q=>(un b q).imp id fun r t=>r (a b t)) (fun b q=>.inl q) fun b q=>.inr q) (fun b q r=>?_) (fun b q=>f b (j b q)) fun b q=>?_
   ·rcases r with r | r
    ·exact c b q r
    ·rcases un b r with t | t
     ·exact c b q (s1 b t)
     ·exact t (j b q)
   ·rcases q with q | q
    ·exact f b (a b q)
    ·exact k b q
theorem StL.drop:∀ {σ:L2.St} {δ:Dl} {W:Fp} (i:Nat),StL K F H σ δ W→StL K F H σ (δ.set i none) W
 | _,_,_,_,.nil=>.nil
 | _,_,_,0,.gap h=>.gap h
 | _,_,_,i+1,.gap h=>.gap (StL.drop i h)
 | _,_,_,0,.one _ a _ _ b=>.gap (a.weak b)
 | _,_,_,i+1,.one c a d e b=>.one c (StL.drop i a) d e b
theorem StL.put:∀ {σ:L2.St} {δ:Dl} {W U W':Fp} {i:Nat} {v:V} {d:D},StL K F H σ δ W→i<δ.length→Ow K F H v d U→Dj U W→(∀ b,W b→W' b)→(∀ b,U b→W' b)→StL K F H (σ.set i (some v)) (δ.set i (some d)) W'
 | _,_,_,_,_,i,_,_,.nil,hi,_,_,_,_=>by simp at hi
 | _,_,_,_,_,0,_,_,.gap h,_,o,dj,a,c=>by
  simp only [List.set_cons_zero]
  exact .one o h dj c a
 | _,_,_,_,_,i+1,_,_,.gap h,hi,o,dj,a,c=>by
  simp only [List.set_cons_succ]
  exact .gap (StL.put h (by simpa using hi) o dj a c)
 | _,_,_,_,_,0,_,_,.one j f k g e,_,o,dj,a,c=>by
  simp only [List.set_cons_zero]
  exact .one o f (fun b q r=>dj b q (e b r)) c fun b q=>a b (e b q)
 | _,_,W,U,W',i+1,_,_,.one (W1:=W1) (W2:=W2) j f k g e,hi,o,dj,a,c=>by
  simp only [List.set_cons_succ]
  refine .one (W1:=W1) (W2:=Un2 W2 U) j (StL.put f (by simpa using hi) o (fun b q r=>dj b q (e b r)) (fun b q=>.inl q) fun b q=>.inr q) (fun b q r=>?_) (fun b q=>a b (g b q)) fun b q=>?_
  ·rcases r with r | r
   ·exact k b q r
   ·exact dj b r (g b q)
  ·rcases q with q | q
   ·exact a b (e b q)
   ·exact c b q
theorem StL.back:∀ {σ:L2.St} {δ:Dl} {W U W':Fp} {i:Nat} {v:V} {d:D},StL K F H σ δ W→σ[i]?=some (some v)→Ow K F H v d U→Dj U W→(∀ b,W b→W' b)→(∀ b,U b→W' b)→StL K F H σ (δ.set i (some d)) W':=by
 intro σ δ W U W' i v d h g o dj a c
 have hi:i<δ.length:=by rw [← h.length];exact (List.getElem?_eq_some_iff.mp g).1
 have q:=h.put hi o dj a c
 rwa [fO g] at q
def nS (o:HO):Prop:=(∃ vs,o=.tup vs)∨∃ x vs,o=.frz x (.tup vs)
theorem gn {vs:List V}:¬ nS (.lst vs):=by rintro (⟨_,h⟩ | ⟨_,_,h⟩)<;>cases h
theorem i9 {a:List (Key × V)}:¬ nS (.dK a):=by rintro (⟨_,h⟩ | ⟨_,_,h⟩)<;>cases h
theorem jf {fs:List (Str × V)}:¬ nS (.xd fs):=by rintro (⟨_,h⟩ | ⟨_,_,h⟩)<;>cases h
theorem gm {a C dx:Addr} {vs:List (Option V)}:¬ nS (SlX.SlO a C dx vs):=by
 unfold SlX.SlO
 rintro (⟨_,h⟩ | ⟨_,_,h⟩)<;>cases h
def xA (F H F' H':Hp) (W:Fp):Prop:=∀ b,W b→∀ o,H b=some o→¬ nS o→F b=none→H' b=some o∧F' b=none
mutual
theorem Ow.dJ (s:Same F F'):∀ {v:V} {d:D} {W:Fp},Ow K F H v d W→xA F H F' H' W→Ow K F' H' v d W
 | _,_,_,.frz r,_=>.frz (r.mono s)
 | _,_,_,.own i j a o p m,k=>.own (k _ a _ i gn j).1 (k _ a _ i gn j).2 a (OwL.dJ s o fun b q=>k b (m b q)) p m
 | _,_,_,.mob n h hd ne e f1 f2 c g l,k=>.mob n (k _ c _ h gm f1).1 (k _ g _ hd jf f2).1 ne e (k _ c _ h gm f1).2 (k _ g _ hd jf f2).2 c g (l.mono s)
 | _,_,_,.dct h e n f w l,k=>.dct (k _ w _ h i9 f).1 e n (k _ w _ h i9 f).2 w (l.mono s)
theorem OwL.dJ (s:Same F F'):∀ {vs:List V} {ds:List D} {W:Fp},OwL K F H vs ds W→xA F H F' H' W→OwL K F' H' vs ds W
 | _,_,_,.nil,_=>.nil
 | _,_,_,.cons d e f a c,k=>.cons (Ow.dJ s d fun b q=>k b (a b q)) (OwL.dJ s e fun b q=>k b (c b q)) f a c
end
theorem StL.dJ (s:Same F F'):∀ {σ:L2.St} {δ:Dl} {W:Fp},StL K F H σ δ W→xA F H F' H' W→StL K F' H' σ δ W
 | _,_,_,.nil,_=>.nil
 | _,_,_,.gap h,k=>.gap (StL.dJ s h k)
 | _,_,_,.one d e f a c,k=>.one (d.dJ s fun b q=>k b (a b q)) (StL.dJ s e fun b q=>k b (c b q)) f a c
open Classical in
noncomputable def qc (F F':Hp):Hp:=fun b=>if ∃ o,F' b=some o∧nS o then F' b else F b
theorem yJ {b:Addr} {o:HO} (h:F' b=some o) (t:nS o):qc F F' b=some o:=by
 unfold qc
 rw [if_pos ⟨o,h,t⟩,h]
theorem qh {b:Addr} {o:HO} (h:qc F F' b=some o):F b=some o∨(F' b=some o∧nS o):=by
 unfold qc at h
 split at h
 ·rename_i c
  obtain ⟨o',a,d⟩:=c
  rw [a] at h
  cases h
  exact .inr ⟨a,d⟩
 ·exact .inl h
theorem vS (s:Same F F'):Same F (qc F F'):=fun b o e=>by
 unfold qc
 split
 ·exact s b o e
 ·exact e
theorem xR (s:Same F F'):Same (qc F F') F':=fun b o e=>(qh e).elim (s b o) (·.1)
theorem sQ {b:Addr} (h:F b=none) (n:∀ o,F' b=some o→¬ nS o):qc F F' b=none:=by
 unfold qc
 rw [if_neg fun ⟨o,a,c⟩=>n o a c]
 exact h
structure Ext (F H:Hp) (W:Fp) (F' H':Hp) (W':Fp):Prop where
 fsub:Same F F'
 fnew:∀ b o,F' b=some o→F b=some o∨W b∨H b=none
 keep:∀ b o,H b=some o→¬ W b→H' b=some o
 live:∀ b,H' b=none→H b=none
 wnew:∀ b,W' b→W b∨H b=none
theorem Ext.refl {W:Fp}:Ext F H W F H W:=⟨fun _ _ h=>h,fun _ _ h=>.inl h,fun _ _ h _=>h,fun _ h=>h,fun _ h=>.inl h⟩
theorem Ext.trans {F1 H1 d e:Hp} {W W1 W2:Fp} (a:Ext F H W F1 H1 W1) (b:Ext F1 H1 W1 d e W2):Ext F H W d e W2 where
 fsub:=a.fsub.trans b.fsub
 fnew:=fun c o h=>by
  rcases b.fnew c o h with q | q | q
  ·exact a.fnew c o q
  ·exact .inr (a.wnew c q)
  ·exact .inr (.inr (a.live c q))
 keep:=fun c o h n=>by
  refine b.keep c o (a.keep c o h n) fun q=>?_
  rcases a.wnew c q with r | r
  ·exact n r
  ·rw [h] at r;cases r
 live:=fun c h=>a.live c (b.live c h)
 wnew:=fun c h=>by
  rcases b.wnew c h with q | q
  ·exact a.wnew c q
  ·exact .inr (a.live c q)
theorem Ext.mono {W W' U U':Fp} (a:Ext F H W F' H' W') (s:∀ b,W b→U b) (t:∀ b,U' b→W' b∨U b):Ext F H U F' H' U' :=
 ⟨a.fsub,fun b o h=>(a.fnew b o h).imp id (Or.imp (s b) id),fun b o h n=>a.keep b o h fun q=>n (s b q),a.live,fun b h=>(t b h).elim (fun q=>(a.wnew b q).imp (s b) id) .inl⟩
theorem Ext.apart {W W' U:Fp} (a:Ext F H W F' H' W') (d:Dj U W):∀ b,U b→∀ o,H b=some o→F b=none→H' b=some o∧F' b=none:=fun b q o h f=>by
 refine ⟨a.keep b o h (d b q),?_⟩
 cases e:F' b with
 | none=>rfl
 | some u =>
  rcases a.fnew b u e with r | r | r
  ·rw [f] at r;cases r
  ·exact absurd r (d b q)
  ·rw [h] at r;cases r
theorem Ow.ext {W W' U:Fp} {v:V} {d:D} (o:Ow K F H v d U) (a:Ext F H W F' H' W') (dj:Dj U W):Ow K F' H' v d U:=o.keep a.fsub (a.apart dj)
theorem Ext.dj {W W' U:Fp} (a:Ext F H W F' H' W') (d:Dj U W) (l:∀ b,U b→H b≠none):Dj U W':=fun b q r=>by
 rcases a.wnew b r with z | z
 ·exact d b q z
 ·exact l b q z
end
end Ev
namespace Ev
open PySem PySem.Spec PyProof.Rows L2
section
variable {K:Frag} {F F' H H':Hp}
structure aC (K:Frag) (F H:Hp) (W:Fp) (F' H':Hp) (σ:L2.St) (δ':Dl) (W' Wt:Fp):Prop where
 ok:SOk K F' H' σ δ' W'
 dj:Dj Wt W'
 lt:∀ b,Wt b→H' b≠none
 ext:Ext F H W F' H' (Un2 Wt W')
theorem aC.refl {σ:L2.St} {δ:Dl} {W:Fp} (h:SOk K F H σ δ W):aC K F H W F H σ δ W No :=
 ⟨h,fun _ q=>q.elim,fun _ q=>q.elim,Ext.refl.mono (fun _ q=>q) fun b q=>.inl (q.elim False.elim id)⟩
theorem aC.aD {F1 H1 d e:Hp} {σ1 f:L2.St} {δ1 δ2:Dl} {W W1 W2 h g:Fp} (a:aC K F H W F1 H1 σ1 δ1 W1 h) (b:aC K F1 H1 W1 d e f δ2 W2 g):aC K F H W d e f δ2 W2 g :=
 ⟨b.ok,b.dj,b.lt,a.ext.trans (b.ext.mono (fun c q=>.inr q) fun c q=>.inl q)⟩
theorem aC.dJ {F1 H1 g h:Hp} {σ1 i:L2.St} {δ1 δ2:Dl} {W W1 W2 e f:Fp} (a:aC K F H W F1 H1 σ1 δ1 W1 e) (b:aC K F1 H1 W1 g h i δ2 W2 f) :
  Dj e (Un2 f W2)∧aC K F H W g h i δ2 W2 (Un2 e f):=by
 have d:=b.ext.dj a.dj a.lt
 refine ⟨d,b.ok,fun c q r=>?_,fun c q=>?_,?_⟩
 ·rcases q with q | q
  ·exact d c q (.inr r)
  ·exact b.dj c q r
 ·rcases q with q | q
  ·intro z
   exact a.lt c q (b.ext.live c z)
  ·exact b.lt c q
 ·refine a.ext.trans (b.ext.mono (fun c q=>.inr q) fun c q=>?_)
  rcases q with (q | q) | q
  ·exact .inr (.inl q)
  ·exact .inl (.inl q)
  ·exact .inl (.inr q)
theorem aC.lY {σ:L2.St} {δ':Dl} {W W' Wt Wu:Fp} (a:aC K F H W F' H' σ δ' W' Wt) (s:∀ b,Wu b→Wt b):aC K F H W F' H' σ δ' W' Wu :=
 ⟨a.ok,fun b q=>a.dj b (s b q),fun b q=>a.lt b (s b q),a.ext.mono (fun _ q=>q) fun b q=>.inl (q.imp (s b) id)⟩
inductive AOk (K:Frag) (F H:Hp) (σ:L2.St):V→A→Fp→Prop
 | tmp {v:V} {d:D} {W:Fp}:Ow K F H v d W→AOk K F H σ v (.tmp d) W
 | bor {v0 v:V} {i:Nat} {p:List Nat} {W:Fp}:σ[i]?=some (some v0)→bq H v0 p v→AOk K F H σ v (.bor i p) W
def Vw (K:Frag) (F H:Hp) (v:V) (d:D):Prop:=∃ W,Ow K F H v d W
theorem aQ {δ:Dl} {i:Nat} {d:D} (e:slot δ i=some d):δ[i]?=some (some d):=by
 unfold slot at e
 split at e
 ·rename_i x h
  cases e
  exact h
 ·cases e
theorem slot_of {δ:Dl} {i:Nat} {d:D} (e:δ[i]?=some (some d)):slot δ i=some d:=by
 unfold slot
 rw [e]
theorem AOk.look {σ:L2.St} {δ:Dl} {W Wt:Fp} {v:V} {a:A} {d:D} (h:AOk K F H σ v a Wt) (s:SOk K F H σ δ W) (e:look δ a=some d):Vw K F H v d:=by
 cases h with
 | tmp o =>
  simp only [Ev.look,Option.some.injEq] at e
  subst e
  exact ⟨_,o⟩
 | @bor v0 _ i p _ g q =>
  simp only [Ev.look] at e
  split at e
  ·rename_i d0 e0
   obtain ⟨c,U,R,b,o,_⟩:=s.st.zip (aQ e0)
   rw [g] at b
   cases b
   obtain ⟨v',U',f,o',_⟩:=o.at e
   rw [q.uniq f]
   exact ⟨U',o'⟩
  ·cases e
theorem AOk.toV {σ:L2.St} {δ δ':Dl} {W Wt:Fp} {v:V} {a:A} {d:D} (h:AOk K F H σ v a Wt) (s:SOk K F H σ δ W) (dj:Dj Wt W) (lt:∀ b,Wt b→H b≠none) (e:toV δ a=some (d,δ')) :
  ∃ F',aC K F H (Un2 Wt W) F' H σ δ' W Wt∧Ow K F' H v d Wt:=by
 cases h with
 | tmp o =>
  simp only [Ev.toV,Option.some.injEq,Prod.mk.injEq] at e
  obtain ⟨rfl,rfl⟩:=e
  exact ⟨F,⟨s,dj,lt,Ext.refl⟩,o⟩
 | @bor v0 _ i p _ g q =>
  unfold Ev.toV at e
  simp only at e
  split at e
  ·rename_i d1 δ1 j c
   cases e
   unfold Ev.look at j
   simp only at j
   split at j
   ·rename_i d0 e0
    unfold bL at c
    rw [e0] at c
    simp only at c
    split at c
    ·rename_i m x
     cases c
     obtain ⟨y,U,R,k,o,s1,s2,C,G,z⟩:=s.st.zip (aQ e0)
     rw [g] at k
     cases k
     obtain ⟨F',v',B,f1,f2,l,r,o'⟩:=o.rD s.sub j x
     rw [q.uniq B]
     refine ⟨F',⟨⟨f2,?_,s.lv⟩,dj,lt,?_⟩,.frz r⟩
     ·refine z (U':=U) f1 o' (fun b w n o a f=>⟨a,?_⟩) (fun b q=>.inl q) (fun _ q=>q) s1
      cases e:F' b with
      | none=>rfl
      | some u =>
       rcases l b u e with t | t
       ·rw [f] at t;cases t
       ·exact absurd t n
     ·exact ⟨f1,fun b o e=>(l b o e).imp id fun t=>.inl (.inr (s1 b t)),fun b o a _=>a,fun b n=>n,fun b q=>.inl q⟩
    ·cases c
   ·cases j
  ·cases e
inductive eV (K:Frag) (F H:Hp) (σ:L2.St):List V→List A→Fp→Prop
 | nil {W:Fp}:eV K F H σ [] [] W
 | cons {v:V} {vs:List V} {a:A} {as:List A} {W W1 W2:Fp}:AOk K F H σ v a W1→eV K F H σ vs as W2→Dj W1 W2→(∀ b,W1 b→W b)→(∀ b,W2 b→W b)→eV K F H σ (v::vs) (a::as) W
inductive VwL (K:Frag) (F H:Hp):List V→List D→Prop
 | nil:VwL K F H [] []
 | cons {v:V} {vs:List V} {d:D} {ds:List D}:Vw K F H v d→VwL K F H vs ds→VwL K F H (v::vs) (d::ds)
theorem eV.looks {σ:L2.St} {δ:Dl} {W:Fp} (s:SOk K F H σ δ W):∀ {vs:List V} {as:List A} {Wt:Fp} {ds:List D},eV K F H σ vs as Wt→looks δ as=some ds→VwL K F H vs ds
 | _,_,_,ds,.nil,e=>by
  simp only [Ev.looks,Option.some.injEq] at e
  subst e
  exact .nil
 | _,_,_,ds,.cons a b _ _ _,e=>by
  unfold Ev.looks at e
  split at e
  ·rename_i d ds' c f
   cases e
   exact .cons (a.look s c) (eV.looks s b f)
  ·cases e
theorem AOk.ext {σ:L2.St} {δ':Dl} {W W' Wt Wu:Fp} {v:V} {a:A} (h:AOk K F H σ v a Wt) (x:Ext F H W F' H' W') (dj:Dj Wt W) (n:mX a=true):AOk K F' H' σ v a Wt:=by
 cases h with
 | tmp o=>exact .tmp (o.ext x dj)
 | @bor v0 _ i p _ g q =>
  cases p with
  | nil=>exact .bor g q
  | cons k p=>simp [mX] at n
theorem AOk.grow {σ:L2.St} {Wt:Fp} {v:V} {a:A} (h:AOk K F H σ v a Wt) (s:Same F F') (k:∀ b,Wt b→F b=none→F' b=none):AOk K F' H σ v a Wt:=by
 cases h with
 | tmp o=>exact .tmp (o.keep s fun b q o a f=>⟨a,k b q f⟩)
 | bor g q=>exact .bor g q
theorem eV.grow {σ:L2.St} (s:Same F F'):∀ {Wt:Fp} {vs:List V} {as:List A},eV K F H σ vs as Wt→(∀ b,Wt b→F b=none→F' b=none)→eV K F' H σ vs as Wt
 | _,_,_,.nil,_=>.nil
 | _,_,_,.cons d e f a c,k=>.cons (d.grow s fun b q=>k b (a b q)) (eV.grow s e fun b q=>k b (c b q)) f a c
theorem eV.bC {σ:L2.St}:∀ {vs:List V} {as:List A} {F:Hp} {δ δ':Dl} {W Wt:Fp} {ds:List D},eV K F H σ vs as Wt→SOk K F H σ δ W→Dj Wt W→(∀ b,Wt b→H b≠none)→bC δ as=some (ds,δ') →
  ∃ F',aC K F H (Un2 Wt W) F' H σ δ' W Wt∧OwL K F' H vs ds Wt
 | _,_,F,δ,δ',W,Wt,ds,.nil,s,dj,lt,e=>by
  simp only [Ev.bC,Option.some.injEq,Prod.mk.injEq] at e
  obtain ⟨rfl,rfl⟩:=e
  exact ⟨F,⟨s,dj,lt,Ext.refl⟩,.nil⟩
 | _,_,F,δ,δ',W,Wt,ds,.cons (W1:=W1) (W2:=W2) j k h c g,s,dj,lt,e=>by
  unfold Ev.bC at e
  split at e
  ·rename_i d δ1 l
   split at e
   ·rename_i ds' δ2 m
    cases e
    obtain ⟨F1,p1,o1⟩:=j.toV s (fun b q=>dj b (c b q)) (fun b q=>lt b (c b q)) l
    have k2:∀ b,W2 b→F b=none→F1 b=none:=fun b q f=>by
     cases e:F1 b with
     | none=>rfl
     | some u =>
      rcases p1.ext.fnew b u e with t | t | t
      ·rw [f] at t;cases t
      ·rcases t with t | t
       ·exact absurd q (h b t)
       ·exact absurd t (dj b (g b q))
      ·exact absurd t (lt b (g b q))
    obtain ⟨i,p2,o2⟩:=eV.bC (k.grow p1.ext.fsub k2) p1.ok (fun b q=>dj b (g b q)) (fun b q=>lt b (g b q)) m
    refine ⟨i,⟨p2.ok,dj,lt,?_⟩,.cons (o1.keep p2.ext.fsub fun b q o a f=>⟨a,?_⟩) o2 h c g⟩
    ·refine ⟨p1.ext.fsub.trans p2.ext.fsub,fun b o e=>?_,fun b o a _=>a,fun b n=>n,fun b q=>.inl q⟩
     rcases p2.ext.fnew b o e with t | t | t
     ·rcases p1.ext.fnew b o t with t | t | t
      ·exact .inl t
      ·exact .inr (.inl (t.imp (c b) id))
      ·exact .inr (.inr t)
     ·exact .inr (.inl (t.imp (g b) id))
     ·exact .inr (.inr t)
    ·cases e:i b with
     | none=>rfl
     | some u =>
      rcases p2.ext.fnew b u e with t | t | t
      ·rw [f] at t;cases t
      ·rcases t with t | t
       ·exact absurd t (h b q)
       ·exact absurd t (dj b (c b q))
      ·exact absurd t (lt b (c b q))
   ·cases e
  ·cases e
end
end Ev
namespace Ev
open PySem PySem.Spec PyProof.Rows L2
theorem aA:cap≤sizeLine:=by rw [sizeLine_eq];decide
mutual
theorem zL:∀ a b:D,(∀ ns,a≠.scr ns)→PyData.eqv a.py b.py=a.eq b
 | .non,b,_=>by cases b<;>simp [D.py,D.eq,PyData.eqv]
 | .obj _ _,b,_=>by cases b<;>simp [D.py,D.eq,PyData.eqv]
 | .exc _ _ _,b,_=>by cases b<;>simp [D.py,D.eq,PyData.eqv]
 | .mob _ _,b,_=>by cases b<;>simp [D.py,D.eq,PyData.eqv]
 | .dct _ _ _,b,_=>by cases b<;>simp [D.py,D.eq,PyData.eqv]
 | .cls _,b,_=>by cases b<;>simp [D.py,D.eq,PyData.eqv]
 | .tpn _,b,_=>by cases b<;>simp [D.py,D.eq,PyData.eqv]
 | .bl _,b,_=>by cases b<;>simp [D.py,D.eq,PyData.eqv]
 | .int _,b,_=>by cases b<;>simp [D.py,D.eq,PyData.eqv]
 | .str _,b,_=>by cases b<;>simp [D.py,D.eq,PyData.eqv]
 | .tup xs,b,_=>by
  cases b with
  | tup ys=>simp only [D.py,D.eq,PyData.eqv];exact rk xs ys
  | _=>simp [D.py,D.eq,PyData.eqv]
 | .lst o xs,b,_=>by
  cases b with
  | lst o' ys=>simp only [D.py,D.eq,PyData.eqv];exact rk xs ys
  | _=>simp [D.py,D.eq,PyData.eqv]
 | .scr ns,b,h=>absurd rfl (h ns)
theorem rk:∀ xs ys:List D,PyData.eqvAll (pys xs) (pys ys)=eqs xs ys
 | [],[]=>rfl
 | [],_::_=>rfl
 | _::_,[]=>rfl
 | x::xs,y::ys=>by
  simp only [pys,eqs,PyData.eqvAll,rk xs ys]
  cases x with
  | scr ns=>cases y<;>simp [D.py,D.eq,PyData.eqv]
  | _=>rw [zL _ y (by intro ns e;cases e)]
end
theorem r5 (a b:D):PyData.eqv a.py b.py=a.eq b:=by
 cases a with
 | scr ns=>cases b<;>simp [D.py,D.eq,PyData.eqv]
 | _=>exact zL _ b (by intro ns e;cases e)
mutual
theorem wC:∀ (d:D) (k:Nat),d.ok k=true→d.py.canLay0=true∧d.py.depth≤k
 | .non,_,_=>⟨by simp [D.py,PyData.canLay0],by simp [D.py,PyData.depth]⟩
 | .bl _,_,_=>⟨by simp [D.py,PyData.canLay0],by simp [D.py,PyData.depth]⟩
 | .int _,_,_=>⟨by simp [D.py,PyData.canLay0],by simp [D.py,PyData.depth]⟩
 | .str s,k,h=>⟨by simp only [D.py,PyData.canLay0];simpa [D.ok] using h,by simp [D.py,PyData.depth]⟩
 | .tup xs,0,h=>by simp [D.ok] at h
 | .tup xs,k+1,h=>by
  obtain ⟨a,b⟩:=lX xs k (by simpa [D.ok] using h)
  exact ⟨by simpa [D.py,PyData.canLay0] using a,by simp only [D.py,PyData.depth];omega⟩
 | .lst o xs,0,h=>by simp [D.ok] at h
 | .lst o xs,k+1,h=>by
  obtain ⟨a,b⟩:=lX xs k (by simpa [D.ok] using h)
  exact ⟨by simpa [D.py,PyData.canLay0] using a,by simp only [D.py,PyData.depth];omega⟩
 | .scr _,k,h=>by simp [D.ok] at h
 | .obj _ _,k,h=>by simp [D.ok] at h
 | .exc _ _ _,k,h=>by simp [D.ok] at h
 | .mob _ _,k,h=>by simp [D.ok] at h
 | .dct _ _ _,k,h=>by simp [D.ok] at h
 | .cls _,k,h=>by simp [D.ok] at h
 | .tpn _,k,h=>by simp [D.ok] at h
theorem lX:∀ (ds:List D) (k:Nat),oks k ds=true→PyData.canLayAll0 (pys ds)=true∧PyData.depthAll (pys ds)≤k
 | [],_,_=>⟨by simp [pys,PyData.canLayAll0],by simp [pys,PyData.depthAll]⟩
 | d::ds,k,h=>by
  simp only [oks,Bool.and_eq_true] at h
  obtain ⟨a1,a2⟩:=wC d k h.1
  obtain ⟨a,b⟩:=lX ds k h.2
  exact ⟨by simp [pys,PyData.canLayAll0,a1,a],by simp only [pys,PyData.depthAll];omega⟩
end
theorem bK {d:D} {k:Nat} (hk:k≤64) (h:d.ok k=true):SeqAt.shaped d.py=true:=by
 obtain ⟨a,b⟩:=wC d k h
 unfold SeqAt.shaped
 rw [a,decide_eq_true (show d.py.depth≤64 by omega)]
 rfl
section
variable {K:Frag} {F H:Hp}
mutual
theorem Rp.dp (s:Same F H):∀ {v:V} {d:D} {k:Nat},Rp K F v d→d.ok k=true→Dp K H v d.py
 | _,_,_,.non,_=>.non
 | _,_,_,.bl b,_=>.bl b
 | _,_,_,.int i,_=>.int i
 | _,_,_,.str x,_=>.str x
 | _,_,0,.tup h l,e=>by simp [D.ok] at e
 | _,_,k+1,.tup h l,e=>by
  simp only [D.py]
  exact .tup (aa s h) (RpL.dp s l (by simpa [D.ok] using e))
 | _,_,0,.lst h l,e=>by simp [D.ok] at e
 | _,_,k+1,.lst h l,e=>by
  simp only [D.py]
  exact .lst (SqL.of (s _ _ h)) (RpL.dp s l (by simpa [D.ok] using e))
 | _,_,k,.scr h,e=>by simp [D.ok] at e
 | _,_,k,.obj _ _ _ _,e=>by simp [D.ok] at e
 | _,_,k,.exc _ _ _ _ _ _,e=>by simp [D.ok] at e
 | _,_,k,.dct _ _ _ _,e=>by simp [D.ok] at e
 | _,_,k,.cls _,e=>by simp [D.ok] at e
 | _,_,k,.tpn _ _,e=>by simp [D.ok] at e
theorem RpL.dp (s:Same F H):∀ {vs:List V} {ds:List D} {k:Nat},RpL K F vs ds→oks k ds=true→DpAll K H vs (pys ds)
 | _,_,_,.nil,_=>.nil
 | _,_,_,.cons h t,e=>by
  simp only [oks,Bool.and_eq_true] at e
  exact .cons (Rp.dp s h e.1) (RpL.dp s t e.2)
end
mutual
theorem Ow.dp (s:Same F H):∀ {v:V} {d:D} {W:Fp} {k:Nat},Ow K F H v d W→d.ok k=true→Dp K H v d.py
 | _,_,_,_,.frz r,e=>r.dp s e
 | _,_,_,0,.own a c f b g h,e=>by simp [D.ok] at e
 | _,_,_,k+1,.own a c f b g h,e=>by
  simp only [D.py]
  exact .lst (SqL.of a) (OwL.dp s b (by simpa [D.ok] using e))
theorem OwL.dp (s:Same F H):∀ {vs:List V} {ds:List D} {W:Fp} {k:Nat},OwL K F H vs ds W→oks k ds=true→DpAll K H vs (pys ds)
 | _,_,_,_,.nil,_=>.nil
 | _,_,_,_,.cons a b _ _ _,e=>by
  simp only [oks,Bool.and_eq_true] at e
  exact .cons (Ow.dp s a e.1) (OwL.dp s b e.2)
end
theorem Vw.int {x:V} {i:Int} (h:Vw K F H x (.int i)):x=.int i:=by
 obtain ⟨W,h⟩:=h
 cases h with
 | frz r=>cases r;rfl
theorem Vw.bl {x:V} {i:Bool} (h:Vw K F H x (.bl i)):x=.bl i:=by
 obtain ⟨W,h⟩:=h
 cases h with
 | frz r=>cases r;rfl
theorem Vw.str {x:V} {i:Str} (h:Vw K F H x (.str i)):x=.str i:=by
 obtain ⟨W,h⟩:=h
 cases h with
 | frz r=>cases r;rfl
theorem Vw.non {x:V} (h:Vw K F H x .non):x=.non:=by
 obtain ⟨W,h⟩:=h
 cases h with
 | frz r=>cases r;rfl
theorem Vw.tup {x:V} {ds:List D} (h:Vw K F H x (.tup ds)):∃ a vs,x=.ref a∧SqT K F a vs∧RpL K F vs ds:=by
 obtain ⟨W,h⟩:=h
 cases h with
 | frz r =>
  cases r with
  | tup h l=>exact ⟨_,_,rfl,h,l⟩
theorem Vw.lst {x:V} {o:Bool} {ds:List D} (s:Same F H) (h:Vw K F H x (.lst o ds)):∃ a vs,x=.ref a∧H a=some (.lst vs)∧vs.length=ds.length∧(fzs ds=true→RpL K F vs ds):=by
 obtain ⟨W,h⟩:=h
 cases h with
 | frz r =>
  cases r with
  | lst h l=>exact ⟨_,_,rfl,s _ _ h,l.length,fun _=>l⟩
 | own c d f b g i=>exact ⟨_,_,rfl,c,b.length,fun e=>b.fz e⟩
theorem Vw.scr {x:V} {ns:List Int} (h:Vw K F H x (.scr ns)):∃ a,x=.ref a∧SqL K F a (ns.map V.int):=by
 obtain ⟨W,h⟩:=h
 cases h with
 | frz r =>
  cases r with
  | scr h=>exact ⟨_,rfl,h⟩
theorem Vw.mob {x:V} {cn:Str} {ds:List D} (h:Vw K F H x (.mob cn ds)):∃ a C dx vs,x=.ref a∧nsIn K mainGlobals cn=some (some (.ref C))∧SlX.Slt H a C dx (vs.map some)∧vs≠[]∧RpL K F vs ds:=by
 obtain ⟨W,h⟩:=h
 cases h with
 | frz r=>cases r
 | mob n h hd ne e f1 f2 b c l=>exact ⟨_,_,_,_,rfl,n,.inr ⟨h,hd⟩,e,l⟩
theorem Vw.dct {x:V} {o:Bool} {ks:List Str} {ds:List D} (s:Same F H) (h:Vw K F H x (.dct o ks ds)):∃ a vs,x=.ref a∧H a=some (.dK (eM ks vs))∧ks.length=vs.length∧ks.Nodup∧RpL K F vs ds:=by
 obtain ⟨W,h⟩:=h
 cases h with
 | frz r =>
  cases r with
  | dct h e n l=>exact ⟨_,_,rfl,s _ _ h,e,n,l⟩
 | dct h e n f w l=>exact ⟨_,_,rfl,h,e,n,l⟩
theorem Vw.obj {x:V} {cn:Str} {ds:List D} (h:Vw K F H x (.obj cn ds)):∃ a C dx vs,x=.ref a∧nsIn K mainGlobals cn=some (some (.ref C))∧SlX.Slt F a C dx (vs.map some)∧vs≠[]∧RpL K F vs ds:=by
 obtain ⟨W,h⟩:=h
 cases h with
 | frz r =>
  cases r with
  | obj b c d e=>exact ⟨_,_,_,_,rfl,b,c,d,e⟩
theorem Vw.dp {x:V} {d:D} {k:Nat} (s:Same F H) (h:Vw K F H x d) (e:d.ok k=true):Dp K H x d.py:=by
 obtain ⟨W,h⟩:=h
 exact h.dp s e
theorem RpL.ints:∀ {vs:List V} {ds:List D} {ns:List Int},RpL K F vs ds→intsOf ds=some ns→vs=ns.map V.int∧ds=ns.map D.int
 | _,_,ns,.nil,e=>by
  simp only [intsOf,Option.some.injEq] at e
  subst e
  exact ⟨rfl,rfl⟩
 | _,_,ns,.cons (d:=d) h t,e=>by
  cases d with
  | int i =>
   simp only [intsOf,Option.map_eq_some_iff] at e
   obtain ⟨ms,a,b⟩:=e
   subst b
   obtain ⟨c,f⟩:=RpL.ints t a
   cases h
   subst c f
   exact ⟨rfl,rfl⟩
  | _=>simp [intsOf] at e
theorem RpL.bools:∀ {vs:List V} {ds:List D} {ns:List Bool},RpL K F vs ds→boolsOf ds=some ns→vs=ns.map V.bl∧ds=ns.map D.bl
 | _,_,ns,.nil,e=>by
  simp only [boolsOf,Option.some.injEq] at e
  subst e
  exact ⟨rfl,rfl⟩
 | _,_,ns,.cons (d:=d) h t,e=>by
  cases d with
  | bl i =>
   simp only [boolsOf,Option.map_eq_some_iff] at e
   obtain ⟨ms,a,b⟩:=e
   subst b
   obtain ⟨c,f⟩:=RpL.bools t a
   cases h
   subst c f
   exact ⟨rfl,rfl⟩
  | _=>simp [boolsOf] at e
theorem dz:∀ ns:List Int,RpL K F (ns.map V.int) (ns.map D.int)
 | []=>.nil
 | n::ns=>.cons (.int n) (dz ns)
theorem cR:∀ {ds:List D} {ns:List Int},intsOf ds=some ns→fzs ds=true
 | [],_,_=>rfl
 | d::ds,ns,e=>by
  cases d with
  | int i =>
   simp only [intsOf,Option.map_eq_some_iff] at e
   obtain ⟨ms,a,_⟩:=e
   simp only [fzs,D.fz,cR a]
   rfl
  | _=>simp [intsOf] at e
theorem fu:∀ {ds:List D} {ns:List Bool},boolsOf ds=some ns→fzs ds=true
 | [],_,_=>rfl
 | d::ds,ns,e=>by
  cases d with
  | bl i =>
   simp only [boolsOf,Option.map_eq_some_iff] at e
   obtain ⟨ms,a,_⟩:=e
   simp only [fzs,D.fz,fu a]
   rfl
  | _=>simp [boolsOf] at e
structure New (F H F' H':Hp) (Wt:Fp):Prop where
 sub:Same F' H'
 lt:∀ b,Wt b→H' b≠none
 ext:Ext F H No F' H' Wt
theorem New.refl (s:Same F H):New F H F H No:=⟨s,fun _ q=>q.elim,Ext.refl⟩
theorem aC.new {σ:L2.St} {δ:Dl} {W Wt:Fp} {F' H':Hp} (s:SOk K F H σ δ W) (n:New F H F' H' Wt):aC K F H W F' H' σ δ W Wt where
 ok:=⟨n.sub,s.st.keep n.ext.fsub (n.ext.apart fun _ _ q=>q),fun b q z=>s.lv b q (n.ext.live b z)⟩
 dj:=fun b q r=>by
  rcases n.ext.wnew b q with t | t
  ·exact t
  ·exact s.lv b r t
 lt:=n.lt
 ext:=n.ext.mono (fun _ q=>q.elim) fun b q=>q.imp id id
def At (p:Addr):Fp:=fun b=>b=p
theorem New.list {p:Addr} {vs:List V} (s:Same F H) (h:H p=none):New F H F (upd H p (.lst vs)) (At p) where
 sub:=fun b o e=>by
  have q:=s b o e
  rw [upd_ne (ne_of_none q h)]
  exact q
 lt:=fun b e=>by rw [e,upd_same];simp
 ext:=⟨fun _ _ e=>e,fun _ _ e=>.inl e,fun b o e _=>by rw [upd_ne (ne_of_none e h)];exact e,fun b e=>by
  by_cases a:b=p
  ·rw [a];exact h
  ·rw [upd_ne a] at e;exact e,fun b e=>.inr (by rw [e];exact h)⟩
theorem New.tuple {p:Addr} {vs:List V} (s:Same F H) (h:H p=none):New F H (upd F p (.tup vs)) (upd H p (.tup vs)) No where
 sub:=fun b o e=>by
  by_cases a:b=p
  ·subst a;rw [upd_same] at e ⊢;exact e
  ·rw [upd_ne a] at e ⊢;exact s b o e
 lt:=fun _ q=>q.elim
 ext:=⟨fun b o e=>by
   rw [upd_ne (ne_of_none (s _ _ e) h)]
   exact e,fun b o e=>by
   by_cases a:b=p
   ·exact .inr (.inr (by rw [a];exact h))
   ·rw [upd_ne a] at e;exact .inl e,fun b o e _=>by rw [upd_ne (ne_of_none e h)];exact e,fun b e=>by
   by_cases a:b=p
   ·rw [a];exact h
   ·rw [upd_ne a] at e;exact e,fun b e=>e.elim⟩
theorem Ow.list {p:Addr} {vs:List V} {ds:List D} (s:Same F H) (h:H p=none) (r:RpL K F vs ds):Ow K F (upd H p (.lst vs)) (.ref p) (.lst true ds) (At p):=by
 refine .own (U:=No) upd_same ?_ rfl (.of r) (fun q=>q) fun _ q=>q.elim
 cases e:F p with
 | none=>rfl
 | some o=>rw [s _ _ e] at h;cases h
theorem Ow.tuple {p:Addr} {vs:List V} {ds:List D} {H':Hp} (s:Same F H) (h:H p=none) (r:RpL K F vs ds):Ow K (upd F p (.tup vs)) H' (.ref p) (.tup ds) No :=
 .frz (.tup (.inl (.inl upd_same)) (r.mono (New.tuple (vs:=vs) s h).ext.fsub))
end
section
variable {X:Cx}
def tW (X:Cx) (e:Expr):TE:=fun σ H Q=>∀ pins s,Inv X pins σ H s→wpAny (model X.prog X.w) X.A (eval e X.env) (EP X pins σ Q) X.xe s
theorem aq {e:Expr}:PE X e (tW X e):=⟨fun pins s σ H Q I h=>h pins s I⟩
theorem aw {e:Expr} {t:TE} {σ:L2.St} {H:Hp} {Q:VK} (h:PE X e t) (q:t σ H Q):tW X e σ H Q:=fun pins s I=>h.run pins s σ H Q I q
def tWT (X:Cx) (e:Expr):TT:=fun σ H Q=>∀ pins s,Inv X pins σ H s→wpAny (model X.prog X.w) X.A (isTrue e X.env (eval e X.env)) (TP X pins σ Q) X.xe s
theorem eX {e:Expr}:PT X e (tWT X e):=⟨fun pins s σ H Q I h=>h pins s I⟩
theorem gI {e:Expr} {t:TT} {σ:L2.St} {H:Hp} {Q:Bool→Hp→Prop} (h:PT X e t) (q:t σ H Q):tWT X e σ H Q:=fun pins s I=>h.run pins s σ H Q I q
def tWS (X:Cx) (st:Stmt):TS:=fun D σ H=>∀ pins s,Inv X pins σ H s→wpAny (model X.prog X.w) X.A (exec st X.env) (SP X pins D) X.xe s
theorem AW {st:Stmt}:PS X st (tWS X st):=⟨fun pins s σ H D I h=>h pins s I⟩
theorem bc {st:Stmt} {t:TS} {σ:L2.St} {H:Hp} {D:Ends} (h:PS X st t) (q:t D σ H):tWS X st D σ H:=fun pins s I=>h.run pins s σ H D I q
def vi (X:Cx) (st:List Stmt):TS:=fun D σ H=>∀ pins s,Inv X pins σ H s→wpAny (model X.prog X.w) X.A (execs st X.env) (SP X pins D) X.xe s
theorem eO {st:List Stmt}:PSs X st (vi X st):=⟨fun pins s σ H D I h=>h pins s I⟩
theorem lI {st:List Stmt} {t:TS} {σ:L2.St} {H:Hp} {D:Ends} (h:PSs X st t) (q:t D σ H):vi X st D σ H:=fun pins s I=>h.run pins s σ H D I q
def rW (X:Cx) (f:Value→Value→Sem Value):R2:=fun x y H Q=>∀ pins s σ v u,Inv X pins σ H s→RelV x v→RelV y u→wpAny (model X.prog X.w) X.A (f v u) (EP X pins σ Q) X.xe s
theorem lg {f:Value→Value→Sem Value}:OpR X f (rW X f):=fun pins s σ H x y v u Q I a b q=>q pins s σ v u I a b
theorem bA {f:Value→Value→Sem Value} {r:R2} {x y:V} {H:Hp} {Q:VK} (h:OpR X f r) (q:r x y H Q):rW X f x y H Q:=fun pins s σ v u I a b=>h pins s σ H x y v u Q I a b q
def cW (X:Cx) (f:Value):List V→Hp→VK→Prop:=fun xs H Q=>∀ pins s σ us,Inv X pins σ H s→Vals xs us→wpAny (model X.prog X.w) X.A (call f us) (EP X pins σ Q) X.xe s
theorem qq {f:Value}:CallR X f (cW X f):=fun pins s σ H xs us Q I r q=>q pins s σ us I r
theorem bG {f:Value} {r:List V→Hp→VK→Prop} {xs:List V} {H:Hp} {Q:VK} (h:CallR X f r) (q:r xs H Q):cW X f xs H Q:=fun pins s σ us I a=>h pins s σ H xs us Q I a q
variable {F H:Hp}
def opO:Op→Operator
 | .add=>.Add | .sub=>.Sub | .mul=>.Mult | .fdiv=>.FloorDiv | .mod=>.Mod | .pow=>.Pow
theorem rJ {a b:Int} (h:(small64 a||small64 b)=true):CMul a b:=by
 simp only [fw] at h
 simp only [Bool.or_eq_true,Bool.and_eq_true,decide_eq_true_eq] at h
 rcases h with h | h
 ·exact .inl ⟨by omega,by omega⟩
 ·exact .inr ⟨by omega,by omega⟩
theorem w9 {K:Frag} {vs:List V} {ds:List D} (r:RpL K F vs ds):∀ k:Nat,RpL K F (List.replicate k vs).flatten (List.replicate k ds).flatten
 | 0=>.nil
 | k+1=>by
  rw [List.replicate_succ,List.replicate_succ,List.flatten_cons,List.flatten_cons]
  exact r.append (w9 r k)
abbrev Goes (X:Cx) (F H:Hp) (d:D) (Q:VK):Prop:=∀ v F' H' Wt,Ow X.K F' H' v d Wt→New F H F' H' Wt→Q v H'
theorem Goes.atom {d:D} {Q:VK} {v:V} (g:Goes X F H d Q) (s:Same F H) (r:Rp X.K F v d):Q v H:=g v F H No (.frz r) (New.refl s)
theorem Goes.list {ds:List D} {Q:VK} {vs:List V} {p:Addr} (g:Goes X F H (.lst true ds) Q) (s:Same F H) (h:H p=none) (r:RpL X.K F vs ds):Q (.ref p) (upd H p (.lst vs)) :=
 g _ _ _ _ (Ow.list s h r) (New.list s h)
theorem Goes.tuple {ds:List D} {Q:VK} {vs:List V} {p:Addr} (g:Goes X F H (.tup ds) Q) (s:Same F H) (h:H p=none) (r:RpL X.K F vs ds):Q (.ref p) (upd H p (.tup vs)) :=
 g _ _ _ _ (Ow.tuple s h r) (New.tuple s h)
theorem w7 {op:Op} {a b d:D} {x y:V} {Q:VK} (s:Same F H) (e:mx op a b=some d) (f:Vw X.K F H x a) (i:Vw X.K F H y b) (g:Goes X F H d Q):rW X (binaryOp (opO op)) x y H Q:=by
 unfold mx at e
 split at e
 ·cases e;cases f.int;cases i.int
  exact bA op_add ⟨_,_,rfl,rfl,g.atom s (.int _)⟩
 ·split at e
  ·rename_i c
   cases e
   simp only [Bool.and_eq_true,decide_eq_true_eq] at c
   obtain ⟨a1,v1,rfl,j,l1,r1⟩:=f.lst s
   obtain ⟨a2,v2,rfl,n,l2,l⟩:=i.lst s
   refine bA op_cat ⟨a1,a2,v1,v2,rfl,rfl,j,n,?_,fun p m=>g.list s m ((r1 c.1.1).append (l c.1.2))⟩
   have:=aA
   omega
  ·cases e
 ·split at e
  ·rename_i c
   cases e
   simp only [decide_eq_true_eq] at c
   obtain ⟨a1,v1,rfl,j,r1⟩:=f.tup
   obtain ⟨a2,v2,rfl,n,l⟩:=i.tup
   have o:=r1.length
   have q:=l.length
   refine bA op_catA ⟨a1,a2,v1,v2,rfl,rfl,aa s j,aa s n,?_,fun z=>?_,fun _ z=>?_,fun _ _ p m=>g.tuple s m (r1.append l)⟩
   ·have:=aA
    omega
   ·subst z
    cases r1
    exact g.atom s (.tup n l)
   ·subst z
    cases l
    rw [List.append_nil] at g
    exact g.atom s (.tup j r1)
  ·cases e
 ·split at e
  ·rename_i c
   cases e;cases f.str;cases i.str
   exact bA op_add_str ⟨_,_,rfl,rfl,Nat.le_trans (of_decide_eq_true c) aA,g.atom s (.str _)⟩
  ·cases e
 ·cases e;cases f.int;cases i.int
  exact bA op_sub ⟨_,_,rfl,rfl,g.atom s (.int _)⟩
 ·split at e
  ·rename_i c
   cases e;cases f.int;cases i.int
   exact bA op_mul ⟨_,_,rfl,rfl,rJ c,g.atom s (.int _)⟩
  ·cases e
 ·split at e
  ·rename_i c
   cases e
   simp only [Bool.and_eq_true,decide_eq_true_eq] at c
   obtain ⟨a1,v1,rfl,j,l1,r1⟩:=f.lst s
   cases i.int
   rename_i xs k
   refine bA op_rep ⟨a1,k,v1,rfl,rfl,j,by omega,by omega,?_,fun p m=>g.list s m (w9 (r1 c.1.1.1) _)⟩
   have:1000000≤sizeLine:=aA
   have h:v1.length*k.toNat≤1000*1000:=Nat.mul_le_mul (by omega) (by omega)
   omega
  ·cases e
 ·split at e
  ·rename_i c
   cases e;cases f.int;cases i.int
   simp only [Bool.and_eq_true,decide_eq_true_eq] at c
   exact bA op_fdiv ⟨_,_,rfl,rfl,⟨c.1,c.2⟩,g.atom s (.int _)⟩
  ·cases e
 ·split at e
  ·rename_i c
   cases e;cases f.int;cases i.int
   simp only [decide_eq_true_eq] at c
   exact bA op_mod ⟨_,_,rfl,rfl,c,g.atom s (.int _)⟩
  ·cases e
 ·split at e
  ·rename_i c
   cases e;cases f.int;cases i.int
   rw [fw] at c
   simp only [Bool.and_eq_true,decide_eq_true_eq] at c
   exact bA op_pow ⟨_,_,rfl,rfl,⟨by omega,by omega,by omega⟩,g.atom s (.int _)⟩
  ·cases e
 ·cases e
def uG:Cop→CmpOp
 | .eq=>.Eq | .ne=>.NotEq | .lt=>.Lt | .le=>.LtE | .gt=>.Gt | .ge=>.GtE | .isin=>.In | .notin=>.NotIn | .isn=>.Is | .isnotn=>.IsNot
theorem qP:∀ ns ms:List Int,HT.lexLt ns ms=ltI ns ms
 | [],[]=>rfl
 | [],_::_=>rfl
 | _::_,[]=>rfl
 | x::xs,y::ys=>by rw [HT.lexLt_cons];simp only [ltI,qP xs ys]
theorem jm {K:Frag} {v:V} {d:D} (r:Rp K F v d) (f:d.flat=true):flatV v=true:=by
 cases r<;>first | rfl | simp [D.flat] at f
theorem AY {K:Frag} {v w:V} {d e:D} (r:Rp K F v d) (q:Rp K F w e) (f:d.flat=true) (g:e.flat=true):eqV v w=d.eq e:=by
 cases r<;>cases q<;>first | rfl | (simp [D.flat] at f;done) | (simp [D.flat] at g;done) | simp [eqV,D.eq]
theorem oK {K:Frag} {w:V} {e:D} (q:Rp K F w e) (g:e.flat=true):∀ {vs:List V} {ds:List D},RpL K F vs ds→cS ds=true→vs.all flatV=true∧(inV w vs)=ds.any fun x=>x.eq e
 | _,_,.nil,_=>⟨rfl,rfl⟩
 | _,_,.cons h t,f=>by
  simp only [cS,Bool.and_eq_true] at f
  obtain ⟨b,a⟩:=oK q g t f.2
  unfold inV at a ⊢
  simp only [List.all_cons,List.any_cons,jm h f.1,b,a,AY h q f.1 g,Bool.and_self,and_self]
theorem nh (a:D):∀ ds:List D,((pys ds).any fun z=>PyData.eqv z a.py)=ds.any fun x=>x.eq a
 | []=>rfl
 | d::ds=>by simp only [pys,List.any_cons,nh a ds,r5]
theorem iW {ds:List D} (h:oks 58 ds=true):SeqAt.shaped (.list (pys ds))=true:=bK (d:=.lst false ds) (k:=59) (by decide) (by simpa [D.ok] using h)
theorem Vw.dpl {K:Frag} {x:V} {o:Bool} {ds:List D} (s:Same F H) (h:Vw K F H x (.lst o ds)) (e:oks 58 ds=true):Dp K H x (.list (pys ds)):=h.dp (k:=59) s (by simpa [D.ok] using e)
theorem Vw.atom {K:Frag} {x:V} {d:D} (h:Vw K F H x d) (f:d.flat=true):Rp K F x d:=by
 obtain ⟨W,h⟩:=h
 cases h with
 | frz r=>exact r
 | own _ _ _ _ _ _=>simp [D.flat] at f
 | mob _ _ _ _ _ _ _ _ _ _=>simp [D.flat] at f
 | dct _ _ _ _ _ _=>simp [D.flat] at f
theorem sG {K:Frag} {x:V} {d:D} (h:Vw K F H x d):decide (x=.non)=isNon d:=by
 obtain ⟨W,h⟩:=h
 cases h with
 | frz r=>cases r<;>simp [isNon]
 | own _ _ _ _ _ _=>simp [isNon]
 | mob _ _ _ _ _ _ _ _ _ _=>simp [isNon]
 | dct _ _ _ _ _ _=>simp [isNon]
theorem dY:∀ {ds:List D} {ns:List Int},intsOf ds=some ns→ds=ns.map D.int
 | [],ns,e=>by
  simp only [intsOf,Option.some.injEq] at e
  subst e
  rfl
 | d::ds,ns,e=>by
  cases d with
  | int i =>
   simp only [intsOf,Option.map_eq_some_iff] at e
   obtain ⟨l,a,rfl⟩:=e
   rw [dY a]
   rfl
  | _=>simp [intsOf] at e
theorem oQ:∀ (k:Nat) (ns:List Int),oks k (ns.map D.int)=true
 | _,[]=>rfl
 | k,n::ns=>by
  rw [List.map_cons]
  simp only [oks,oQ k ns,Bool.and_true]
  cases k<;>rfl
theorem fg (ns:List Int):(D.tup (ns.map D.int)).ok 60=true:=oQ 59 ns
theorem mb (ns:List Int):(D.tup (ns.map D.int)).py=.tuple (ns.map PyData.int):=by
 simp only [D.py]
 congr 1
 induction ns with
 | nil=>rfl
 | cons n ns ih=>simp only [List.map_cons,pys,D.py,ih]
theorem iz {c z:Str} {t:Bool} (e:nG c z=some t):∃ x,c=⟨#[x]⟩∧t=decide (x∈z.cps.toList):=by
 unfold nG at e
 split at e
 ·rename_i x ex
  cases e
  refine ⟨x,?_,rfl⟩
  obtain ⟨⟨l⟩⟩:=c
  simp only at ex
  rw [ex]
 ·cases e
theorem yr (b:X.A.units+65<cLine):OpR X (compareOp .In) (fun x y H Q=>∃ d ds,L2.Dp X.K H x d∧L2.Dp X.K H y (.tuple ds)∧SeqAt.shaped d=true∧SeqAt.shaped (.tuple ds)=true∧Q (.bl (ds.any fun z=>PyData.eqv z d)) H):=by
 intro pins s σ H x y v u Q I c e h
 obtain ⟨d,ds,hd,he,a,f,q⟩:=h
 obtain ⟨as,r1⟩:=Dp.reads I d x v hd c
 obtain ⟨bs,g⟩:=Dp.reads I (.tuple ds) y u he e
 exact SeqAt.in_tuple_reads g r1 (SeqAt.canLay_of_shaped f) (SeqAt.canLay_of_shaped a) (room_in_shaped a b) ⟨.bl _,H,I,rfl,q⟩
theorem oa {op:Cop} {a b:D} {t:Bool} {x y:V} {Q:VK} (p:X.A.units+65<cLine) (s:Same F H) (e:ia op a b=some t) (d:Vw X.K F H x a) (f:Vw X.K F H y b) (g:Q (.bl t) H):rW X (compareOp (uG op)) x y H Q:=by
 unfold ia at e
 split at e
 ·split at e
  ·rename_i c
   cases e
   simp only [Bool.and_eq_true,plain] at c
   exact bA (op_eqD (by omega)) ⟨_,_,d.dp s c.1,f.dp s c.2,bK (by decide) c.1,bK (by decide) c.2,by rw [r5];exact g⟩
  ·cases e
 ·split at e
  ·rename_i c
   cases e
   simp only [Bool.and_eq_true,plain] at c
   exact bA (op_neD (by omega)) ⟨_,_,d.dp s c.1,f.dp s c.2,bK (by decide) c.1,bK (by decide) c.2,by rw [r5];exact g⟩
  ·cases e
 ·cases e;cases d.int;cases f.int
  exact bA op_lt ⟨_,_,rfl,rfl,g⟩
 ·split at e
  ·rename_i ns ms i j
   cases e
   obtain ⟨a1,v1,rfl,q,r1⟩:=d.tup
   obtain ⟨a2,v2,rfl,l,m⟩:=f.tup
   obtain ⟨rfl,_⟩:=r1.ints i
   obtain ⟨rfl,_⟩:=m.ints j
   exact bA (op_ltT (by omega)) ⟨a1,a2,ns,ms,rfl,rfl,aa s q,aa s l,by rw [qP];exact g⟩
  ·cases e
 ·cases e;cases d.int;cases f.int
  exact bA op_le ⟨_,_,rfl,rfl,g⟩
 ·cases e;cases d.int;cases f.int
  exact bA op_gt ⟨_,_,rfl,rfl,g⟩
 ·split at e
  ·rename_i ns ms i j
   cases e
   obtain rfl:=dY i
   obtain rfl:=dY j
   have dx:=d.dp (k:=60) s (fg ns)
   have h:=f.dp (k:=60) s (fg ms)
   rw [mb] at dx h
   exact bA (BD (by omega)) ⟨ns,ms,dx,h,g⟩
  ·cases e
 ·cases e;cases d.int;cases f.int
  exact bA op_ge ⟨_,_,rfl,rfl,g⟩
 ·split at e
  ·rename_i ns ms i j
   cases e
   obtain rfl:=dY i
   obtain rfl:=dY j
   have dx:=d.dp (k:=60) s (fg ns)
   have h:=f.dp (k:=60) s (fg ms)
   rw [mb] at dx h
   exact bA (xJ (by omega)) ⟨ns,ms,dx,h,g⟩
  ·cases e
 ·split at e
  ·rename_i ns ms i j
   cases e
   obtain rfl:=dY i
   obtain rfl:=dY j
   have dx:=d.dp (k:=60) s (fg ns)
   have h:=f.dp (k:=60) s (fg ms)
   rw [mb] at dx h
   exact bA (yI (by omega)) ⟨ns,ms,dx,h,g⟩
  ·cases e
 ·split at e
  ·rename_i c
   cases e
   simp only [Bool.and_eq_true,plain] at c
   exact bA (op_inD p) ⟨_,_,d.dp s c.1,f.dpl s c.2,bK (by decide) c.1,iW c.2,by rw [nh];exact g⟩
  ·cases e
 ·split at e
  ·rename_i c
   cases e
   obtain ⟨a2,v2,rfl,l,m⟩:=f.tup
   obtain ⟨n,o⟩:=oK (d.atom (by rfl)) (by rfl) m c
   exact bA op_in_seq ⟨a2,v2,rfl,.inr (aa s l),jm (d.atom (by rfl)) (by rfl),n,by rw [o];exact g⟩
  ·split at e
   ·rename_i c
    cases e
    have o1:D.ok 59 (.tup _)=true:=c
    exact bA (yr p) ⟨_,_,d.dp (k:=60) s (by rfl),f.dp (k:=59) s o1,bK (k:=60) (by decide) (by rfl),bK (k:=59) (by decide) o1,by
     show Q (.bl ((pys _).any fun z=>PyData.eqv z (D.py .non))) H
     rw [nh]
     exact g⟩
   ·cases e
 ·split at e
  ·rename_i c
   cases e
   simp only [Bool.and_eq_true] at c
   obtain ⟨a2,v2,rfl,l,m⟩:=f.tup
   obtain ⟨n,o⟩:=oK (d.atom c.1) c.1 m c.2
   exact bA op_in_seq ⟨a2,v2,rfl,.inr (aa s l),jm (d.atom c.1) c.1,n,by rw [o];exact g⟩
  ·cases e
 ·split at e
  ·rename_i c
   cases e
   simp only [Bool.and_eq_true,plain] at c
   exact bA (op_notInD p) ⟨_,_,d.dp s c.1,f.dpl s c.2,bK (by decide) c.1,iW c.2,by rw [nh];exact g⟩
  ·cases e
 ·split at e
  ·rename_i c
   cases e
   simp only [Bool.and_eq_true] at c
   obtain ⟨a2,v2,rfl,l,m⟩:=f.tup
   obtain ⟨n,o⟩:=oK (d.atom c.1) c.1 m c.2
   exact bA op_notIn_seq ⟨a2,v2,rfl,.inr (aa s l),jm (d.atom c.1) c.1,n,by rw [o];exact g⟩
  ·cases e
 ·cases d.str;cases f.str
  obtain ⟨c,rfl,rfl⟩:=iz e
  exact bA op_in_sign ⟨c,_,rfl,rfl,g⟩
 ·cases d.str;cases f.str
  rw [Option.map_eq_some_iff] at e
  obtain ⟨u,e,rfl⟩:=e
  obtain ⟨c,rfl,rfl⟩:=iz e
  exact bA op_notIn_sign ⟨c,_,rfl,rfl,g⟩
 ·cases e
  refine bA op_isN ⟨f.non,?_⟩
  rw [sG d]
  exact g
 ·cases e
  refine bA op_notN ⟨f.non,?_⟩
  rw [sG d]
  exact g
 ·cases e;cases d.bl;cases f.bl
  exact bA op_isBl ⟨_,_,rfl,rfl,g⟩
 ·cases e;cases d.bl;cases f.bl
  exact bA op_notBl ⟨_,_,rfl,rfl,g⟩
 ·cases e
end
end Ev
namespace Ev.Sb
open PySem PySem.Spec PyProof.Rows L2 Ev
theorem dZ (x y:Str):leT x y=true ↔ x.cps.toList≤y.cps.toList:=by
 unfold leT
 rw [Bool.not_eq_true',decide_eq_false_iff_not,List.not_lt]
theorem lq (x y z:Str) (a:leT x y=true) (b:leT y z=true):leT x z=true:=(dZ _ _).mpr (List.le_trans ((dZ _ _).mp a) ((dZ _ _).mp b))
theorem sA (x y:Str):(leT x y||leT y x)=true:=by
 rw [Bool.or_eq_true,dZ,dZ]
 exact List.le_total _ _
theorem vM (x y:Str) (a:leT x y=true) (b:leT y x=true):x=y:=by
 have e:=List.le_antisymm ((dZ _ _).mp a) ((dZ _ _).mp b)
 cases x with
 | mk c =>
  cases y with
  | mk d=>rw [show c=d from Array.ext' e]
theorem jb:∀ (p:Str) (l:List Str),risingS p l=true→(p::l).Pairwise (fun x y=>leT x y=true)
 | p,[],_=>by simp
 | p,x::r,h=>by
  have h:(!ltCps x.cps.toList p.cps.toList&&risingS x r)=true:=h
  rw [Bool.and_eq_true] at h
  have ih:=jb x r h.2
  have b:leT p x=true:=by
   unfold leT
   rw [← ltCps_eq]
   exact h.1
  refine List.pairwise_cons.mpr ⟨fun y a=>?_,ih⟩
  rcases List.mem_cons.mp a with rfl | a
  ·exact b
  ·exact lq _ _ _ b ((List.pairwise_cons.mp ih).1 y a)
theorem oU:∀ {l:List Str},sortedS l=true→l.Pairwise (fun x y=>leT x y=true)
 | [],_=>.nil
 | x::r,h=>jb x r h
theorem mZ {a l:List Str} (b:a.Perm l) (ha:sortedS a=true):a=tm l:=PySem.W.Srt.the_of_perm leT lq sA vM b (oU ha)
end Ev.Sb
namespace PySem.W
open PySem PySem.Calls PyProof.Rows
section
variable {prog:Program} {w:World} {A:Around} {E:Value→Shared→Prop} {s:Shared} {K:Frag} {x C L f:Addr} {h₀:Heap} {m:Str→Option Value} {ox:Obj} {od:Option Obj}
theorem p6 {op:Operator} {b tb:Value} {Q:Value→Shared→Prop} (F:Fr h₀ L s.heap m) (n:K.In h₀) (I:InstAt s.heap x ox C od) (o:selfFirst K C=true)
  (hs:findIn K (.ref C) (PySem.dunder op.info.2)=some (some (.ref f))) (hf:isFn K (.ref f)=true) (p:Looks (model prog w) s.heap (typeOf b) tb)
  (i:tb=.ref C∨∃ T,tb=.type T∧findIn K (.type T) (PySem.dunder op.info.2)=some none∧findIn K (.type T) (dunderR op.info.2)=some none)
  (h:wpAny (model prog w) A (call (.ref f) [.ref x,b]) (CmpBack Q) E s):wpAny (model prog w) A (binaryOp op (.ref x) b) Q E s:=by
 have X:=n.keeps F.keep
 obtain ⟨cd,rest,j,hm⟩:=ksp_first o
 rcases hi:op.info with ⟨sym,nm'⟩
 rw [hi] at hs i
 dsimp only at hs i
 have one:=ksp_try X I hs hf h
 obtain ⟨c,g,d,tk,os⟩:=s
 have t:Looks (model prog w) c (typeOf (.ref x)) (.ref C):=I.type
 have L2:Looks (model prog w) c (typeOf b) tb:=p
 have u:Looks (model prog w) c (fillsNumberSlot (.ref C) nm') true:=fills_K X j hm hs
 simp only [binaryOp,hi]
 refine wpAny_holding (wpAny_bind ?_)
 unfold binaryOp1
 refine wpAny_bind (t.at (wpAny_bind (L2.at (wpAny_bind (u.at ?_)))))
 rcases i with rfl | ⟨T,rfl,y,z⟩
 ·have he:(Value.ref C==Value.ref C)=true:=beq_self_eq_true _
  simp only [he,if_true]
  ksp_lk
  refine wpAny_mono one (fun r B a=>?_) fun _ _ e=>e
  obtain ⟨v,rfl,k⟩:=a
  ksp_lk
  exact k
 ·have l:(Value.ref C==Value.type T)=false:=Bool.eq_false_iff.mpr fun q=>by cases beq_iff_eq.mp q
  have G:Looks (model prog w) c (fillsNumberSlot (.type T) nm') ((((none:Option Value).isSome)&&!isSeqSlot none)||((none:Option Value).isSome&&!isSeqSlot none)):=ksp_fillsT X y z
  simp only [l,Bool.false_eq_true,if_false]
  ksp_lk
  refine wpAny_mono one (fun r B a=>?_) fun _ _ e=>e
  obtain ⟨v,rfl,k⟩:=a
  ksp_lk
  exact k
end
end PySem.W
namespace SlX
open PySem PySem.Spec PyProof.Rows L2
section
variable {X:Cx} {CX:CXT} {pins:List (Addr × Obj)} {σ:L2.St} {H:Hp} {s:Shared} {a C dx g:Addr} {vs:List (Option V)} {n:Nat} {sp:Sp} {E:XK}
def FD (K:Frag) (C:Addr) (tb:String→Prop) (sp:Sp) (E:XK):R2:=fun x y H Q=>∃ a dx vs,x=.ref a∧Slt H a C dx vs∧((∃ b dy ws,y=.ref b∧Slt H b C dy ws)∨∃ T:String,tb T∧TyX K H y (.type T))∧sp [x,y] H Q E
theorem Bg {op:Operator} {tb:String→Prop} (f:PySem.W.selfFirst X.K C=true) (hs:findIn X.K (.ref C) (PySem.dunder op.info.2)=some (some (.ref g))) (hf:isFn X.K (.ref g)=true)
  (j:∀ T,tb T→findIn X.K (.type T) (PySem.dunder op.info.2)=some none∧findIn X.K (.type T) (dunderR op.info.2)=some none)
  (F:FnR X.prog X.w X.K X.mg X.base CX n g sp) (k:Room n X.A) (l:Passes CX X E):OpR X (binaryOp op) (FD X.K C tb sp E):=by
 intro pins s σ H x y v u Q I o d h
 obtain ⟨a,dx,vs,rfl,ha,c,q⟩:=h
 cases (show v=Value.ref a from o)
 obtain ⟨sl,od,_,J,_⟩:=slt_inst I ha
 obtain ⟨m,i⟩:=I.fr
 have fin:wpAny (model X.prog X.w) X.A (call (.ref g) [.ref a,u]) (PySem.W.CmpBack (EP X pins σ Q)) X.xe s:=by
  refine wpAny_mono (wpAny_call (run_fnR (us:=[.ref a,u]) (vs:=[.ref a,y]) F k l I (.cons rfl (.cons d .nil)) q)) (fun w R z=>?_) fun _ _ x=>x
  obtain ⟨p,H',r,rz,t⟩:=z
  exact cmpback rz ⟨p,H',r,rz,t⟩
 rcases c with ⟨b,V,ws,rfl,c⟩ | ⟨T,ht,c⟩
 ·cases (show u=Value.ref b from d)
  obtain ⟨B,G,_,L,_⟩:=slt_inst I c
  exact PySem.W.p6 i I.ok.mod.kin J f hs hf L.type (.inl rfl) fin
 ·obtain ⟨P,e,M,_⟩:=kit_of I d c
  obtain ⟨N,O⟩:=j T ht
  exact PySem.W.p6 i I.ok.mod.kin J f hs hf (e.ty _ _ I.kIn M) (.inr ⟨T,rfl,N,O⟩) fin
end
end SlX
namespace ClX
open PySem PySem.Spec PyProof.Rows L2
section
variable {X:Cx} {CX:CXT} {k n:Nat} {C p g:Addr} {mc:Value} {fd:FuncData} {ps ks:List Str} {sp:Sp} {E:XK} {o:Expr} {kws:List Keyword} {m:Str} {pos apos:Pos} {ta:TE} {tk:TA} {pl:Sem Bool} {gf:List Value→List Value→List Value} {gV:List V→List V→List V}
end
end ClX
namespace PySem.W
open PySem PySem.Calls PyProof.Rows
section
variable {M:Model} {prog:Program} {w:World} {A:Around} {E:Value→Shared→Prop} {s:Shared} {K:Frag} {x C L f:Addr} {h₀:Heap} {m:Str→Option Value} {ox:Obj} {od:Option Obj} {b tb:Value}
end
end PySem.W
namespace SlX
open PySem PySem.Spec PyProof.Rows L2
section
variable {X:Cx} {CX:CXT} {pins:List (Addr × Obj)} {σ:L2.St} {H:Hp} {s:Shared} {a C dx g:Addr} {vs:List (Option V)} {n:Nat} {sp:Sp} {E:XK}
end
end SlX
namespace Ev
open PySem PySem.Spec PyProof.Rows L2
section
variable {X:Cx}
def CT (K:Frag):List V→Hp→VK→Prop:=fun vs H Q=>∃ (a:Addr) (ns:List Int),vs=[V.ref a]∧SqT K H a (ns.map V.int)∧Q (.int ns.sum) H
theorem xM (c:X.calm=true):CallR X (.builtin "sum") (CT X.K):=by
 intro pins s σ H vs us Q I r h
 obtain ⟨a,ns,rfl,hs,q⟩:=h
 obtain ⟨its,b,ht,_⟩:=I.tuple hs
 rw [Vals.ref1 r]
 obtain ⟨xs,e⟩:=b.ints.allInts.items
 have hn:numsOf (intItems xs).toList=ns:=by rw [← e];exact b.ints.numsOf
 rw [nums_intItems] at hn
 rw [e] at ht
 refine PySem.W.ktm_sumG (I.ok.hd c) ht fun h' tk t' hk=>?_
 refine ⟨.int _,H,I.kept hk,⟨_,rfl⟩,?_⟩
 rw [preSum_eq,List.take_of_length_le (by simp),hn]
 exact q
end
end Ev
namespace SlX
open PySem PySem.Spec PyProof.Rows L2
section
variable {X:Cx} {CX:CXT} {pins:List (Addr × Obj)} {σ:L2.St} {H:Hp} {s:Shared} {a C dx g:Addr} {vs:List (Option V)} {n:Nat} {sp:Sp} {E:XK}
end
end SlX
namespace PySem.SeqAt
open AutoSeq1 (wpAny_loadPart')
open MeetsSeq MeetsSeq2 MeetsSeq3 SeqRoads2 PySem.W PySem.Calls PyProof.Rows GQ
section
variable {prog:Program} {w:World} {A:Around} {E:Value→Shared→Prop} {s:Shared} {K:Frag} {x C L f:Addr} {h₀:Heap} {m:Str→Option Value} {ox:Obj} {od:Option Obj} {a:Addr}
end
end PySem.SeqAt
namespace SlX
open PySem PySem.Spec PyProof.Rows L2 PySem.SeqAt GQ
section
variable {X:Cx} {CX:CXT} {pins:List (Addr × Obj)} {σ:L2.St} {H:Hp} {s:Shared} {C g:Addr} {n:Nat} {sp:Sp} {E:XK}
end
end SlX
namespace PySem.W
open PySem PySem.Calls PyProof.Rows
section
variable {prog:Program} {w:World} {A:Around} {E:Value→Shared→Prop} {s:Shared} {K:Frag} {x C L f g:Addr} {h₀:Heap} {m:Str→Option Value} {ox:Obj} {od:Option Obj}
end
end PySem.W
namespace SlX
open PySem PySem.Spec PyProof.Rows L2
section
variable {X:Cx} {CX:CXT} {pins:List (Addr × Obj)} {σ:L2.St} {H:Hp} {s:Shared} {a C dx g g2:Addr} {vs:List (Option V)} {n:Nat} {sp:Sp} {E:XK}
def FF (C:Addr) (sp:Sp) (E:XK):R2:=fun y x H Q=>∃ a dx vs i,y=.int i∧x=.ref a∧Slt H a C dx vs∧sp [x,y] H Q E
def Fh (C:Addr) (sp:Sp) (E:XK):R2:=fun x y H Q=>∃ a dx vs,x=.ref a∧Slt H a C dx vs∧((∃ b dy ws,y=.ref b∧Slt H b C dy ws)∨∃ i,y=.int i)∧sp [x,y] H Q E
end
end SlX
namespace Ev
open PySem PySem.Spec PyProof.Rows L2
section
variable {prog:Program} {w:World} {A:Around} {E:Value→Shared→Prop} {s:Shared}
theorem oZ {t:Addr} {vs:List Value} {Q:List Value→Shared→Prop} (ht:IsTup s.heap t vs.toArray) (d:vs.length≤sizeLine)
    (h:Q vs { s with heap:=(s.heap.push (seqObj "list" #[] 0)).update s.heap.objs.size (Obj.mapSeq (·++vs.toArray)) }) :
    wpAny (model prog w) A (collect (.ref t)) Q E s:=by
  obtain ⟨o,b,c,n,hd⟩:=id ht
  unfold collect
  refine wpAny_bind (wpAny_runValue
    (codeAny_builtin entry_proto_collect' ?_))
  show wpAny _ _ (do
    again (.builtin "list.__iadd__" ⟨[← newList [],.ref t],[]⟩)) _ _ s
  refine wpAny_bind (wpAny_newList (wpAny_pure
    ⟨Code.quiet_builtin _ (by decide +kernel),codeAny_builtin entry_list_iadd' ?_⟩))
  show wpAny _ _ (Builtin.List.listExtendWith
    (.ref s.heap.objs.size) (.ref t) (.ref s.heap.objs.size)) _ _
    { s with heap:=s.heap.push (seqObj "list" #[] 0) }
  unfold Builtin.List.listExtendWith
  have a:(s.heap.push (seqObj "list" #[] 0)).get? t=some o :=
    Heap.get?_push_of_some _ b
  refine wpAny_bind (wpAny_typeOf (T:="tuple") ⟨o,a,c⟩ ?_)
  rw [if_pos (by simp)]
  refine wpAny_bind (listItems_at a hd ?_)
  refine wpAny_bind (listItems_at (xs:=#[]) (n:=0)
    (Heap.get?_push_size _ rfl) rfl ?_)
  rw [if_neg (by simp)]
  refine wpAny_bind (listUpdate_at (xs:=#[]) (n:=0)
    (Heap.get?_push_size _ rfl) rfl ?_ (Nat.zero_le _)
    (by show (#[]++vs.toArray).size≤sizeLine+1
        simp only [Array.size_append,List.size_toArray,List.length_nil]
        omega))
  refine wpAny_pure ?_
  show wpAny (model prog w) A (do
    let o ← load s.heap.objs.size
    match o.data with
    | .seq xs _=>pure xs.toList
    | _=>unsupported "internal:collect") Q E
    { s with heap:=(s.heap.push (seqObj "list" #[] 0)).update s.heap.objs.size (Obj.mapSeq (·++vs.toArray)) }
  refine wpAny_bind (wpAny_load
    (get?_update_seq (Heap.get?_push_size _ rfl) _) ?_)
  show wpAny _ _ (pure ((#[]:Array Value)++vs.toArray).toList) Q E _
  have e:((#[]:Array Value)++vs.toArray).toList=vs:=by simp
  rw [e]
  exact wpAny_pure h
theorem qG {t:Addr} {vs:List Value} {ns:List Int} {Q:Value→Shared→Prop} (ht:IsTup s.heap t vs.toArray) (a:vs.length≤sizeLine) (hi:IntsAre vs ns)
  (h:∀ out:List Value,SrtO.Srtd SrtO.ltIv out→SrtO.Stb SrtO.ltIv out vs →
   Q (.ref (s.heap.objs.size+1)) { s with heap:=sortedAll s.heap vs out.toArray }) :
  wpAny (model prog w) A (call (.builtin "sorted") [.ref t]) Q E s:=by
 refine Calls.call_function_entry kind_sorted plain_sorted
  entry_sorted (args_sorted1 _) ?_
 unfold Builtin.«sorted»
 refine wpAny_bind (m:=checkCount "sorted" 1 1 _)
  (wpAny_pure ?_)
 refine wpAny_bind (oZ ht a ?_)
 refine wpAny_bind (wpAny_newList ?_ a)
 have up:((s.heap.push (seqObj "list" #[] 0)).update s.heap.objs.size
   (Obj.mapSeq (·++vs.toArray))).objs.size=s.heap.objs.size+1:=by
  rw [Heap.size_update,size_push']
 have new:(((s.heap.push (seqObj "list" #[] 0)).update s.heap.objs.size
   (Obj.mapSeq (·++vs.toArray))).push (seqObj "list" vs.toArray 0)).get?
   (s.heap.objs.size+1)=some (seqObj "list" vs.toArray 0):=by
  rw [← up]
  exact Heap.get?_push_size _ rfl
 show wpAny _ _ _ _ _ { s with heap:=((s.heap.push (seqObj "list" #[] 0)).update s.heap.objs.size
  (Obj.mapSeq (·++vs.toArray))).push (seqObj "list" vs.toArray 0) }
 rw [up]
 refine wpAny_bind (wpAny_holding (wpAny_call_entry slot_list_sort ⟨_,new,rfl⟩ entry_list_sort
  (SrtO.list_sort_ord SrtO.swo_int new a (fun b=>SrtO.ints_sortable hi b)
   fun out hs c=>⟨_,rfl,?_⟩) (args_list_sort _)))
 exact wpAny_pure ⟨_,rfl,h out hs c⟩
end
theorem insI_perm (x:Int):∀ ys:List Int,(insI x ys).Perm (x::ys)
 | []=>.refl _
 | y::ys=>by
  unfold insI
  split
  ·exact .refl _
  ·exact ((insI_perm x ys).cons y).trans (.swap x y ys)
theorem sortI_perm:∀ xs:List Int,(sortI xs).Perm xs
 | []=>.refl _
 | x::xs=>(insI_perm x (sortI xs)).trans ((sortI_perm xs).cons x)
theorem qH (x:Int):∀ {ys:List Int},ys.Pairwise (·≤·)→(insI x ys).Pairwise (·≤·)
 | [],_=>by simp [insI]
 | y::ys,h=>by
  obtain ⟨b,d⟩:=List.pairwise_cons.mp h
  unfold insI
  split
  ·rename_i c
   refine List.pairwise_cons.mpr ⟨fun z a=>?_,h⟩
   rcases List.mem_cons.mp a with e | a
   ·omega
   ·have:=b z a
    omega
  ·rename_i c
   refine List.pairwise_cons.mpr ⟨fun z a=>?_,qH x d⟩
   rcases List.mem_cons.mp ((insI_perm x ys).mem_iff.mp a) with e | a
   ·omega
   ·exact b z a
theorem oM:∀ xs:List Int,(sortI xs).Pairwise (·≤·)
 | []=>.nil
 | x::xs=>qH x (oM xs)
theorem iU {a ns:List Int} (p:a.Perm ns) (q:a.Pairwise (·≤·)):a=sortI ns :=
 PySem.W.ksm_same (p.trans (sortI_perm ns).symm) q (oM ns)
theorem kZ:∀ (xs:List Int) (m:Int),pP m xs∈m::xs∧∀ y∈m::xs,pP m xs≤y
 | [],m=>⟨List.mem_cons_self,fun y h=>by simp at h;unfold pP;omega⟩
 | x::xs,m=>by
  obtain ⟨d,b⟩:=kZ xs (if x<m then x else m)
  show pP (if x<m then x else m) xs∈_∧∀ y∈m::x::xs,pP (if x<m then x else m) xs≤y
  refine ⟨?_,fun y a=>?_⟩
  ·rcases List.mem_cons.mp d with e | e
   ·rw [e]
    split<;>simp
   ·exact List.mem_cons_of_mem _ (List.mem_cons_of_mem _ e)
  ·have c:=b (if x<m then x else m) List.mem_cons_self
   generalize pP (if x<m then x else m) xs=z at b c ⊢
   rcases List.mem_cons.mp a with e | a
   ·subst e;split at c<;>omega
   ·rcases List.mem_cons.mp a with e | a
    ·subst e;split at c<;>omega
    ·exact b y (List.mem_cons_of_mem _ a)
theorem kI:∀ (xs:List Int) (m:Int),pF m xs∈m::xs∧∀ y∈m::xs,y≤pF m xs
 | [],m=>⟨List.mem_cons_self,fun y h=>by simp at h;unfold pF;omega⟩
 | x::xs,m=>by
  obtain ⟨d,b⟩:=kI xs (if m<x then x else m)
  show pF (if m<x then x else m) xs∈_∧∀ y∈m::x::xs,y≤pF (if m<x then x else m) xs
  refine ⟨?_,fun y a=>?_⟩
  ·rcases List.mem_cons.mp d with e | e
   ·rw [e]
    split<;>simp
   ·exact List.mem_cons_of_mem _ (List.mem_cons_of_mem _ e)
  ·have c:=b (if m<x then x else m) List.mem_cons_self
   generalize pF (if m<x then x else m) xs=z at b c ⊢
   rcases List.mem_cons.mp a with e | a
   ·subst e;split at c<;>omega
   ·rcases List.mem_cons.mp a with e | a
    ·subst e;split at c<;>omega
    ·exact b y (List.mem_cons_of_mem _ a)
section
variable {X:Cx} {F H:Hp}
theorem pe:CallR X (.builtin "sorted") (fun vs H Q=>∃ (a:Addr) (ns:List Int),vs=[V.ref a]∧SqT X.K H a (ns.map V.int) ∧
  ∀ (b:List Int) (p:Addr),b.Perm ns→b.Pairwise (·≤·)→H p=none→Q (.ref p) (upd H p (.lst (b.map V.int)))):=by
 intro pins s σ H vs us Q I r h
 obtain ⟨a,ns,rfl,hs,q⟩:=h
 obtain ⟨its,e,f,c⟩:=I.tuple hs
 rw [Vals.ref1 r]
 have hi:=e.ints
 refine qG f (by rw [← e.length];exact c) hi fun out g i=>?_
 obtain ⟨k1,k2,k3⟩:=SrtO.ints_out hi g i
 obtain ⟨ep,d⟩:=PyProof.Rows.sortedAll_at s.heap its out.toArray
 have len:((out.map SrtO.iv).map V.int).length≤sizeLine:=by
  rw [List.length_map,k2.length_eq]
  rw [List.length_map] at c
  exact c
 refine ⟨.ref _,upd H (s.heap.objs.size+1) (.lst ((out.map SrtO.iv).map V.int)),?_,rfl,q _ _ k2 k3 (I.hok.fresh (Nat.le_succ _))⟩
 exact I.laid (t':=s.toks) (fun _ _=>PyProof.Rows.sortedAll_old) (Nat.le_succ _) ⟨len,out,ep,vals_of_ints k1,d⟩
theorem rn:CallR X (.builtin "sorted") (fun vs H Q=>∃ (a:Addr) (ts:List (Addr × (Int × Int))),vs=[V.ref a]∧SqL X.K H a (ts.map fun p=>V.ref p.1)∧(∀ p∈ts,SqT X.K H p.1 [.int p.2.1,.int p.2.2]) ∧
  ∀ (g:List (Addr × (Int × Int))) (p:Addr),g.Perm ts→g.Pairwise (fun x y=>SrtO.lexB y.2 x.2=false)→H p=none→Q (.ref p) (upd H p (.lst (g.map fun p=>V.ref p.1)))):=by
 intro pins s σ H vs us Q I r h
 obtain ⟨a,ts,rfl,hs,C,q⟩:=h
 obtain ⟨its,j,w,F⟩:=I.list hs
 obtain ⟨u,rfl,O⟩:=vals1 r
 obtain rfl:u=Value.ref a:=O
 obtain ⟨P,J⟩:=refs_back j fun x m=>by
  obtain ⟨p,_,rfl⟩:=List.mem_map.mp m
  exact ⟨p.1,rfl⟩
 let f:Value→Addr × (Int × Int):=fun u=>match u with
  | .ref b=>(b,(ts.lookup b).getD (0,0))
  | _=>(0,(0,0))
 have L:∀ p∈ts,f (.ref p.1)=p:=fun p c=>by
  have:∃ z,ts.lookup p.1=some z∧(p.1,z)∈ts:=by
   clear hs C q j P J f F w
   induction ts with
   | nil=>cases c
   | cons y ts ih =>
    rw [List.lookup_cons]
    split
    ·rename_i b
     have:=beq_iff_eq.mp b
     exact ⟨y.2,rfl,by rw [this];exact List.mem_cons_self⟩
    ·rename_i b
     rcases List.mem_cons.mp c with e | c
     ·rw [e] at b
      simp at b
     ·obtain ⟨z,B,i⟩:=ih c
      exact ⟨z,B,List.mem_cons_of_mem _ i⟩
  obtain ⟨z,B,i⟩:=this
  have:=I.tuple_inj (C _ i) (C p c)
  have R:z=p.2:=by
   simp only [List.cons.injEq,V.int.injEq,and_true] at this
   exact Prod.ext this.1 this.2
  show (p.1,(ts.lookup p.1).getD (0,0))=p
  rw [B,R]
  rfl
 have ei:its=ts.map fun p=>Value.ref p.1:=by
  have:∀ (ts:List (Addr × (Int × Int))) (its:List Value),Vals (ts.map fun p=>V.ref p.1) its→its=ts.map fun p=>Value.ref p.1:=by
   intro ts
   induction ts with
   | nil=>intro its h;cases h;rfl
   | cons y ts ih =>
    intro its h
    cases h with
    | cons h t =>
     cases h
     rw [List.map_cons,← ih _ t]
  exact this ts its j
 have fi:its.map f=ts:=by
  rw [ei,List.map_map]
  have:∀ l:List (Addr × (Int × Int)),(∀ p∈l,p∈ts)→l.map (f∘fun p=>Value.ref p.1)=l:=by
   intro l w
   induction l with
   | nil=>rfl
   | cons y l ih =>
    rw [List.map_cons,ih fun p c=>w p (List.mem_cons_of_mem _ c)]
    show f (.ref y.1)::l=y::l
    rw [L y (w y List.mem_cons_self)]
  exact this ts fun _ h=>h
 refine SrtO.sorted_pairsO (k:=fun u=>(f u).2) w.isList (by rw [← j.length];exact F) (fun v M=>?_) fun h' d out B i kp hd hn=>?_
 ·rw [ei] at M
  obtain ⟨p,c,rfl⟩:=List.mem_map.mp M
  show Srt.IsPair s.heap (.ref p.1) (f (.ref p.1)).2.1 (f (.ref p.1)).2.2
  rw [L p c]
  obtain ⟨its2,Y,⟨o,Z,hc,n,hd⟩,_⟩:=I.tuple (C p c)
  obtain ⟨u1,u2,rfl,ri,rj⟩:=vals2 Y
  obtain ⟨t1,rfl⟩:=ri
  obtain ⟨t2,rfl⟩:=rj
  exact ⟨p.1,o,t1,t2,n,rfl,Z,hc,hd⟩
 ·have N:∀ u∈out,∃ a,u=Value.ref a:=fun u G=>J u (i.perm.mem_iff.mp G)
  obtain ⟨n,hn⟩:=hn
  have pm:(out.map f).Perm ts:=by
   have:=i.perm.map f
   rwa [fi] at this
  have eo:(out.map f).map (fun p=>V.ref p.1)=out.map backV:=by
   rw [List.map_map]
   refine List.map_congr_left fun u G=>?_
   obtain ⟨b,rfl⟩:=N u G
   rfl
  have len:(out.map backV).length≤sizeLine:=by
   rw [List.length_map,i.perm.length_eq,← j.length]
   exact F
  refine ⟨.ref d,upd H d (.lst (out.map backV)),I.laid (t':=s.toks) kp hd ⟨len,out,n,vals_back N,hn⟩,rfl,?_⟩
  rw [← eo]
  exact q (out.map f) d pm (List.pairwise_map.mpr B) (I.hok.fresh hd)
theorem xT (p q:Nat × Nat):ltQ p q=SrtO.lexB ((p.1:Int),(p.2:Int)) ((q.1:Int),(q.2:Int)):=by
 rw [Bool.eq_iff_iff,SrtO.lexB_iff]
 unfold ltQ
 rw [Bool.or_eq_true,Bool.and_eq_true,Nat.blt_eq,Nat.beq_eq,Nat.blt_eq]
 show _ ↔ (p.1:Int)<q.1∨((p.1:Int)=q.1∧(p.2:Int)<q.2)
 omega
theorem fZ (x:Nat × Nat):∀ ys,(zh x ys).Perm (x::ys)
 | []=>.refl _
 | y::ys=>by
  unfold zh
  split
  ·exact ((fZ x ys).cons y).trans (.swap x y ys)
  ·exact .refl _
theorem jk:∀ xs,(pM xs).Perm xs
 | []=>.refl _
 | x::xs=>(fZ x (pM xs)).trans ((jk xs).cons x)
theorem sH (p q:Nat × Nat):ltQ p q=true ↔ p.1<q.1∨(p.1=q.1∧p.2<q.2):=by
 unfold ltQ
 rw [Bool.or_eq_true,Bool.and_eq_true,Nat.blt_eq,Nat.beq_eq,Nat.blt_eq]
theorem rf (p q:Nat × Nat):ltQ p q=false ↔ q.1<p.1∨(p.1=q.1∧q.2≤p.2):=by
 rw [← Bool.not_eq_true,sH]
 omega
theorem sy (x:Nat × Nat):∀ {ys:List (Nat × Nat)},ys.Pairwise (fun a b=>ltQ b a=false)→(zh x ys).Pairwise (fun a b=>ltQ b a=false)
 | [],_=>by simp [zh]
 | y::ys,h=>by
  obtain ⟨f,g⟩:=List.pairwise_cons.mp h
  unfold zh
  split
  ·rename_i c
   refine List.pairwise_cons.mpr ⟨fun z d=>?_,sy x g⟩
   rcases List.mem_cons.mp ((fZ x ys).mem_iff.mp d) with e | d
   ·subst e
    rw [sH] at c
    rw [rf]
    omega
   ·exact f z d
  ·rename_i c
   rw [Bool.not_eq_true] at c
   refine List.pairwise_cons.mpr ⟨fun z d=>?_,h⟩
   rcases List.mem_cons.mp d with e | d
   ·subst e;exact c
   ·have:=f z d
    rw [rf] at *
    omega
theorem nK:∀ xs,(pM xs).Pairwise (fun a b=>ltQ b a=false)
 | []=>.nil
 | x::xs=>sy x (nK xs)
theorem iy:∀ {a b:List (Nat × Nat)},a.Perm b→a.Pairwise (fun a b=>ltQ b a=false)→b.Pairwise (fun a b=>ltQ b a=false)→a=b
 | [],b,p,_,_=>(List.Perm.eq_nil p.symm).symm
 | x::a,[],p,_,_=>absurd p.length_eq (by simp)
 | x::a,y::b,p,h,k=>by
  have h':=List.pairwise_cons.mp h
  have k':=List.pairwise_cons.mp k
  have e:x=y:=by
   rcases List.mem_cons.mp (p.mem_iff.mp List.mem_cons_self) with e | c
   ·exact e
   ·rcases List.mem_cons.mp (p.mem_iff.mpr List.mem_cons_self) with e | d
    ·exact e.symm
    ·have a1:=h'.1 y d
     have a2:=k'.1 x c
     rw [rf] at a1 a2
     exact Prod.ext (by omega) (by omega)
  subst e
  rw [iy p.cons_inv h'.2 k'.2]
theorem oG:∀ {xs:List D} {ps:List (Nat × Nat)},uu xs=some ps→xs=ps.map pairD
 | [],ps,e=>by cases e;rfl
 | d::ds,ps,e=>by
  unfold uu at e
  split at e
  ·rename_i h;cases h
  ·rename_i x y ds' h
   cases h
   rw [Option.map_eq_some_iff] at e
   obtain ⟨b,a,rfl⟩:=e
   rw [oG a]
   rfl
  ·cases e
theorem wH:∀ ps:List (Nat × Nat),fzs (ps.map pairD)=true
 | []=>rfl
 | p::ps=>by
  simp only [List.map_cons,fzs,wH ps]
  rfl
def prI (p:Nat × Nat):Int × Int:=((p.1:Int),(p.2:Int))
theorem wG {K:Frag}:∀ {ps:List (Nat × Nat)} {vs:List V},RpL K F vs (ps.map pairD)→∃ ts:List (Addr × (Int × Int)),vs=ts.map (fun p=>V.ref p.1)∧ts.map Prod.snd=ps.map prI∧∀ p∈ts,SqT K F p.1 [.int p.2.1,.int p.2.2]
 | [],_,h=>by cases h;exact ⟨[],rfl,rfl,fun p q=>by cases q⟩
 | p::ps,_,h=>by
  cases h with
  | cons r t =>
   obtain ⟨ts,c,d,e⟩:=wG t
   change Rp K F _ (.tup [.int p.1,.int p.2]) at r
   cases r with
   | tup q l =>
    rename_i a ws
    obtain ⟨rfl,_⟩:=l.ints (ns:=[(p.1:Int),(p.2:Int)]) rfl
    refine ⟨(a,prI p)::ts,by rw [c];rfl,by rw [List.map_cons,d];rfl,fun x b=>?_⟩
    rcases List.mem_cons.mp b with rfl | b
    ·exact q
    ·exact e x b
theorem wt {K:Frag}:∀ {L:List (Addr × (Int × Int))} {a:List (Nat × Nat)},(∀ p∈L,SqT K F p.1 [.int p.2.1,.int p.2.2])→L.map Prod.snd=a.map prI→RpL K F (L.map fun p=>V.ref p.1) (a.map pairD)
 | [],[],_,_=>.nil
 | [],q::a,_,e=>by simp at e
 | p::L,[],_,e=>by simp at e
 | p::L,q::a,h,e=>by
  simp only [List.map_cons,List.cons.injEq] at e
  refine .cons ?_ (wt (fun x b=>h x (by simp [b])) e.2)
  have:=h p (by simp)
  rw [e.1] at this
  exact .tup this (dz [(q.1:Int),(q.2:Int)])
theorem uT {L:List (Int × Int)} {ps:List (Nat × Nat)} (pm:L.Perm (ps.map prI)) (i:L.Pairwise (fun x y=>SrtO.lexB y x=false)):L=(pM ps).map prI:=by
 have up:∀ l:List (Int × Int),(∀ z∈l,∃ p,z=prI p)→∃ c:List (Nat × Nat),l=c.map prI:=by
  intro l
  induction l with
  | nil=>intro _;exact ⟨[],rfl⟩
  | cons z l ih =>
   intro h
   obtain ⟨c,e⟩:=ih fun y j=>h y (List.mem_cons_of_mem _ j)
   obtain ⟨p,k⟩:=h z List.mem_cons_self
   exact ⟨p::c,by rw [e,k];rfl⟩
 obtain ⟨c,rfl⟩:=up L fun z m=>by
  obtain ⟨p,_,e⟩:=List.mem_map.mp (pm.mem_iff.mp m)
  exact ⟨p,e.symm⟩
 have d:c.Perm ps:=by
  let g:Int × Int→Nat × Nat:=fun z=>(z.1.toNat,z.2.toNat)
  have f:∀ l:List (Nat × Nat),(l.map prI).map g=l:=fun l=>by
   rw [List.map_map]
   have:(g∘prI)=id:=funext fun p=>rfl
   rw [this,List.map_id]
  have:=pm.map g
  rwa [f,f] at this
 rw [iy (d.trans (jk ps).symm) ((List.pairwise_map.mp i).imp fun {a b} h=>by rw [xT];exact h) (nK ps)]
def biV:Bi→Value
 | .len=>.builtin "len" | .abs=>.builtin "abs" | .min2=>.builtin "min" | .max2=>.builtin "max" | .min1=>.builtin "min" | .max1=>.builtin "max"
 | .sum1=>.builtin "sum" | .int1=>.type "int" | .list1=>.type "list" | .tuple1=>.type "tuple" | .sorted1=>.builtin "sorted" | .all1=>.builtin "all" | .any1=>.builtin "any"
 | .divmod=>.builtin "divmod" | .lrange=>.none | .trange=>.none | .maxd=>.none | .sset=>.none | .lset=>.none | .step=>.none | .lenr=>.none | .str1=>.type "str" | .join _=>.none | .splt _=>.none | .repl _=>.none
theorem VwL.one {K:Frag} {xs:List V} {d:D} (h:VwL K F H xs [d]):∃ x,xs=[x]∧Vw K F H x d:=by
 cases h with
 | cons h t=>cases t;exact ⟨_,rfl,h⟩
theorem VwL.two {K:Frag} {xs:List V} {d e:D} (h:VwL K F H xs [d,e]):∃ x y,xs=[x,y]∧Vw K F H x d∧Vw K F H y e:=by
 cases h with
 | cons h t =>
  cases t with
  | cons a t=>cases t;exact ⟨_,_,rfl,h,a⟩
theorem Vw.ints {K:Frag} {x:V} {o:Bool} {ds:List D} {ns:List Int} (s:Same F H) (h:Vw K F H x (.lst o ds)) (e:intsOf ds=some ns):∃ a,x=.ref a∧H a=some (.lst (ns.map V.int)):=by
 obtain ⟨a,vs,rfl,b,_,r⟩:=h.lst s
 obtain ⟨rfl,_⟩:=(r (cR e)).ints e
 exact ⟨a,rfl,b⟩
theorem foldl_min (ms:List Int):∀ n:Int,ms.foldl min n=pP n ms:=by
 induction ms with
 | nil=>intro n;rfl
 | cons m ms ih =>
  intro n
  rw [List.foldl_cons,ih,pP]
  congr 1
  split<;>omega
open PySem.W in
theorem iw (ns:List Int):AlikeAll (ns.map PyData.int):=by
 refine ⟨fun x a y b=>?_,fun x a=>?_⟩
 ·obtain ⟨i,_,rfl⟩:=List.mem_map.mp a
  obtain ⟨j,_,rfl⟩:=List.mem_map.mp b
  rfl
 ·obtain ⟨i,_,rfl⟩:=List.mem_map.mp a
  intro h;cases h
theorem eT:∀ ns:List Int,PyData.depthAll (ns.map PyData.int)≤1
 | []=>by simp [PyData.depthAll]
 | n::ns=>by
  simp only [List.map_cons,PyData.depthAll,PyData.depth]
  have:=eT ns
  omega
def Eg (K:Frag):List V→Hp→VK→Prop:=fun vs H Q=>∃ (a:Addr) (n:Int) (ms:List Int),vs=[V.ref a]∧SqT K H a ((n::ms).map V.int)∧Q (.int (ms.foldl min n)) H
open PySem.W in
theorem yC (c:X.calm=true) (e:X.A.units+60<cLine):CallR X (.builtin "min") (Eg X.K):=by
 intro pins s σ H vs us Q I r h
 obtain ⟨a,n,ms,rfl,hs,q⟩:=h
 rw [Vals.ref1 r]
 obtain ⟨its,d,ht,_⟩:=I.tuple hs
 have rd:=ints_readAll s.heap (xs:=n::ms) d.ints
 have dp:=eT (n::ms)
 refine min_tuple_data (I.ok.hd c) ht (by simpa using rd) (iw (n::ms)) (by simp only [List.map_cons] at dp;omega) (fun i v h' tk bs hi b hk=>?_)
 rw [minD_ints] at b
 cases b with
 | int=>exact ⟨.int _,H,I.kept hk,⟨_,rfl⟩,q⟩
theorem hE {i:Int} (h:aX i=true):i.natAbs.log2<1920:=by
 have a:i.natAbs≤4611686018427387904:=by
  cases i with
  | ofNat n=>rw [show aX (Int.ofNat n)=Nat.ble n 4611686018427387903 from rfl,Nat.ble_eq] at h;simp only [Int.ofNat_eq_natCast,Int.natAbs_natCast];omega
  | negSucc n=>rw [show aX (Int.negSucc n)=Nat.ble n 4611686018427387903 from rfl,Nat.ble_eq] at h;simp only [Int.natAbs_negSucc];omega
 by_cases h0:i.natAbs=0
 ·rw [h0];decide
 ·have:i.natAbs.log2<63:=(Nat.log2_lt h0).mpr (by omega)
  omega
theorem jN {K:Frag}:∀ ys:List Str,RpL K F (ys.map V.str) (ys.map D.str)
 | []=>.nil
 | y::ys=>.cons (.str y) (jN ys)
theorem gN {K:Frag}:∀ {vs:List V} {ds:List D} {ys:List Str},RpL K F vs ds→strsOf ds=some ys→vs=ys.map V.str
 | _,_,_,.nil,e=>by cases e;rfl
 | _,_,_,.cons (d:=d) h t,e=>by
  cases d<;>simp only [strsOf] at e<;>try cases e
  rw [Option.map_eq_some_iff] at e
  obtain ⟨l,a,b⟩:=e
  subst b
  cases h
  rw [gN t a]
  rfl
theorem dt:∀ {ds:List D} {ys:List Str},strsOf ds=some ys→fzs ds=true
 | [],_,_=>rfl
 | d::ds,ys,e=>by
  cases d<;>simp only [strsOf] at e<;>try cases e
  rw [Option.map_eq_some_iff] at e
  obtain ⟨l,a,b⟩:=e
  simp only [fzs,D.fz,dt a,Bool.and_self]
theorem iP:∀ (l:List Nat) (us:List Value),l.length=us.length→(∀ (j:Nat) (v:Value),us[j]?=some v→∃ (c:Nat) (t:Tok),l[j]?=some c∧v=Value.str ⟨#[c]⟩ t)→Vals (l.map fun c=>V.str ⟨#[c]⟩) us
 | [],[],_,_=>.nil
 | [],_::_,h,_=>by cases h
 | _::_,[],h,_=>by cases h
 | c::l,u::us,h,g=>by
  obtain ⟨i,t,a,b⟩:=g 0 u rfl
  cases a
  exact .cons ⟨t,b⟩ (iP l us (by simpa using h) fun j v e=>by
   obtain ⟨c2,t2,d,f⟩:=g (j+1) v (by simpa using e)
   exact ⟨c2,t2,by simpa using d,f⟩)
theorem vJ {K:Frag} (z:Str):RpL K F (z.cps.toList.map fun c=>V.str ⟨#[c]⟩) (fA z):=by
 unfold fA
 generalize z.cps.toList=l
 induction l with
 | nil=>exact .nil
 | cons c l ih=>exact .cons (.str _) ih
theorem hU (d:X.calm=true):CallR X (.type "list") (fun vs H Q=>∃ z:Str,vs=[.str z]∧z.cps.size≤sizeLine∧∀ l,H l=none→Q (.ref l) (upd H l (.lst (z.cps.toList.map fun c=>V.str ⟨#[c]⟩)))):=by
 intro pins s σ H xs us Q I r h
 obtain ⟨z,rfl,b,q⟩:=h
 obtain ⟨u,rfl,t,rfl⟩:=vals1 r
 refine call_list_str (I.ok.hd d) z t (fun h' tk a f kp e it=>?_) b
 obtain ⟨hs,hi⟩:=it
 have g:Vals (z.cps.toList.map fun c=>V.str ⟨#[c]⟩) a.toList:=iP _ _ (by rw [Array.length_toList,Array.length_toList,hs]) fun j v i=>by
  obtain ⟨c,u,k,m⟩:=hi j v (by rw [← Array.getElem?_toList];exact i)
  exact ⟨c,u,by rw [Array.getElem?_toList];exact k,m⟩
 exact ⟨.ref s.heap.objs.size,_,I.laid (t':=tk) kp (Nat.le_refl _) (show ObjOk X.prog X.w _ h' _ (.lst _) from ⟨by rw [List.length_map,Array.length_toList];exact b,a.toList,f,g,by simpa using e⟩),rfl,q _ (I.hok.fresh (Nat.le_refl _))⟩
theorem Bj {b:Bi} {ds:List D} {d:D} {xs:List V} {Q:VK} (L:X.A.units+65<cLine) (q:X.calm=true) (s:Same F H) (nb:b.pl=true) (e:biD b ds=some d) (j:VwL X.K F H xs ds) (g:Goes X F H d Q):cW X (biV b) xs H Q:=by
 unfold biD at e
 split at e
 ·cases e
  obtain ⟨x,rfl,f⟩:=j.one
  obtain ⟨a,vs,rfl,i,l,_⟩:=f.lst s
  exact bG call_len_seq ⟨a,vs,rfl,.inl (SqL.of i),by rw [l];exact g.atom s (.int _)⟩
 ·cases e
  obtain ⟨x,rfl,f⟩:=j.one
  obtain ⟨a,vs,rfl,i,r⟩:=f.tup
  exact bG call_len_seq ⟨a,vs,rfl,.inr (aa s i),by rw [r.length];exact g.atom s (.int _)⟩
 ·split at e
  ·rename_i c
   cases e
   simp only [decide_eq_true_eq] at c
   obtain ⟨x,rfl,f⟩:=j.one
   cases f.str
   exact bG call_len_str ⟨_,rfl,Nat.le_trans c aA,g.atom s (.int _)⟩
  ·cases e
 ·cases e
  obtain ⟨x,rfl,f⟩:=j.one
  cases f.int
  exact bG call_abs ⟨_,rfl,g.atom s (.int _)⟩
 ·cases e
  obtain ⟨x,y,rfl,f,v⟩:=j.two
  cases f.int;cases v.int
  exact bG (call_min2 q) ⟨_,_,rfl,g.atom s (.int _)⟩
 ·cases e
  obtain ⟨x,y,rfl,f,v⟩:=j.two
  cases f.int;cases v.int
  exact bG (call_max2 q) ⟨_,_,rfl,g.atom s (.int _)⟩
 ·split at e
  ·rename_i n ns h
   cases e
   obtain ⟨x,rfl,f⟩:=j.one
   obtain ⟨a,rfl,i⟩:=f.ints s h
   refine bG (cr_min q) ⟨a,n::ns,rfl,SqL.of i,by simp,fun m t u=>?_⟩
   obtain ⟨z,B⟩:=kZ ns n
   have:m=pP n ns:=Int.le_antisymm (u _ z) (B _ t)
   rw [this]
   exact g.atom s (.int _)
  ·cases e
 ·split at e
  ·rename_i n ns h
   cases e
   obtain ⟨x,rfl,f⟩:=j.one
   obtain ⟨a,vs,rfl,i,r⟩:=f.tup
   obtain ⟨rfl,_⟩:=r.ints h
   refine bG (yC q (by omega)) ⟨a,n,ns,rfl,aa s i,?_⟩
   rw [foldl_min]
   exact g.atom s (.int _)
  ·cases e
 ·split at e
  ·rename_i n ns h
   cases e
   obtain ⟨x,rfl,f⟩:=j.one
   obtain ⟨a,rfl,i⟩:=f.ints s h
   refine bG (cr_max q) ⟨a,n::ns,rfl,SqL.of i,by simp,fun m t u=>?_⟩
   obtain ⟨z,B⟩:=kI ns n
   have:m=pF n ns:=Int.le_antisymm (B _ t) (u _ z)
   rw [this]
   exact g.atom s (.int _)
  ·cases e
 ·exact absurd nb (by decide)
 ·split at e
  ·rename_i ns h
   cases e
   obtain ⟨x,rfl,f⟩:=j.one
   obtain ⟨a,rfl,i⟩:=f.ints s h
   exact bG (cr_sum q) ⟨a,ns,rfl,SqL.of i,g.atom s (.int _)⟩
  ·cases e
 ·split at e
  ·rename_i ns h
   cases e
   obtain ⟨x,rfl,f⟩:=j.one
   obtain ⟨a,vs,rfl,i,r⟩:=f.tup
   obtain ⟨rfl,_⟩:=r.ints h
   exact bG (xM q) ⟨a,ns,rfl,aa s i,g.atom s (.int _)⟩
  ·cases e
 ·cases e
  obtain ⟨x,rfl,f⟩:=j.one
  cases f.int
  exact bG call_int1 (.inl ⟨_,rfl,g.atom s (.int _)⟩)
 ·cases e
  obtain ⟨x,rfl,f⟩:=j.one
  cases f.bl
  exact bG call_int1 (.inr ⟨_,rfl,g.atom s (.int _)⟩)
 ·split at e
  ·rename_i c
   obtain ⟨x,rfl,f⟩:=j.one
   cases f.str
   rw [Option.map_eq_some_iff] at e
   obtain ⟨n,h,w⟩:=e
   subst w
   exact bG call_int_str ⟨_,n,rfl,h,of_decide_eq_true c,g.atom s (.int _)⟩
  ·cases e
 ·split at e
  ·rename_i c
   cases e
   simp only [decide_eq_true_eq] at c
   obtain ⟨x,rfl,f⟩:=j.one
   cases f.str
   exact bG (hU q) ⟨_,rfl,Nat.le_trans c aA,fun p k=>g.list s k (vJ _)⟩
  ·cases e
 ·rename_i d0 _
  obtain ⟨x,rfl,f⟩:=j.one
  rw [Option.map_eq_some_iff] at e
  obtain ⟨ys,h,w⟩:=e
  subst w
  cases d0 with
  | tup zs =>
   simp only [items,Option.some.injEq] at h
   subst h
   obtain ⟨a,vs,rfl,i,r⟩:=f.tup
   exact bG call_list_of ⟨a,vs,rfl,.inr (aa s i),fun p k=>g.list s k r⟩
  | lst o zs =>
   simp only [items] at h
   split at h
   ·rename_i c
    cases h
    obtain ⟨a,vs,rfl,i,l,r⟩:=f.lst s
    exact bG call_list_of ⟨a,vs,rfl,.inl (SqL.of i),fun p k=>g.list s k (r c)⟩
   ·cases h
  | _=>simp [items] at h
 ·rename_i d0
  obtain ⟨x,rfl,f⟩:=j.one
  rw [Option.map_eq_some_iff] at e
  obtain ⟨ys,h,w⟩:=e
  subst w
  cases d0 with
  | tup zs =>
   simp only [items,Option.some.injEq] at h
   subst h
   obtain ⟨a,vs,rfl,i,r⟩:=f.tup
   exact bG call_tuple_of ⟨a,vs,rfl,.inr ⟨aa s i,g.atom s (.tup i r)⟩⟩
  | lst o zs =>
   simp only [items] at h
   split at h
   ·rename_i c
    cases h
    obtain ⟨a,vs,rfl,i,l,r⟩:=f.lst s
    exact bG call_tuple_of ⟨a,vs,rfl,.inl ⟨SqL.of i,fun p k=>g.tuple s k (r c)⟩⟩
   ·cases h
  | _=>simp [items] at h
 ·split at e
  ·rename_i ns h
   cases e
   obtain ⟨x,rfl,f⟩:=j.one
   obtain ⟨a,rfl,i⟩:=f.ints s h
   refine bG cr_sortedI ⟨a,ns,rfl,SqL.of i,fun C p t u k=>?_⟩
   rw [iU t u]
   exact g.list s k (dz _)
  ·split at e
   ·rename_i ps ep
    cases e
    obtain ⟨x,rfl,f⟩:=j.one
    obtain ⟨a,vs,rfl,i,_,r⟩:=f.lst s
    cases oG ep
    obtain ⟨ts,rfl,k2,k3⟩:=wG (r (wH ps))
    refine bG rn ⟨a,ts,rfl,SqL.of i,fun p k=>aa s (k3 p k),fun G p pm I k=>?_⟩
    refine g.list s k (wt (fun x f=>k3 x (pm.mem_iff.mp f)) (uT ?_ (List.pairwise_map.mpr I)))
    rw [← k2]
    exact pm.map Prod.snd
   ·split at e
    ·rename_i ss es
     split at e
     ·rename_i c
      cases e
      obtain ⟨x,rfl,f⟩:=j.one
      obtain ⟨a,vs,rfl,i,ln,r⟩:=f.lst s
      obtain rfl:=gN (r (dt es)) es
      have c:=Nat.ble_eq.mp c
      refine bG cr_sortedS ⟨a,ss,rfl,SqL.of i,by rw [List.length_map] at ln;omega,fun ys p pm J k=>?_⟩
      rw [Sb.mZ pm J]
      exact g.list s k (jN _)
     ·cases e
    ·cases e
 ·split at e
  ·rename_i ns h
   cases e
   obtain ⟨x,rfl,f⟩:=j.one
   obtain ⟨a,vs,rfl,i,r⟩:=f.tup
   obtain ⟨rfl,_⟩:=r.ints h
   refine bG pe ⟨a,ns,rfl,aa s i,fun C p t u k=>?_⟩
   rw [iU t u]
   exact g.list s k (dz _)
  ·cases e
 ·split at e
  ·rename_i ns h
   cases e
   obtain ⟨x,rfl,f⟩:=j.one
   obtain ⟨a,vs,rfl,i,l,r⟩:=f.lst s
   obtain ⟨rfl,_⟩:=(r (fu h)).bools h
   exact bG (cr_all q) ⟨a,ns,rfl,SqL.of i,g.atom s (.bl _)⟩
  ·cases e
 ·split at e
  ·rename_i ns h
   cases e
   obtain ⟨x,rfl,f⟩:=j.one
   obtain ⟨a,vs,rfl,i,l,r⟩:=f.lst s
   obtain ⟨rfl,_⟩:=(r (fu h)).bools h
   exact bG (cr_any q) ⟨a,ns,rfl,SqL.of i,g.atom s (.bl _)⟩
  ·cases e
 ·split at e
  ·rename_i c
   cases e
   simp only [Bool.and_eq_true,decide_eq_true_eq] at c
   obtain ⟨x,y,rfl,f,v⟩:=j.two
   cases f.int;cases v.int
   exact bG call_divmod ⟨_,_,rfl,⟨c.1,c.2⟩,fun p k=>g.tuple s k (.cons (.int _) (.cons (.int _) .nil))⟩
  ·cases e
 iterate 6(·exact absurd nb (by decide))
 ·split at e
  ·rename_i c
   cases e
   obtain ⟨x,rfl,f⟩:=j.one
   cases f.int
   exact bG call_str_int ⟨_,rfl,hE c,g.atom s (.str _)⟩
  ·cases e
 ·cases e
  obtain ⟨x,rfl,f⟩:=j.one
  cases f.str
  exact bG SkE.call_str_str ⟨_,rfl,g.atom s (.str _)⟩
 iterate 3(·exact absurd nb (by simp [Bi.pl]))
 ·cases e
end
end Ev
namespace Ev
open PySem PySem.Spec PyProof.Rows L2
section
variable {X:Cx} {F H:Hp}
def bM (X:Cx):List Expr→TA
 | []=>fun _ H Q=>Q [] H
 | e::es=>fun σ H Q=>tW X e σ H fun x H1=>bM X es σ H1 fun xs H2=>Q (x::xs) H2
def noStar:List Expr→Bool
 | []=>true
 | .Starred _ _::_=>false
 | _::es=>noStar es
theorem ah {e:Expr} {es:List Expr} (env:Env) (h:noStar (e::es)=true):starEach (e::es) env=(false,eval e env)::starEach es env:=by
 cases e<;>first | rfl | simp [noStar] at h
theorem aj {e:Expr} {es:List Expr} (h:noStar (e::es)=true):noStar es=true:=by
 cases e<;>first | exact h | simp [noStar] at h
theorem av:∀ {es:List Expr},noStar es=true→PA X es (bM X es)
 | [],_=>pa_nil
 | e::es,h=>pa_cons aq (av (aj h)) (ah X.env h)
theorem ao:∀ {es:List Expr} (env:Env) (pos:Pos),noStar es=true→(backTo pos (starEach es env)).any (·.1)=false
 | [],_,_,_=>rfl
 | e::es,env,pos,h=>by
  rw [ah env h]
  have ih:=ao (es:=es) env pos (aj h)
  unfold backTo at ih ⊢
  rw [List.map_cons,List.any_cons,ih]<;>rfl
theorem AD (n:Nat) (i:Int):L2.ixN n i=Ev.ixN n i:=rfl
theorem rN {α:Type} {xs:List α} {k:Int} {j:Nat} {v:α} (h:Ev.ixN xs.length k=some j) (g:xs[j]?=some v):atI xs k=some v:=by
 unfold atI
 rw [AD,h]
 exact g
theorem Vw.kid {K:Frag} {x:V} {o:Bool} {xs:List D} {j:Nat} {y:D} (s:Same F H) (h:Vw K F H x (.lst o xs)) (g:xs[j]?=some y):∃ a vs v,x=.ref a∧H a=some (.lst vs)∧vs.length=xs.length∧vs[j]?=some v∧Vw K F H v y:=by
 obtain ⟨W,h⟩:=h
 cases h with
 | frz r =>
  cases r with
  | lst h l =>
   obtain ⟨v,g1,g2⟩:=l.get g
   exact ⟨_,_,v,rfl,s _ _ h,l.length,g1,No,.frz g2⟩
 | own c d e b f i =>
  obtain ⟨v,U,g1,g2,_⟩:=b.get g
  exact ⟨_,_,v,rfl,c,b.length,g1,U,g2⟩
theorem pN {x:V} {a:Addr} {vs:List V} {k:Int} {j:Nat} {v:V} {Q:VK} (h:H a=some (.lst vs)) (e:Ev.ixN vs.length k=some j) (g:vs[j]?=some v) (q:Q v H):rIx X.K (.ref a) (.int k) H Q :=
 .inl ⟨a,vs,k,v,rfl,rfl,SqL.of h,rN e g,q⟩
theorem pT {x:V} {a:Addr} {vs:List V} {k:Int} {j:Nat} {v:V} {Q:VK} (h:SqT X.K H a vs) (e:Ev.ixN vs.length k=some j) (g:vs[j]?=some v) (q:Q v H):rIx X.K (.ref a) (.int k) H Q :=
 .inr (.inl ⟨a,vs,k,v,rfl,rfl,h,rN e g,q⟩)
def isSlice:Expr→Bool
 | .Slice _ _ _ _=>true
 | _=>false
theorem lU {b:Expr} (h:isSlice b=false):PlainIx b:=fun o i=>by
 cases b<;>first | rfl | simp [isSlice] at h
theorem wO (n d:Nat) (o:Option Int):HT.sIx n d o=Ev.sIx n d o:=by
 cases o with
 | none=>rfl
 | some v =>
  show (if v<0 then (v+(n:Int)).toNat else min v.toNat n)=(if v<0 then max (v+(n:Int)) 0 else min v (n:Int)).toNat
  split<;>omega
theorem tL {K:Frag} {vs:List V} {ds:List D} (r:RpL K F vs ds) (lo hi:Option Int):RpL K F (cutV vs lo hi) (cutD ds lo hi):=by
 unfold cutV cutD
 rw [r.length,wO,wO]
 exact (r.drop _).take _
def Cd (K:Frag):V→Option Int→Option Int→Hp→VK→Prop:=fun x lo hi H Q=>(rSlL K x lo hi H Q∨L2.rSlA K x lo hi H Q)∨rSlS x lo hi H Q
theorem ng:SlR X (Cd X.K):=(sl_list.or sl_tupA).or sl_str
theorem rL {vs:List V} {lo hi:Option Int} (h:HT.sIx vs.length 0 lo=0∧HT.sIx vs.length vs.length hi=vs.length):cutV vs lo hi=vs:=by
 unfold cutV
 rw [h.1,h.2]
 simp
theorem BO {d r:D} {x:V} {lo hi:Option Int} {Q:VK} (s:Same F H) (e:slD d lo hi=some r) (h:Vw X.K F H x d) (g:Goes X F H r Q):Cd X.K x lo hi H Q:=by
 unfold slD at e
 split at e
 ·split at e
  ·rename_i c
   cases e
   obtain ⟨a,vs,rfl,b,l,q⟩:=h.lst s
   exact .inl (.inl ⟨a,vs,rfl,SqL.of b,fun p f=>g.list s f (tL (q c) lo hi)⟩)
  ·cases e
 ·cases e
  obtain ⟨a,vs,rfl,b,q⟩:=h.tup
  have i:=tL q lo hi
  refine .inl (.inr ⟨a,vs,rfl,aa s b,fun w=>?_,fun _ p f=>g.tuple s f i⟩)
  rw [rL w] at i
  exact g.atom s (.tup b i)
 ·cases e
  obtain ⟨a,rfl,b⟩:=h.scr
  exact .inl (.inl ⟨a,_,rfl,s.seq b,fun p f=>g.list s f (tL (dz _) lo hi)⟩)
 ·split at e
  ·rename_i c
   cases e
   cases h.str
   exact .inr ⟨_,rfl,Nat.le_trans (of_decide_eq_true c) aA,g.atom s (.str _)⟩
  ·cases e
 ·cases e
def tyN:Ty→String
 | .bool=>"bool" | .int=>"int" | .str=>"str" | .list=>"list" | .tuple=>"tuple" | .dict=>"dict"
def pC:D→String
 | .non=>"NoneType" | .bl _=>"bool" | .int _=>"int" | .str _=>"str" | .tup _=>"tuple" | .lst _ _=>"list" | .scr _=>"list" | .obj _ _=>"object" | .exc _ _ _=>"object" | .mob _ _=>"object" | .dct _ _ _=>"dict" | .cls _=>"object" | .tpn _=>"object"
theorem yE:∀ t:Ty,kitB "NoneType" (tyN t)=some (hG .non t)∧kitB "bool" (tyN t)=some (hG (.bl true) t)∧kitB "int" (tyN t)=some (hG (.int 0) t) ∧
  kitB "str" (tyN t)=some (hG (.str Str.empty) t)∧kitB "tuple" (tyN t)=some (hG (.tup []) t)∧kitB "list" (tyN t)=some (hG (.lst true []) t)
 | .bool=>by decide +kernel
 | .int=>by decide +kernel
 | .str=>by decide +kernel
 | .list=>by decide +kernel
 | .tuple=>by decide +kernel
 | .dict=>by decide +kernel
theorem td (K:Frag) (d:D) (no:isObj d=false) (t:Ty):PySem.W.kitOne K (.type (pC d)) (.type (tyN t))=some (hG d t):=by
 obtain ⟨c,e,f,g,h,a⟩:=yE t
 cases d with
 | non=>exact kit_ty c
 | bl b=>exact (kit_ty e).trans (by cases t<;>rfl)
 | int b=>exact (kit_ty f).trans (by cases t<;>rfl)
 | str b=>exact (kit_ty g).trans (by cases t<;>rfl)
 | tup b=>exact (kit_ty h).trans (by cases t<;>rfl)
 | lst o b=>exact (kit_ty a).trans (by cases t<;>rfl)
 | scr b=>exact (kit_ty a).trans (by cases t<;>rfl)
 | obj cn xs=>simp [isObj] at no
 | exc cn nms xs=>simp [isObj] at no
 | mob cn xs=>simp [isObj] at no
 | dct o ks xs=>simp [isObj] at no
 | cls cn=>simp [isObj] at no
 | tpn xs=>simp [isObj] at no
theorem tJ (K:Frag) (d:D) (no:isObj d=false):∀ ts:List Ty,PySem.W.kitAny K (.type (pC d)) (ts.map fun t=>Value.type (tyN t))=some (ts.any (hG d))
 | []=>rfl
 | t::ts=>by
  rw [List.map_cons,List.any_cons]
  unfold PySem.W.kitAny
  rw [td K d no t]
  cases hG d t with
  | true=>rfl
  | false=>exact tJ K d no ts
theorem AL {K:Frag} {x:V} {d:D} (s:Same F H) (h:Vw K F H x d) (no:isObj d=false) (f:∀ ds,d=.tup ds→∃ a vs,x=.ref a∧(H a=some (.tup vs)∨(∃ o,H a=some (.frz o (.tup vs)))∨∃ o,K.lookup a=some o∧o.cls=.type "tuple")):TyX K H x (.type (pC d)):=by
 cases d with
 | non=>cases h.non;exact .base .non
 | bl b=>cases h.bl;exact .base (.bl b)
 | int b=>cases h.int;exact .base (.int b)
 | str b=>cases h.str;exact .base (.str b)
 | lst o ds =>
  obtain ⟨a,vs,rfl,c,_⟩:=h.lst s
  exact .base (.lst c)
 | tup ds =>
  obtain ⟨a,vs,rfl,q⟩:=f ds rfl
  rcases q with q | ⟨o,q⟩ | ⟨o,e,g⟩
  ·exact .base (.tup q)
  ·exact .fTuple q
  ·exact .kTuple e g
 | obj cn xs=>simp [isObj] at no
 | exc cn nms xs=>simp [isObj] at no
 | mob cn xs=>simp [isObj] at no
 | dct o ks xs=>simp [isObj] at no
 | cls cn=>simp [isObj] at no
 | tpn xs=>simp [isObj] at no
 | scr ns =>
  obtain ⟨a,rfl,c⟩:=h.scr
  rcases c with (c | ⟨o,c⟩) | ⟨o,its,n,c,i,_⟩
  ·exact .base (.lst (s _ _ c))
  ·exact .base (.frz (s _ _ c))
  ·exact .kList c i
theorem xw {K:Frag} {x:V} {d:D} (s:Same F H) (h:Vw K F H x d) (no:isObj d=false):TyX K H x (.type (pC d)):=by
 refine AL s h no fun ds e=>?_
 subst e
 obtain ⟨a,vs,rfl,b,_⟩:=h.tup
 rcases b with (b | ⟨o,b⟩) | ⟨o,its,n,b,c,_⟩
 ·exact ⟨a,vs,rfl,.inl (s _ _ b)⟩
 ·exact ⟨a,vs,rfl,.inr (.inl ⟨o,s _ _ b⟩)⟩
 ·exact ⟨a,vs,rfl,.inr (.inr ⟨o,b,c⟩)⟩
theorem kK:∀ ts:List Ty,Paired ClsV (ts.map fun t=>V.ty (tyN t)) (ts.map fun t=>Value.type (tyN t))
 | []=>.nil
 | t::ts=>.cons (.ty _) (kK ts)
theorem yz {x:V} {d:D} {t:Ty} {Q:VK} (s:Same F H) (h:Vw X.K F H x d) (no:isObj d=false) (q:Q (.bl (hG d t)) H):cW X (.builtin "isinstance") [x,.ty (tyN t)] H Q :=
 bG call_isi ⟨x,.ty (tyN t),_,_,_,rfl,.ty _,xw s h no,td X.K d no t,q⟩
theorem vE {x:V} {d:D} {ts:List Ty} {p:Addr} {Q:VK} (s:Same F H) (h:Vw X.K F H x d) (no:isObj d=false) (a:H p=some (.tup (ts.map fun t=>V.ty (tyN t)))) (q:Q (.bl (ts.any (hG d))) H):cW X (.builtin "isinstance") [x,.ref p] H Q :=
 bG call_isiT ⟨x,p,_,_,_,_,rfl,a,kK ts,xw s h no,tJ X.K d no ts,q⟩
theorem iD {K:Frag} {x:V} {d:D} {b:Bool} (s:Same F H) (h:Vw K F H x d) (e:gH d=some b):TruV K x H b:=by
 cases d with
 | non=>cases h.non;cases e;exact rfl
 | bl i=>cases h.bl;cases e;exact rfl
 | int i=>cases h.int;cases e;exact rfl
 | str i =>
  cases h.str
  simp only [gH] at e
  split at e
  ·rename_i c
   cases e
   simp only [decide_eq_true_eq] at c
   exact ⟨Nat.le_trans c aA,rfl⟩
  ·cases e
 | lst o ds =>
  obtain ⟨a,vs,rfl,f,l,_⟩:=h.lst s
  cases e
  refine .inl ⟨vs,SqL.of f,?_⟩
  cases vs<;>cases ds<;>simp at l ⊢
 | tup ds =>
  obtain ⟨a,vs,rfl,f,r⟩:=h.tup
  cases e
  refine .inr (.inl ⟨vs,aa s f,?_⟩)
  cases r<;>rfl
 | scr ns=>simp [gH] at e
 | obj cn xs=>simp [gH] at e
 | exc cn nms xs=>simp [gH] at e
 | mob cn xs=>simp [gH] at e
 | dct o ks xs=>simp [gH] at e
 | cls cn=>simp [gH] at e
 | tpn xs=>simp [gH] at e
def meN:Me→String
 | .append=>"list.append" | .pop=>"list.pop" | .popAt=>"list.pop" | .extend=>"list.extend" | .remove=>"list.remove" | .index=>"list.index" | .reverse=>"list.reverse"
def mW (X:Cx) (id:String):V→List V→Hp→VK→Prop:=fun x xs H Q=>∀ pins s σ v us,Inv X pins σ H s→RelV x v→Vals xs us→wpAny (model X.prog X.w) X.A (call (.builtin id) (v::us)) (EP X pins σ Q) X.xe s
theorem Bc {id:String}:MtR X id (mW X id):=fun pins s σ H x xs v us Q I a rs q=>q pins s σ v us I a rs
theorem oW {id:String} {r:V→List V→Hp→VK→Prop} {x:V} {xs:List V} {Q:VK} (h:MtM X id r) (q:r x xs H Q):mW X id x xs H Q:=fun pins s σ v us I a rs=>h pins s σ H x xs v us Q I a rs q
theorem OwL.append {K:Frag}:∀ {vs ws:List V} {ds es:List D} {W U Z:Fp},OwL K F H vs ds W→OwL K F H ws es U→Dj W U→(∀ b,W b→Z b)→(∀ b,U b→Z b)→OwL K F H (vs++ws) (ds++es) Z
 | _,_,_,_,_,_,_,.nil,q,_,_,s=>q.weak s
 | _,_,_,_,W,U,Z,.cons (W1:=W1) (W2:=W2) d e f a c,q,dj,s1,s2=>by
  refine .cons (W1:=W1) (W2:=Un2 W2 U) d (OwL.append e q (fun b z=>dj b (c b z)) (fun b z=>.inl z) fun b z=>.inr z) (fun b z t=>?_) (fun b z=>s1 b (a b z)) fun b z=>?_
  ·rcases t with t | t
   ·exact f b z t
   ·exact dj b (a b z) t
  ·rcases z with z | z
   ·exact s1 b (c b z)
   ·exact s2 b z
theorem OwL.erase {K:Frag}:∀ {vs:List V} {ds:List D} {W:Fp} (k:Nat),OwL K F H vs ds W→OwL K F H (vs.eraseIdx k) (ds.eraseIdx k) W
 | _,_,_,_,.nil=>by simpa using OwL.nil
 | _,_,_,0,.cons c a d e b=>by simpa using a.weak b
 | _,_,_,k+1,.cons c a d e b=>by simpa using OwL.cons c (OwL.erase k a) d e b
theorem cM {α:Type}:∀ l:List α,l.dropLast=l.eraseIdx (l.length-1)
 | []=>rfl
 | [x]=>rfl
 | x::y::l=>by
  have:=cM (y::l)
  simp only [List.dropLast_cons₂,List.length_cons] at this ⊢
  rw [this]
  rfl
theorem bO {i:Int} (h:aX i=true):-(2 ^ 62)≤i∧i<2 ^ 62:=by
 rw [iR] at h
 simp only [Bool.and_eq_true,decide_eq_true_eq] at h
 omega
theorem Br {n:Nat} {i:Int} {k:Nat} (h:Ev.ixN n i=some k):seqIndex? i n=some k∧k<n:=by
 have:=ixN_seq (show L2.ixN n i=some k from h)
 exact ⟨this.1,this.2.1⟩
theorem gY (i:Int):∀ {ns:List Int} {j:Nat},xu i ns=some j→ns[j]?=some i∧∀ m:Nat,m<j→ns[m]?≠some i
 | [],j,e=>by simp [xu] at e
 | x::xs,j,e=>by
  unfold xu at e
  split at e
  ·rename_i c
   cases e
   exact ⟨by simp [c],fun m h=>absurd h (Nat.not_lt_zero m)⟩
  ·rename_i c
   split at e
   ·rename_i k a
    cases e
    obtain ⟨b,d⟩:=gY i a
    refine ⟨by simpa using b,fun m h=>?_⟩
    cases m with
    | zero=>simpa using c
    | succ m=>simpa using d m (by omega)
   ·cases e
theorem OwL.reverse {K:Frag} {F H:Hp}:∀ {vs:List V} {ds:List D} {U:Fp},OwL K F H vs ds U→OwL K F H vs.reverse ds.reverse U
 | _,_,_,.nil=>.nil
 | _,_,_,.cons a c d e f=>by
  rw [List.reverse_cons,List.reverse_cons]
  exact OwL.append c.reverse (.cons (W2:=No) a .nil (fun _ _ q=>q) (fun _ q=>q) fun _ q=>q.elim) (fun b q r=>d b r q) f e
theorem meth_ok {m:Me} {xs ds:List D} {r d':D} {a:Addr} {vs ws:List V} {U Wt:Fp} {Q:VK} (s:Same F H) (e:lR m (.lst true xs) ds=some (r,d')) (ha:H a=some (.lst vs)) (o:OwL X.K F H vs xs U) (t:OwL X.K F H ws ds Wt) (dj:Dj U Wt)
  (g:∀ n vs' ds',d'=.lst true ds'→Rp X.K F n r→OwL X.K F H vs' ds' (Un2 U Wt)→Q n (upd H a (.lst vs'))):mW X (meN m) (.ref a) ws H Q:=by
 have l:=o.length
 unfold lR at e
 split at e
 ·rename_i d d0 h0
  split at e
  ·rename_i c
   cases e
   cases h0
   simp only [decide_eq_true_eq] at c
   cases t with
   | cons t1 t2 t3 f h =>
    cases t2
    have:=aA
    refine oW mt_append ⟨a,vs,_,rfl,rfl,ha,by omega,g .non _ _ rfl .non (o.append (.cons t1 .nil t3 f h) dj (fun b z=>.inl z) fun b z=>.inr z)⟩
  ·cases e
 ·rename_i d h0
  split at e
  ·rename_i y p u
   split at e
   ·rename_i c
    cases e
    cases h0
    cases t
    have ex:xs=p.reverse++[r]:=by
     have:=congrArg List.reverse u
     simpa using this
    have w:xs[xs.length-1]?=some r:=by rw [ex];simp
    obtain ⟨v,x,g1,o1,_⟩:=o.get w
    have hd:p.reverse=xs.eraseIdx (xs.length-1):=by rw [← cM,ex,List.dropLast_concat]
    refine oW mt_pop ⟨a,vs,v,rfl,rfl,ha,by rw [l];exact g1,?_⟩
    rw [cM]
    refine g v _ _ rfl (o1.fz c) ?_
    rw [hd,l]
    exact (o.erase _).weak fun b z=>.inl z
   ·cases e
  ·cases e
 ·rename_i d i h0
  split at e
  ·rename_i c
   split at e
   ·rename_i k B
    split at e
    ·rename_i y C
     split at e
     ·rename_i cy
      cases e
      cases h0
      obtain ⟨v,x,g1,o1,_⟩:=o.get C
      cases t with
      | cons t1 t2 t3 f h =>
       cases t2
       have:=(Vw.int ⟨_,t1⟩)
       subst this
       obtain ⟨M,N⟩:=bO c
       refine oW mt_popAt ⟨a,vs,i,k,v,rfl,rfl,ha,by omega,by omega,by rw [l];exact (Br B).1,g1,g v _ _ rfl (o1.fz cy) ((o.erase k).weak fun b z=>.inl z)⟩
     ·cases e
    ·cases e
   ·cases e
  ·cases e
 ·rename_i d o2 ys h0
  split at e
  ·rename_i c
   cases e
   cases h0
   simp only [Bool.and_eq_true,decide_eq_true_eq] at c
   cases t with
   | cons t1 t2 t3 f h =>
    cases t2
    obtain ⟨b,zs,rfl,G,O,rz⟩:=Vw.lst s ⟨_,t1⟩
    have:=aA
    refine oW mt_extend ⟨a,b,vs,zs,rfl,rfl,ha,G,by omega,g .non _ _ rfl .non (o.append (.of (W:=No) (rz c.1)) (fun _ _ q=>q.elim) (fun b z=>.inl z) fun b z=>z.elim)⟩
  ·cases e
 ·rename_i d i h0
  split at e
  ·rename_i ns en
   split at e
   ·rename_i j I
    cases e
    cases h0
    obtain ⟨rfl,P⟩:=(o.fz (cR en)).ints en
    cases t with
    | cons t1 t2 t3 f h =>
     cases t2
     have:=(Vw.int ⟨_,t1⟩)
     subst this
     obtain ⟨J,L⟩:=gY i I
     exact oW mt_remove ⟨a,ns,i,j,rfl,rfl,ha,J,L,g .non _ _ rfl .non (.of (dz _))⟩
   ·cases e
  ·cases e
 ·rename_i d h0
  cases e
  cases h0
  cases t
  exact oW mt_reverse ⟨a,vs,rfl,rfl,ha,g .non _ _ rfl .non (o.reverse.weak fun b z=>.inl z)⟩
 ·cases e
end
end Ev
namespace EvTE
open PySem PySem.Spec PyProof.Rows L2
open Sem (wp)
open AutoSeq1 (wpAny_loadPart')
theorem meets_tup (tt:Addr) (ys:Array Value) (ob:Obj) :
  Meets (Builtin.«enumerate.__new__» ⟨[.type "enumerate",.ref tt],[]⟩) (fun _ R s=>s.heap.IsTuple tt ys ∧
   R (.ok (.ret (.ref (s.heap.push { cls:=.type "tuple_iterator",data:=.fields #[.ref tt,.int 0 0] }).objs.size)))
    { s with heap:=(s.heap.push { cls:=.type "tuple_iterator",data:=.fields #[.ref tt,.int 0 0] }).push { cls:=.type "enumerate",data:=.fields #[.none,.bool false,.ref s.heap.objs.size,rawInt 0,.none,.none] } }) :=
 .of_wp fun prog w A R st h=>by
  obtain ⟨f,gg,dd,tok,os⟩:=st
  obtain ⟨d,h⟩:=h
  have e:=sub_enumerate
  have a:Heap.IsTuple (Shared.heap ⟨f,gg,dd,tok,os⟩) tt ys:=d
  obtain ⟨o,b,_⟩:=id d
  wp_walk using wpAny_loadPart' b
  refine wpAny_stack_any fun k=>wpAny_pure ?_
  split
  ·rename_i c _ _ _ _ _
   cases (c==Value.type "enumerate")
   ·wp_walk using wpAny_loadPart' b,wpAny_pyIter_tuple a
    exact ⟨_,rfl,h⟩
   ·wp_walk using wpAny_loadPart' b,wpAny_pyIter_tuple a
    exact ⟨_,rfl,h⟩
  ·wp_walk using wpAny_loadPart' b,wpAny_pyIter_tuple a
   exact ⟨_,rfl,h⟩
section
variable {prog:Program} {w:World} {A:Around} {E:Value→Shared→Prop} {s:Shared}
theorem jK {tt:Addr} {ys:Array Value} {Q:Value→Shared→Prop} (c:s.heap.IsTuple tt ys)
  (h:∀ h',IsEnum h' (s.heap.objs.size+1) s.heap.objs.size 0 .none→h'.IsTupleIter s.heap.objs.size tt 0→(∀ b o,s.heap.get? b=some o→h'.get? b=some o)→Q (.ref (s.heap.objs.size+1)) { s with heap:=h' }) :
  wpAny (model prog w) A (call (.type "enumerate") [.ref tt]) Q E s:=by
 obtain ⟨ob,d,_⟩:=id c
 refine callType_new F.called_enumerate (by decide) (F.typeCall_enumerate_1 _) (F.newCall_enumerate_1 _) (fun obj=>F.args_object_init_2 obj _) F.entry_enumerate_new (meets_tup tt ys ob) ⟨c,?_⟩
 have a:(s.heap.push { cls:=.type "tuple_iterator",data:=.fields #[.ref tt,.int 0 0] }).objs.size=s.heap.objs.size+1:=Heap.size_push ..
 show _∧_
 rw [a]
 have top:IsEnum ((s.heap.push { cls:=.type "tuple_iterator",data:=.fields #[.ref tt,.int 0 0] }).push { cls:=.type "enumerate",data:=.fields #[.none,.bool false,.ref s.heap.objs.size,rawInt 0,.none,.none] }) (s.heap.objs.size+1) s.heap.objs.size 0 .none:=by
  have q:=Heap.get?_push_size (s.heap.push { cls:=.type "tuple_iterator",data:=.fields #[.ref tt,.int 0 0] }) (o:={ cls:=.type "enumerate",data:=.fields #[.none,.bool false,.ref s.heap.objs.size,rawInt 0,.none,.none] }) rfl
  rw [a] at q
  exact q
 exact ⟨⟨_,top,rfl⟩,h _ top ⟨_,Heap.get?_push_of_some _ (Heap.get?_push_size _ rfl),rfl,rfl⟩ fun b o z=>Heap.get?_push_of_some _ (Heap.get?_push_of_some _ z)⟩
end
theorem kP {prog:Program} {w:World} {A:Around} {E:Value→Shared→Prop} {s:Shared} {e it tt:Addr} {i:Nat} {ys:Array Value} {old:Value} {Q:Option Value→Shared→Prop} (hd:A.handled=none)
  (en:IsEnum s.heap e it i old) (d:s.heap.IsTupleIter it tt i) (f:s.heap.IsTuple tt ys) (g:ys[i]?=none) (h:∀ h',Heap.ExtBut it s.heap h'→Q none { s with heap:=h' }):wpAny (model prog w) A (pyNext (.ref e)) Q E s:=by
 have ty:s.TypeIs (.ref e) "enumerate" := ⟨_,en,rfl⟩
 unfold pyNext
 refine wpAny_bind (wpAny_attempt (wpAny_callSpecial?_slot (name:=Str.ofString "__next__") ty F.slot_enumerate_next (wpAny_call_entry F.slot_enumerate_next ty F.entry_enumerate_next ?_ (F.args_enumerate_next_1 _))))
 show wpAny _ _ (field (.ref e) 2 >>= _) _ _ _
 refine wpAny_bind (wpAny_field en rfl (x:=.ref it) rfl ?_)
 refine wpAny_bind (wpAny_nextOf_tuple_end (by exact hd) d f g fun h' x ext ex=>?_)
 obtain ⟨ob,a,c⟩:=ex
 exact wpAny_bind (wpAny_isInstance (T:="StopIteration") (b:=true) ⟨ob,a,c⟩ isSubtype_stop (wpAny_pure (h _ ext)))
def CW (K:Frag) (a:Addr):It :=
 ⟨fun i H=>∃ (ws:List V) (y:V),SqT K H a ws∧ws[i]?=some y,fun i H v H'=>∃ T y,v=.ref T∧H T=none∧H'=upd H T (.tup [.int (i:Nat),y])∧∀ ws,SqT K H a ws→ws[i]?=some y,fun i H=>∃ ws:List V,SqT K H a ws∧ws.length≤i⟩
theorem pq {P:Program} {w:World} {K:Frag} {elts:List Expr} {kk:Nat} {m:Pos} (a e it:Addr) :
  Turn P w K (.Tuple elts kk m) (CW K a) [e,it] e (fun i h=>(∃ old,IsEnum h e it ((i:Nat):Int) old)∧h.IsTupleIter it a i∧e≠it) where
 mem:=by simp
 obj:=fun i h st b d=>by
  obtain ⟨⟨old,en⟩,⟨o,F,B,hd⟩,_⟩:=st
  have:b=e∨b=it:=by simpa using d
  rcases this with z | z
  ·subst z;exact ⟨_,en,fun v q=>nomatch q⟩
  ·subst z;exact ⟨o,F,fun v q=>by rw [hd] at q;cases q⟩
 keep:=fun i h h' st k=>let ⟨⟨old,en⟩,g,ne⟩:=st;⟨⟨old,k e (by simp) _ en⟩,g.at fun o q=>k it (by simp) o q,ne⟩
 item:=by
  intro X G hw J B i pins s σ H E I hf st hg
  subst G hw J
  obtain ⟨⟨old,en⟩,g,ne⟩:=st
  obtain ⟨ws,y,C,hy⟩:=hg
  obtain ⟨its,L,p,M⟩:=I.tuple C
  obtain ⟨u,hu,ru⟩:=L.get hy
  have f:e<s.heap.objs.size:=Heap.lt_size en
  have n:it<s.heap.objs.size:=by
   obtain ⟨_,q,_⟩:=g
   exact Heap.lt_size q
  have c:s.heap.IsTuple a its.toArray:=p
  have ai:a≠it:=by
   rintro rfl
   obtain ⟨o1,e1,c1,d1⟩:=g
   obtain ⟨o2,r,N⟩:=c
   rw [e1] at r
   cases r
   obtain ⟨_,n2,d2⟩:=N
   rw [d1] at d2
   cases d2
  have ae:e≠a:=by
   rintro rfl
   obtain ⟨o2,r,N⟩:=c
   have j:s.heap.get? e=some _:=en
   rw [j] at r
   cases r
   obtain ⟨_,n2,d2⟩:=N
   cases d2
  have O:i<its.toArray.size:=by
   have:=(List.getElem?_eq_some_iff.mp hu).1
   simpa using this
  refine wpAny_pyNext_enum_itemC (Draws.tuple (A:=X.A.in1) (by exact I.ok.hd B) it a ai its.toArray) en ⟨g,c⟩ O ne (by simp [ne,ae]) fun x h' tk R F V hT ab hk=>?_
  obtain ⟨Y,_⟩:=V
  have Z:x=u:=by
   rw [show its.toArray[i]?=some u by simpa using hu] at R
   exact (Option.some.inj R).symm
  subst Z
  refine ⟨_,rfl,wpAny_letOwnedTupleGo_enum (s:={ s with heap:=h',toks:=tk+1 }) F fun l j sb=>?_⟩
  have aa:l.get? s.heap.objs.size=some { cls:=.type "tuple",data:=.seq #[.int i tk,x] }:=(sb.2 _ (Nat.ne_of_gt f)).trans hT
  have new:ObjOk X.prog X.w (upd H s.heap.objs.size (.tup [.int (i:Nat),y])) l s.heap.objs.size (.tup [.int (i:Nat),y]) :=
   ⟨by show 2≤sizeLine;decide,[.int i tk,x],.cons ⟨_,rfl⟩ (.cons ru .nil),⟨_,aa,rfl,_,rfl⟩⟩
  have I1:Inv X pins σ (upd H s.heap.objs.size (.tup [.int (i:Nat),y])) { s with heap:=l,toks:=tk+1 } :=
   I.turnedNew (ch:=[e,it]) (fun b ob d q=>(sb.2 b (fun z=>d (by simp [z]))).trans (hk b ob (fun z=>d (by simp [z])) (fun z=>d (by simp [z])) q)) hf (Nat.le_refl _) new
  refine ⟨.ref s.heap.objs.size,_,I1,rfl,⟨_,y,rfl,I.hok.fresh (Nat.le_refl _),rfl,fun zs M=>by rw [I.tuple_inj M C];exact hy⟩,⟨⟨x,?_⟩,Y.at fun o q=>(sb.2 it (Ne.symm ne)).trans q,ne⟩,fun b d=>?_⟩
  ·rw [show ((i+1:Nat):Int)=(i:Int)+1 by omega]
   exact j
  ·have t:b<s.heap.objs.size:=by
    have:b=e∨b=it:=by simpa using d
    rcases this with z | z
    ·rw [z];exact f
    ·rw [z];exact n
   rw [upd_ne (Nat.ne_of_lt t)]
   exact (hf b d).1
 done:=by
  intro X G hw J B i pins s σ H E I hf st hg
  subst G hw J
  obtain ⟨⟨old,en⟩,g,ne⟩:=st
  obtain ⟨ws,C,R⟩:=hg
  obtain ⟨its,L,p,M⟩:=I.tuple C
  obtain ⟨f0,f1,f2,f3,f4,f5⟩:=hf it (by simp)
  have hl:=L.length
  have c:s.heap.IsTuple a its.toArray:=p
  exact kP (I.ok.hd B) en g c (by simp;omega) fun h' eb=>⟨rfl,I.turned (t':=s.toks) (fun b o d q=>eb b o d q) f0 f1 f3 f4 f5⟩
 self:=fun A i s Q E st h=>let ⟨⟨_,en⟩,_⟩:=st;wpAny_pyIter_enum en h
def A2 (K:Frag) (ta:TA):TI:=fun σ H R=>ta σ H fun vs H1=>∃ a,vs=[.ref a]∧((∃ xs,SqL K H1 a xs∧R (Ite K a) H1)∨∃ xs,SqT K H1 a xs∧R (CW K a) H1)
theorem ni {X:Cx} {e:Expr} {ta:TA} {p pos f:Pos} {elts:List Expr} {m:Nat} (hg:Gl X "enumerate") (hm:X.mg "enumerate" = none) (ha:PA X [e] ta) (hs:starEach [e] X.env=[(false,eval e X.env)]:=by rfl) :
  PI X (.Tuple elts m f) (.Call (.Name "enumerate" p) [e] [] pos) (A2 X.K ta):=by
 refine ⟨fun pins s σ H R I h=>?_⟩
 refine Call_ (ld_blt I hg hm boot_enumerate (PyProof.Rows.callWith_type1 (thn (ha.run pos pins s σ H _ I h) fun us s1 ⟨vs,H1,d,g,i⟩=>?_) hs rfl))
 obtain ⟨a,ev,i⟩:=i
 subst ev
 cases g with
 | cons rv0 rest =>
  cases rest
  cases rv0
  have c:∀ b∈[s1.heap.objs.size+1,s1.heap.objs.size],FpOk X pins H1 b:=fun b n=>by
   have hle:s1.heap.objs.size≤b:=by
    rcases (show b=s1.heap.objs.size+1∨b=s1.heap.objs.size by simpa using n) with z | z
    ·rw [z];exact Nat.le_add_right _ _
    ·rw [z];exact Nat.le_refl _
   exact d.fpOk hle (d.hok.fresh hle)
  rcases i with ⟨xs,j,q⟩ | ⟨xs,j,q⟩
  ·obtain ⟨its,o,pl,r⟩:=d.list j
   refine call_enumerate_list pl.isList fun h' en k t hk=>wpAny_pyIter_enum en ?_
   have l:Inv X pins σ H1 { s1 with heap:=h' }:=d.kept (t':=s1.toks) hk
   exact ⟨s1.heap.objs.size+1,[s1.heap.objs.size+1,s1.heap.objs.size],_,_,H1,rfl,l,turn_enum a (s1.heap.objs.size+1) s1.heap.objs.size,⟨⟨.none,en⟩,k,Nat.succ_ne_self _⟩,c,q⟩
  ·obtain ⟨its,o,pl,r⟩:=d.tuple j
   refine jK (show s1.heap.IsTuple a its.toArray from pl) fun h' en k hk=>wpAny_pyIter_enum en ?_
   have l:Inv X pins σ H1 { s1 with heap:=h' }:=d.kept (t':=s1.toks) hk
   exact ⟨s1.heap.objs.size+1,[s1.heap.objs.size+1,s1.heap.objs.size],_,_,H1,rfl,l,pq a (s1.heap.objs.size+1) s1.heap.objs.size,⟨⟨.none,en⟩,k,Nat.succ_ne_self _⟩,c,q⟩
end EvTE
namespace Ev.Z3
open PySem PySem.Spec PyProof.Rows L2
def It3 (K:Frag) (a b c:Addr):It :=
 ⟨fun i H=>∃ (xs ys zs:List V) (x y z:V),SqT K H a xs∧SqT K H b ys∧SqT K H c zs∧xs[i]?=some x∧ys[i]?=some y∧zs[i]?=some z,
  fun i H v H'=>∃ T x y z,v=.ref T∧H T=none∧H'=upd H T (.tup [x,y,z])∧(∀ xs,SqT K H a xs→xs[i]?=some x)∧(∀ ys,SqT K H b ys→ys[i]?=some y)∧∀ zs,SqT K H c zs→zs[i]?=some z,
  fun i H=>∃ xs ys zs:List V,SqT K H a xs∧SqT K H b ys∧SqT K H c zs∧i=min (min xs.length ys.length) zs.length⟩
theorem CZ {z TI q:Addr} {l:List Addr} (a:q∈z::l):q∈z::TI::l:=by
 rcases List.mem_cons.mp a with r | r
 ·rw [r];exact List.mem_cons_self ..
 ·exact List.mem_cons_of_mem _ (List.mem_cons_of_mem _ r)
theorem Es {P:Program} {w:World} {K:Frag} {elts:List Expr} {kk:Nat} {p:Pos} {a b c z TI TO i1 i2 n:Addr} (S:ZipSep3 z TI TO i1 i2 n [i1,a] [i2,b] [n,c]) (n1:a≠i1) (n2:b≠i2) (n3:c≠n) :
  Turn P w K (.Tuple elts kk p) (It3 K a b c) [z,TI,TO,i1,i2,n] z (fun i h=>IsZip h z TI TO .none∧IsTupOf3 h TI (.ref i1) (.ref i2) (.ref n)∧(∃ x y u,IsTupOf3 h TO x y u)∧h.IsTupleIter i1 a i∧h.IsTupleIter i2 b i∧h.IsTupleIter n c i) where
 mem:=by simp
 obj:=fun i h st q Y=>by
  obtain ⟨t,g,⟨x,y,u,j⟩,⟨o1,B,_,d1⟩,⟨o2,C,_,d2⟩,⟨o3,F,_,d3⟩⟩:=st
  have e':q=z∨q=TI∨q=TO∨q=i1∨q=i2∨q=n:=by simpa using Y
  rcases e' with r | r | r | r | r | r
  ·rw [r];exact ⟨_,t,fun v q=>nomatch q⟩
  ·rw [r];exact ⟨_,g,fun v q=>nomatch q⟩
  ·rw [r];exact ⟨_,j,fun v q=>nomatch q⟩
  ·rw [r];exact ⟨o1,B,fun v q=>by rw [d1] at q;cases q⟩
  ·rw [r];exact ⟨o2,C,fun v q=>by rw [d2] at q;cases q⟩
  ·rw [r];exact ⟨o3,F,fun v q=>by rw [d3] at q;cases q⟩
 keep:=fun i h h' st k=>by
  obtain ⟨t,g,⟨x,y,u,j⟩,O,R,V⟩:=st
  exact ⟨k z (by simp) _ t,k TI (by simp) _ g,⟨x,y,u,k TO (by simp) _ j⟩,O.at fun o q=>k i1 (by simp) o q,R.at fun o q=>k i2 (by simp) o q,V.at fun o q=>k n (by simp) o q⟩
 item:=by
  intro X hP hw hK Y i pins s σ H E I hf st hg
  subst hP hw hK
  obtain ⟨t,g,⟨x0,y0,u0,j⟩,O,R,V⟩:=st
  obtain ⟨xs,ys,zs,x,y,u,qx,qy,qz,hx,hy,hu⟩:=hg
  obtain ⟨d,G,p1,_⟩:=I.tuple qx
  obtain ⟨its2,J,p2,_⟩:=I.tuple qy
  obtain ⟨f,L,p3,_⟩:=I.tuple qz
  have M:X.A.in1.handled=none:=I.ok.hd Y
  have W:=WalksT.zipD3 S (Draws.tuple (prog:=X.prog) (w:=X.w) M i1 a n1 d.toArray) (Draws.tuple M i2 b n2 its2.toArray) (Draws.tuple M n c n3 f.toArray)
  obtain ⟨v1,g1,r1⟩:=G.get hx
  obtain ⟨v2,g2,r2⟩:=J.get hy
  obtain ⟨v3,g3,r3⟩:=L.get hu
  have l1:i<d.toArray.size:=by simpa using (List.getElem?_eq_some_iff.mp g1).1
  have l2:i<its2.toArray.size:=by simpa using (List.getElem?_eq_some_iff.mp g2).1
  have l3:i<f.toArray.size:=by simpa using (List.getElem?_eq_some_iff.mp g3).1
  refine W.item i s _ E (by omega) ⟨t,g,⟨x0,y0,u0,j⟩,⟨O,p1⟩,⟨R,p2⟩,⟨V,p3⟩⟩ fun T vals h' tk pt hT ad mid hk=>?_
  obtain ⟨w1,w2,w3,B,C,F,rfl⟩:=pt
  have B:d[i]?=some w1:=by simpa using B
  have C:its2[i]?=some w2:=by simpa using C
  have F:f[i]?=some w3:=by simpa using F
  rw [g1] at B;rw [g2] at C;rw [g3] at F
  cases B;cases C;cases F
  have ap:=W.apart _ _ _ mid
  refine ⟨_,rfl,W.go elts kk p i T { s with heap:=h',toks:=tk } _ E mid fun N ae Z=>?_⟩
  obtain ⟨ag,aa,ab,⟨j1,_⟩,⟨j2,_⟩,⟨j3,_⟩⟩:=ae
  have ac:N.IsTuple T #[v1,v2,v3]:=ad.at fun o q=>Z T o ap q
  have new:ObjOk X.prog X.w (upd H T (.tup [x,y,u])) N T (.tup [x,y,u]):=by
   refine ⟨by show 3≤sizeLine;decide,[v1,v2,v3],.cons r1 (.cons r2 (.cons r3 .nil)),?_⟩
   exact ac
  have I1:Inv X pins σ (upd H T (.tup [x,y,u])) { s with heap:=N,toks:=tk } :=
   I.turnedNew (t':=tk) (ch:=[z,TI,TO,i1,i2,n]) (fun q o hb e=>Z q o (fun m=>hb (CZ m)) (hk q o (fun m=>hb (CZ m)) e)) hf hT new
  refine ⟨.ref T,_,I1,rfl,⟨_,x,y,u,rfl,I.hok.fresh hT,rfl,fun l hl=>by rw [I.tuple_inj hl qx];exact hx,fun l hl=>by rw [I.tuple_inj hl qy];exact hy,fun l hl=>by rw [I.tuple_inj hl qz];exact hu⟩,⟨ag,aa,ab,j1,j2,j3⟩,fun q hq=>?_⟩
  have ai:q<s.heap.objs.size:=by
   have e':q=z∨q=TI∨q=TO∨q=i1∨q=i2∨q=n:=by simpa using hq
   rcases e' with r | r | r | r | r | r
   ·rw [r];exact Heap.lt_size t
   ·rw [r];exact Heap.lt_size g
   ·rw [r];exact Heap.lt_size j
   ·rw [r];obtain ⟨_,B,_⟩:=O;exact Heap.lt_size B
   ·rw [r];obtain ⟨_,C,_⟩:=R;exact Heap.lt_size C
   ·rw [r];obtain ⟨_,F,_⟩:=V;exact Heap.lt_size F
  rw [upd_ne (Nat.ne_of_lt (Nat.lt_of_lt_of_le ai hT))]
  exact (hf q hq).1
 done:=by
  intro X hP hw hK Y i pins s σ H E I hf st hg
  subst hP hw hK
  obtain ⟨t,g,⟨x0,y0,u0,j⟩,O,R,V⟩:=st
  obtain ⟨xs,ys,zs,qx,qy,qz,al⟩:=hg
  obtain ⟨d,G,p1,_⟩:=I.tuple qx
  obtain ⟨its2,J,p2,_⟩:=I.tuple qy
  obtain ⟨f,L,p3,_⟩:=I.tuple qz
  have l1:=G.length
  have l2:=J.length
  have l3:=L.length
  have M:X.A.in1.handled=none:=I.ok.hd Y
  have W:=WalksT.zipD3 S (Draws.tuple (prog:=X.prog) (w:=X.w) M i1 a n1 d.toArray) (Draws.tuple M i2 b n2 its2.toArray) (Draws.tuple M n c n3 f.toArray)
  have e:i=min (min d.toArray.size its2.toArray.size) f.toArray.size:=by simp only [List.size_toArray];omega
  subst e
  exact W.done s _ E ⟨t,g,⟨x0,y0,u0,j⟩,⟨O,p1⟩,⟨R,p2⟩,⟨V,p3⟩⟩ fun h' tk hk=>⟨rfl,I.turnedL (t':=tk) (ch:=[z,TI,TO,i1,i2,n]) (fun q o hb e=>hk q o (fun m=>hb (CZ m)) e) hf⟩
 self:=fun A i s Q E st h=>wpAny_pyIter_zip st.1 h
def Eu (K:Frag) (ta:TA):TI:=fun σ H R=>ta σ H fun vs H1=>∃ a b c xs ys zs,vs=[.ref a,.ref b,.ref c]∧SqT K H1 a xs∧SqT K H1 b ys∧SqT K H1 c zs∧R (It3 K a b c) H1
theorem xU {X:Cx} {e g i:Expr} {ta:TA} {p pos j:Pos} {elts:List Expr} {F:Nat} (hg:Gl X "zip") (hm:X.mg "zip" = none) (ha:PA X [e,g,i] ta)
  (hs:starEach [e,g,i] X.env=(false,eval e X.env)::starEach [g,i] X.env) (n:(backTo pos (starEach [g,i] X.env)).any (·.1)=false) :
  PI X (.Tuple elts F j) (.Call (.Name "zip" p) [e,g,i] [] pos) (Eu X.K ta):=by
 refine ⟨fun pins s σ H R I h=>?_⟩
 refine Call_ (ld_blt I hg hm PyProof.Rows.boot_zip (PyProof.Rows.callWith_type1 (thn (ha.run pos pins s σ H _ I h) fun us s1 ⟨vs,H1,f,r1,G⟩=>?_) hs n))
 obtain ⟨a,b,c,xs,ys,zs,ex,J,L,M,q⟩:=G
 subst ex
 cases r1 with
 | cons r k =>
 cases k with
 | cons O k =>
 cases k with
 | cons o k =>
 cases k
 cases r
 cases O
 cases o
 obtain ⟨l,P,p1,_⟩:=f.tuple J
 obtain ⟨its2,Q,p2,_⟩:=f.tuple L
 obtain ⟨m,V,p3,_⟩:=f.tuple M
 obtain ⟨o1,t,_⟩:=id p1
 obtain ⟨o2,u,_⟩:=id p2
 obtain ⟨o3,v,_⟩:=id p3
 have y:=Heap.lt_size t
 have z:=Heap.lt_size u
 have B:=Heap.lt_size v
 have S:=zip_sep3 (N:=s1.heap.objs.size) (fp1:=[a]) (fp2:=[b]) (fp3:=[c]) (by simpa using y) (by simpa using z) (by simpa using B)
 have d:∀ q,q∈[s1.heap.objs.size+5,s1.heap.objs.size+3,s1.heap.objs.size+4,s1.heap.objs.size,s1.heap.objs.size+1,s1.heap.objs.size+2]→FpOk X pins H1 q:=fun q Y=>by
  have hle:s1.heap.objs.size≤q:=by
   have Z:q=s1.heap.objs.size+5∨q=s1.heap.objs.size+3∨q=s1.heap.objs.size+4∨q=s1.heap.objs.size∨q=s1.heap.objs.size+1∨q=s1.heap.objs.size+2:=by simpa using Y
   rcases Z with r | r | r | r | r | r<;>rw [r]<;>first | exact Nat.le_add_right _ _ | exact Nat.le_refl _
  exact f.fpOk hle (f.hok.fresh hle)
 refine zip_begins3 (begins_tuple a l.toArray) (begins_tuple b its2.toArray) (begins_tuple c m.toArray) p1 p2 p3 fun h' C w x h1 h2 h3 aa hk=>wpAny_pyIter_zip C ?_
 have I2:Inv X pins σ H1 { s1 with heap:=h' }:=f.kept (t':=s1.toks) hk
 exact ⟨s1.heap.objs.size+5,[s1.heap.objs.size+5,s1.heap.objs.size+3,s1.heap.objs.size+4,s1.heap.objs.size,s1.heap.objs.size+1,s1.heap.objs.size+2],_,_,H1,rfl,I2,Es S (Nat.ne_of_lt y) (Nat.ne_of_lt (Nat.lt_of_lt_of_le z (Nat.le_add_right _ _))) (Nat.ne_of_lt (Nat.lt_of_lt_of_le B (Nat.le_add_right _ _))),
  ⟨C,w,⟨_,_,_,x⟩,⟨_,h1,rfl,rfl⟩,⟨_,h2,rfl,rfl⟩,⟨_,h3,rfl,rfl⟩⟩,d,q⟩
end Ev.Z3
namespace Ev
open PySem PySem.Spec PyProof.Rows L2
section
variable {K:Frag}
structure WkD (K:Frag) (F0:Hp) (J:It) (ds:List D):Prop where
 goes:∀ i F H,Same F0 F→Same F H→i<ds.length→J.go i H
 stops:∀ F H,Same F0 F→Same F H→J.stop ds.length H
 yields:∀ i F H x H' d,Same F0 F→Same F H→ds[i]?=some d→J.yld i H x H'→∃ F',Rp K F' x d∧New F H F' H' No
theorem yg {F0:Hp} {a:Addr} {vs:List V} {ds:List D} (h:F0 a=some (.lst vs)) (r:RpL K F0 vs ds):WkD K F0 (Itl K a) ds:=by
 have w:=walk_list (K:=K) (a:=a) (xs:=vs)
 have l:=r.length
 refine ⟨fun i F H s t hi=>w.goes i H (by omega) (SqL.of (t _ _ (s _ _ h))),fun F H s t=>l▸w.stops H (SqL.of (t _ _ (s _ _ h))),fun i F H x H' d s t hd y=>?_⟩
 obtain ⟨hi,_⟩:=List.getElem?_eq_some_iff.mp hd
 obtain ⟨e,b⟩:=w.yields i H x H' (by omega) (SqL.of (t _ _ (s _ _ h))) y
 subst e
 obtain ⟨v,g,q⟩:=r.get hd
 rw [b] at g
 cases g
 exact ⟨F,q.mono s,New.refl t⟩
theorem wQ {F0:Hp} {a:Addr} {vs:List V} {ds:List D} (h:SqT K F0 a vs) (r:RpL K F0 vs ds):WkD K F0 (Itt K a) ds:=by
 have w:=walk_tup (K:=K) (a:=a) (xs:=vs)
 have l:=r.length
 have m:∀ {F H:Hp},Same F0 F→Same F H→SqT K H a vs:=fun s t=>aa t (aa s h)
 refine ⟨fun i F H s t hi=>w.goes i H (by omega) (m s t),fun F H s t=>l▸w.stops H (m s t),fun i F H x H' d s t hd y=>?_⟩
 obtain ⟨hi,_⟩:=List.getElem?_eq_some_iff.mp hd
 obtain ⟨e,b⟩:=w.yields i H x H' (by omega) (m s t) y
 subst e
 obtain ⟨v,g,q⟩:=r.get hd
 rw [b] at g
 cases g
 exact ⟨F,q.mono s,New.refl t⟩
theorem aH (lo st:Int):∀ n,(az lo st n).length=n:=by
 intro n
 induction n generalizing lo with
 | zero=>rfl
 | succ n ih=>simp only [az,List.length_cons,ih]
theorem e8:∀ (n:Nat) (lo st:Int) (i:Nat) (d:D),(az lo st n)[i]?=some d→d=.int (lo+(i:Nat)*st)
 | 0,lo,st,i,d,e=>by simp [az] at e
 | n+1,lo,st,0,d,e=>by simp [az] at e;simp [← e]
 | n+1,lo,st,i+1,d,e=>by
  have:=e8 n (lo+st) st i d (by simpa [az] using e)
  rw [this]
  congr 1
  rw [Int.natCast_succ,Int.add_mul]
  omega
theorem mV {F0:Hp} {lo:Int} {n:Nat}:WkD K F0 (Itr lo n) (az lo 1 n):=by
 refine ⟨fun i F H s t hi=>by rw [aH] at hi;exact hi,fun F H s t=>by rw [aH];exact Nat.le_refl _,fun i F H x H' d s t hd y=>?_⟩
 obtain ⟨e,a⟩:=y
 have:=e8 _ _ _ _ _ hd
 subst e a this
 exact ⟨F,by rw [Int.mul_one];exact .int _,New.refl t⟩
theorem rK {F0:Hp} {lo c:Int} {n:Nat}:WkD K F0 (Itc lo c n) (az lo c n):=by
 refine ⟨fun i F H s t hi=>by rw [aH] at hi;exact hi,fun F H s t=>by rw [aH];exact Nat.le_refl _,fun i F H x H' d s t hd y=>?_⟩
 obtain ⟨e,a⟩:=y
 have:=e8 _ _ _ _ _ hd
 subst e a this
 exact ⟨F,.int _,New.refl t⟩
theorem uo {F0:Hp} (z:Str):WkD K F0 (Its z) (fA z):=by
 have l:(fA z).length=z.cps.size:=by unfold fA;rw [List.length_map,Array.length_toList]
 refine ⟨fun i F H s t hi=>by rw [l] at hi;exact hi,fun F H s t=>by rw [l];exact Nat.le_refl _,fun i F H x H' d s t hd y=>?_⟩
 obtain ⟨e,c,a,b⟩:=y
 subst e b
 unfold fA at hd
 rw [List.getElem?_map,Array.getElem?_toList,a] at hd
 cases hd
 exact ⟨F,.str _,New.refl t⟩
theorem fF {F H H':Hp} {v x y:V} {T:Addr} {d e:D} (t:Same F H) (h:H T=none) (ev:v=.ref T) (c:H'=upd H T (.tup [x,y])) (a:Rp K F x d) (b:Rp K F y e):∃ F',Rp K F' v (.tup [d,e])∧New F H F' H' No:=by
 subst ev c
 exact ⟨_,(Ow.tuple (H':=H) t h (.cons a (.cons b .nil))).fz (by simp only [D.fz,fzs,a.fz,b.fz];rfl),New.tuple t h⟩
theorem dq:∀ (ds:List D) (k:Nat),(cO k ds).length=ds.length
 | [],_=>rfl
 | d::ds,k=>by simp only [cO,List.length_cons,dq ds]
theorem fV:∀ (ds:List D) (k i:Nat) (d:D),(cO k ds)[i]?=some d→∃ e,ds[i]?=some e∧d=.tup [.int ((k+i:Nat):Int),e]
 | [],k,i,d,h=>by simp [cO] at h
 | x::ds,k,0,d,h=>by simp [cO] at h;exact ⟨x,rfl,by simp [← h]⟩
 | x::ds,k,i+1,d,h=>by
  obtain ⟨e,a,b⟩:=fV ds (k+1) i d (by simpa [cO] using h)
  exact ⟨e,by simpa using a,by rw [b];congr 4;omega⟩
theorem yd {F0:Hp} {a:Addr} {vs:List V} {ds:List D} (h:F0 a=some (.lst vs)) (r:RpL K F0 vs ds):WkD K F0 (Ite K a) (cO 0 ds):=by
 have w:=walk_enum (K:=K) (a:=a) (xs:=vs)
 have l:=r.length
 have l2:=dq ds 0
 have m:∀ {F H:Hp},Same F0 F→Same F H→SqL K H a vs:=fun s t=>SqL.of (t _ _ (s _ _ h))
 refine ⟨fun i F H s t hi=>w.goes i H (by omega) (m s t),fun F H s t=>by rw [l2,← l];exact w.stops H (m s t),fun i F H x H' d s t hd y=>?_⟩
 obtain ⟨hi,_⟩:=List.getElem?_eq_some_iff.mp hd
 obtain ⟨T,p,q,c,f,j,k,n⟩:=w.yields i H x H' (by omega) (m s t) y
 obtain ⟨e,he,o⟩:=fV _ _ _ _ hd
 obtain ⟨v,g,u⟩:=r.get he
 have b:vs[i]?=some q:=n
 rw [b] at g
 cases g
 cases k
 subst o
 rw [Nat.zero_add]
 exact fF t f c j (.int _) (u.mono s)
theorem vZ {F0:Hp} {a:Addr} {vs:List V} {ds:List D} (h:SqT K F0 a vs) (r:RpL K F0 vs ds):WkD K F0 (EvTE.CW K a) (cO 0 ds):=by
 have l:=r.length
 have l2:=dq ds 0
 have m:∀ {F H:Hp},Same F0 F→Same F H→SqT K H a vs:=fun s t=>aa t (aa s h)
 refine ⟨fun i F H s t hi=>⟨vs,vs[i]'(by omega),m s t,by simp [show i<vs.length by omega]⟩,fun F H s t=>⟨vs,m s t,by omega⟩,fun i F H x H' d s t hd y=>?_⟩
 obtain ⟨hi,_⟩:=List.getElem?_eq_some_iff.mp hd
 obtain ⟨T,q,b,c,f,j⟩:=y
 obtain ⟨e,he,k⟩:=fV _ _ _ _ hd
 obtain ⟨v,g,n⟩:=r.get he
 rw [j vs (m s t)] at g
 cases g
 subst k
 rw [Nat.zero_add]
 exact fF t c b f (.int _) (n.mono s)
theorem sg {F H H':Hp} {v x y z:V} {T:Addr} {d e f:D} (t:Same F H) (h:H T=none) (ev:v=.ref T) (c:H'=upd H T (.tup [x,y,z])) (a:Rp K F x d) (b:Rp K F y e) (rz:Rp K F z f):∃ F',Rp K F' v (.tup [d,e,f])∧New F H F' H' No:=by
 subst ev c
 exact ⟨_,(Ow.tuple (H':=H) t h (.cons a (.cons b (.cons rz .nil)))).fz (by simp only [D.fz,fzs,a.fz,b.fz,rz.fz];rfl),New.tuple t h⟩
theorem fB:∀ (xs ys zs:List D),(eD xs ys zs).length=min (min xs.length ys.length) zs.length
 | [],ys,zs=>by simp [eD]
 | x::xs,[],zs=>by simp [eD]
 | x::xs,y::ys,[]=>by simp [eD]
 | x::xs,y::ys,z::zs=>by simp only [eD,List.length_cons,fB xs ys zs];omega
theorem j9:∀ (xs ys zs:List D) (i:Nat) (d:D),(eD xs ys zs)[i]?=some d→∃ e f g,xs[i]?=some e∧ys[i]?=some f∧zs[i]?=some g∧d=.tup [e,f,g]
 | [],ys,zs,i,d,h=>by simp [eD] at h
 | x::xs,[],zs,i,d,h=>by simp [eD] at h
 | x::xs,y::ys,[],i,d,h=>by simp [eD] at h
 | x::xs,y::ys,z::zs,0,d,h=>by simp [eD] at h;exact ⟨x,y,z,rfl,rfl,rfl,h.symm⟩
 | x::xs,y::ys,z::zs,i+1,d,h=>by
  obtain ⟨e,f,g,a,b,c,j⟩:=j9 xs ys zs i d (by simpa [eD] using h)
  exact ⟨e,f,g,by simpa using a,by simpa using b,by simpa using c,j⟩
theorem yt {F0:Hp} {a b c:Addr} {vs ws us:List V} {ds es fs:List D} (h:SqT K F0 a vs) (h':SqT K F0 b ws) (w:SqT K F0 c us) (r:RpL K F0 vs ds) (B:RpL K F0 ws es) (j:RpL K F0 us fs):WkD K F0 (Z3.It3 K a b c) (eD ds es fs):=by
 have l:=r.length
 have l':=B.length
 have G:=j.length
 have l2:=fB ds es fs
 have m:∀ {F H:Hp},Same F0 F→Same F H→SqT K H a vs∧SqT K H b ws∧SqT K H c us:=fun s t=>⟨aa t (aa s h),aa t (aa s h'),aa t (aa s w)⟩
 refine ⟨fun i F H s t hi=>?_,fun F H s t=>⟨vs,ws,us,(m s t).1,(m s t).2.1,(m s t).2.2,by omega⟩,fun i F H x H' d s t hd y=>?_⟩
 ·have I:i<vs.length:=by omega
  have J:i<ws.length:=by omega
  have L:i<us.length:=by omega
  exact ⟨vs,ws,us,vs[i],ws[i],us[i],(m s t).1,(m s t).2.1,(m s t).2.2,by simp [I],by simp [J],by simp [L]⟩
 ·obtain ⟨T,p,q,o,M,N,O,P,Q,R⟩:=y
  obtain ⟨e,f,k,he,hf,hk,X⟩:=j9 _ _ _ _ _ hd
  obtain ⟨v,g,Y⟩:=r.get he
  obtain ⟨v',C,z⟩:=B.get hf
  obtain ⟨Z,n,u⟩:=j.get hk
  rw [P vs (m s t).1] at g
  rw [Q ws (m s t).2.1] at C
  rw [R us (m s t).2.2] at n
  cases g
  cases C
  cases n
  subst X
  exact sg t N M O (Y.mono s) (z.mono s) (u.mono s)
theorem dV:∀ (xs ys:List D),(lP xs ys).length=min xs.length ys.length
 | [],ys=>by simp [lP]
 | x::xs,[]=>by simp [lP]
 | x::xs,y::ys=>by simp only [lP,List.length_cons,dV xs ys];omega
theorem ju:∀ (xs ys:List D) (i:Nat) (d:D),(lP xs ys)[i]?=some d→∃ e f,xs[i]?=some e∧ys[i]?=some f∧d=.tup [e,f]
 | [],ys,i,d,h=>by simp [lP] at h
 | x::xs,[],i,d,h=>by simp [lP] at h
 | x::xs,y::ys,0,d,h=>by simp [lP] at h;exact ⟨x,y,rfl,rfl,h.symm⟩
 | x::xs,y::ys,i+1,d,h=>by
  obtain ⟨e,f,a,b,c⟩:=ju xs ys i d (by simpa [lP] using h)
  exact ⟨e,f,by simpa using a,by simpa using b,c⟩
theorem A7 {F0:Hp} {a b:Addr} {vs ws:List V} {ds es:List D} (h:F0 a=some (.lst vs)) (h':F0 b=some (.lst ws)) (r:RpL K F0 vs ds) (o:RpL K F0 ws es):WkD K F0 (Itz K a b) (lP ds es):=by
 have l:=r.length
 have z:=o.length
 have l2:=dV ds es
 have w:=walk_zip (K:=K) (a:=a) (b:=b) (xs:=vs) (ys:=ws) (n:=(lP ds es).length) (by rw [l2,l,z])
 have m:∀ {F H:Hp},Same F0 F→Same F H→SqL K H a vs∧SqL K H b ws:=fun s t=>⟨SqL.of (t _ _ (s _ _ h)),SqL.of (t _ _ (s _ _ h'))⟩
 refine ⟨fun i F H s t hi=>w.goes i H hi (m s t),fun F H s t=>w.stops H (m s t),fun i F H x H' d s t hd y=>?_⟩
 obtain ⟨hi,_⟩:=List.getElem?_eq_some_iff.mp hd
 obtain ⟨T,p,q,B,C,G,I,J⟩:=w.yields i H x H' hi (m s t) y
 obtain ⟨e,f,he,hf,L⟩:=ju _ _ _ _ hd
 obtain ⟨v,g,M⟩:=r.get he
 obtain ⟨v',u,c⟩:=o.get hf
 have j:vs[i]?=some p:=I
 have k:ws[i]?=some q:=J
 rw [j] at g
 rw [k] at u
 cases g
 cases u
 subst L
 exact fF t C B G (M.mono s) (c.mono s)
theorem yb {F0:Hp} {a b:Addr} {vs ws:List V} {ds es:List D} (h:SqT K F0 a vs) (h':SqT K F0 b ws) (r:RpL K F0 vs ds) (j:RpL K F0 ws es):WkD K F0 (RZ.ItzT K a b) (lP ds es):=by
 have l:=r.length
 have J:=j.length
 have l2:=dV ds es
 have m:∀ {F H:Hp},Same F0 F→Same F H→SqT K H a vs∧SqT K H b ws:=fun s t=>⟨aa t (aa s h),aa t (aa s h')⟩
 refine ⟨fun i F H s t hi=>?_,fun F H s t=>⟨vs,ws,(m s t).1,(m s t).2,by omega⟩,fun i F H x H' d s t hd y=>?_⟩
 ·have n:i<vs.length:=by omega
  have o:i<ws.length:=by omega
  exact ⟨vs,ws,vs[i],ws[i],(m s t).1,(m s t).2,by simp [n],by simp [o]⟩
 ·obtain ⟨T,p,q,u,w,z,B,C⟩:=y
  obtain ⟨e,f,he,hf,G⟩:=ju _ _ _ _ hd
  obtain ⟨v,g,I⟩:=r.get he
  obtain ⟨v',k,c⟩:=j.get hf
  rw [B vs (m s t).1] at g
  rw [C ws (m s t).2] at k
  cases g
  cases k
  subst G
  exact fF t w u z (I.mono s) (c.mono s)
end
section
variable {X:Cx} {tg iter:Expr}
def tWI (X:Cx) (tg iter:Expr):TI:=fun σ H R=>∀ pins s,Inv X pins σ H s →
 wpAny (model X.prog X.w) X.A (eval iter X.env) (fun v s1=>wpAny (model X.prog X.w) X.A (pyIter v) (PIE X pins σ tg R) X.xe s1) X.xe s
theorem p5:PI X tg iter (tWI X tg iter):=⟨fun pins s σ H R I h=>h pins s I⟩
theorem dg {a:TI} {σ:L2.St} {H:Hp} {R:It→Hp→Prop} (h:PI X tg iter a) (q:a σ H R):tWI X tg iter σ H R:=fun pins s I=>h.run pins s σ H R I q
theorem ay {e:Expr} {σ:L2.St} {H:Hp} {Q Q':VK} (h:tW X e σ H Q) (k:∀ v H',Q v H'→Q' v H'):tW X e σ H Q':=fun pins s I=>thn (h pins s I) fun u s1 ⟨v,H',a,r,q⟩=>⟨v,H',a,r,k v H' q⟩
theorem au:∀ {es:List Expr} {σ:L2.St} {H:Hp} {Q Q':List V→Hp→Prop},bM X es σ H Q→(∀ v H',Q v H'→Q' v H')→bM X es σ H Q'
 | [],_,_,_,_,h,k=>k _ _ h
 | _::es,_,_,_,_,h,k=>ay h fun v H' q=>au q fun vs a z=>k _ _ z
def isTup:Expr→Bool
 | .Tuple _ _ _=>true
 | _=>false
def cP:Expr→Bool
 | .Set _ _ _=>true
 | _=>false
inductive MI (X:Cx):Expr→ItK→List Expr→Expr→Prop
 | val {tg e:Expr}:cP e=false→MI X tg .val [e] e
 | range {tg:Expr} {es:List Expr} {p pos:Pos}:Gl X "range" → X.mg "range" = none→noStar es=true→MI X tg .range es (.Call (.Name "range" p) es [] pos)
 | enum {tg e:Expr} {p pos:Pos}:isTup tg=true→Gl X "enumerate" → X.mg "enumerate" = none→noStar [e]=true→MI X tg .enum [e] (.Call (.Name "enumerate" p) [e] [] pos)
 | zip {tg e f:Expr} {p pos:Pos}:isTup tg=true→Gl X "zip" → X.mg "zip" = none→noStar [e,f]=true→MI X tg .zip [e,f] (.Call (.Name "zip" p) [e,f] [] pos)
 | zip3 {tg e f g:Expr} {p pos:Pos}:isTup tg=true→Gl X "zip" → X.mg "zip" = none→noStar [e,f,g]=true→MI X tg .zip [e,f,g] (.Call (.Name "zip" p) [e,f,g] [] pos)
def A9 (X:Cx) (items ds:List D) (R:It→Hp→Prop):List V→Hp→Prop:=fun vs H1=>∃ F1,Same F1 H1∧RpL X.K F1 vs ds∧∀ J,WkD X.K F1 J items→R J H1
theorem Ep {k:ItK} {es:List Expr} {σ:L2.St} {H:Hp} {R:It→Hp→Prop} {ds items:List D} (m:MI X tg k es iter) (e:itD k ds=some items) (o:ds.length=es.length) (q:bM X es σ H (A9 X items ds R)):tWI X tg iter σ H R:=by
 cases m with
 | val h =>
  replace e:ke ds=some items:=e
  unfold ke at e
  split at e
  ·cases e
   refine dg (pi_tup aq) (ay q fun v H1 z=>?_)
   obtain ⟨F1,s,r,g⟩:=z
   cases r with
   | cons r t =>
    cases r with
    | tup h l=>exact ⟨_,rfl,⟨_,aa s h⟩,g _ (wQ h l)⟩
  ·cases e
   refine dg (pi_list aq) (ay q fun v H1 z=>?_)
   obtain ⟨F1,s,r,g⟩:=z
   cases r with
   | cons r t =>
    cases r with
    | lst h l=>exact ⟨_,rfl,⟨_,SqL.of (s _ _ h)⟩,g _ (yg h l)⟩
  ·cases e
   refine dg (pi_str aq) (ay q fun v H1 z=>?_)
   obtain ⟨F1,s,r,g⟩:=z
   cases r with
   | cons r t =>
    cases r
    exact ⟨_,rfl,g _ (uo _)⟩
  ·cases e
 | range f m0 ns =>
  replace e:aN ds=some items:=e
  unfold aN at e
  split at e
  ·split at e
   ·rename_i j c
    cases e
    obtain ⟨C,F⟩:=bO c
    match es,ns,q,o with
    | [a],ns,q,_ =>
     refine dg (pi_range1 f m0 (av ns) (by rw [ah _ ns];rfl)) (au q fun vs H1 z=>?_)
     obtain ⟨F1,s,r,g⟩:=z
     cases r with
     | cons r t=>cases r;cases t;exact ⟨_,rfl,by omega,by omega,g _ mV⟩
   ·cases e
  ·split at e
   ·rename_i i j c
    cases e
    simp only [Bool.and_eq_true] at c
    obtain ⟨C,F⟩:=bO c.1
    obtain ⟨J,K⟩:=bO c.2
    match es,ns,q,o with
    | [a,b],ns,q,_ =>
     have x:=aj ns
     refine dg (pi_range2 f m0 (av ns) (by rw [ah _ ns,ah _ x];rfl) (by rw [ah _ x];rfl)) (au q fun vs H1 z=>?_)
     obtain ⟨F1,s,r,g⟩:=z
     cases r with
     | cons r t =>
      cases r
      cases t with
      | cons r t=>cases r;cases t;exact ⟨_,_,rfl,⟨by omega,by omega,by omega,by omega⟩,g _ mV⟩
   ·cases e
  ·split at e
   ·rename_i i j c h
    cases e
    simp only [Bool.and_eq_true,decide_eq_true_eq] at h
    have G:RgC i j c (iS i j c):=by
     refine ⟨h.1.2,by omega,kT (by simp only [Bool.and_eq_true];exact h.1.1) h.1.2,?_⟩
     have nn:0≤Builtin.Range.rangeSize i j c:=by
      unfold Builtin.Range.rangeSize
      split
      ·split
       ·have:0≤(j-i-1) / c:=Int.ediv_nonneg (by omega) (by omega)
        omega
       ·exact Int.le_refl 0
      ·split
       ·have:0≤(i-j-1) / (-c):=Int.ediv_nonneg (by omega) (by omega)
        omega
       ·exact Int.le_refl 0
     unfold iS
     omega
    match es,ns,q,o with
    | [a,b,d],ns,q,_ =>
     have x:=aj ns
     refine dg (pi_range3 f m0 (av ns) (ah _ ns) (ao _ _ x)) (au q fun vs H1 z=>?_)
     obtain ⟨F1,s,r,g⟩:=z
     cases r with
     | cons r t =>
      cases r
      cases t with
      | cons r t =>
       cases r
       cases t with
       | cons r t=>cases r;cases t;exact ⟨_,_,_,_,rfl,G,g _ rK⟩
   ·cases e
  ·cases e
 | enum ht f m0 ns =>
  replace e:fU ds=some items:=e
  unfold fU at e
  split at e
  ·cases e
   cases tg with
   | Tuple elts y n =>
    refine dg (EvTE.ni f m0 (av ns) (by rw [ah _ ns];rfl)) (au q fun vs H1 z=>?_)
    obtain ⟨F1,s,r,g⟩:=z
    cases r with
    | cons r t =>
     cases t
     cases r with
     | lst h l=>exact ⟨_,rfl,.inl ⟨_,SqL.of (s _ _ h),g _ (yd h l)⟩⟩
   | _=>simp [isTup] at ht
  ·cases e
   cases tg with
   | Tuple elts y n =>
    refine dg (EvTE.ni f m0 (av ns) (by rw [ah _ ns];rfl)) (au q fun vs H1 z=>?_)
    obtain ⟨F1,s,r,g⟩:=z
    cases r with
    | cons r t =>
     cases t
     cases r with
     | tup h l=>exact ⟨_,rfl,.inr ⟨_,aa s h,g _ (vZ h l)⟩⟩
   | _=>simp [isTup] at ht
  ·cases e
 | zip ht f m0 ns =>
  replace e:qQ ds=some items:=e
  cases tg with
  | Tuple elts y n =>
   have nt:=aj ns
   unfold qQ at e
   split at e
   ·cases e
    refine dg (RZ.pi_zipA f m0 (av ns) (ah _ ns) (ao _ _ nt)) (au q fun vs H1 z=>?_)
    obtain ⟨F1,s,r,g⟩:=z
    cases r with
    | cons r t =>
     cases t with
     | cons p t =>
      cases t
      cases r with
      | tup h l =>
       cases p with
       | tup h' u=>exact ⟨_,_,_,_,rfl,.inr ⟨aa s h,aa s h',g _ (yb h h' l u)⟩⟩
   ·cases e
    refine dg (RZ.pi_zipA f m0 (av ns) (ah _ ns) (ao _ _ nt)) (au q fun vs H1 z=>?_)
    obtain ⟨F1,s,r,g⟩:=z
    cases r with
    | cons r t =>
     cases t with
     | cons p t =>
      cases t
      cases r with
      | lst h l =>
       cases p with
       | lst h' u=>exact ⟨_,_,_,_,rfl,.inl ⟨SqL.of (s _ _ h),SqL.of (s _ _ h'),g _ (A7 h h' l u)⟩⟩
   ·cases o
   ·cases e
  | _=>simp [isTup] at ht
 | zip3 ht f m0 ns =>
  replace e:qQ ds=some items:=e
  cases tg with
  | Tuple elts y n =>
   have nt:=aj ns
   unfold qQ at e
   split at e
   ·cases o
   ·cases o
   ·cases e
    refine dg (Z3.xU f m0 (av ns) (ah _ ns) (ao _ _ nt)) (au q fun vs H1 z=>?_)
    obtain ⟨F1,s,r,g⟩:=z
    cases r with
    | cons r t =>
     cases t with
     | cons p t =>
      cases t with
      | cons I t =>
       cases t
       cases r with
       | tup h l =>
        cases p with
        | tup h' u =>
         cases I with
         | tup w B=>exact ⟨_,_,_,_,_,_,rfl,aa s h,aa s h',aa s w,g _ (yt h h' w l u B)⟩
   ·cases e
  | _=>simp [isTup] at ht
end
end Ev
namespace Ev
open PySem PySem.Spec PyProof.Rows L2
structure KwP where
 n:Nat
 ks:List Str
 perm:List Nat
 deriving DecidableEq
structure DW where
 xc:List (Str × List Str):=[]
 xz:List Str:=[]
 xf:List (Str × Str):=[]
 xi:List (Str × Str × Bool):=[]
 xn:List Str:=[]
 xh:List Str:=[]
structure Cxt where
 N:List Str
 sc:Scope
 fn:Str→Bool
 tab:List Str
 kt:Nat→List KwP
 gc:List (Str × Kc):=[]
 vm:Option (Nat × Str):=none
 mt:List (Nat × Str × Str):=[]
 sl:List (Str × Str × Nat):=[]
 vn:Option (Nat × Str):=none
 xt:DW:={}
 cm:Bool:=true
 vs:Option (Nat × Str):=none
 pr:List (Nat × Str × Str):=[]
 vl:Option (Nat × Str):=none
 km:List (Nat × Str × Str × List Str × List Str):=[]
 cms:List (Nat × Str × Str):=[]
def Ap:List KwP:=[⟨1,["rule","items","lap"],[0,1,2,3]⟩,⟨1,["rule","lap","items"],[0,1,3,2]⟩,⟨1,["items","rule","lap"],[0,2,1,3]⟩,⟨1,["items","lap","rule"],[0,3,1,2]⟩,⟨1,["lap","rule","items"],[0,2,3,1]⟩,⟨1,["lap","items","rule"],[0,3,2,1]⟩]
def EZ:List KwP:=[⟨1,["size","lap","used"],[0,1,2,3]⟩,⟨1,["size","used","lap"],[0,1,3,2]⟩,⟨1,["lap","size","used"],[0,2,1,3]⟩,⟨1,["used","size","lap"],[0,2,3,1]⟩,⟨1,["lap","used","size"],[0,3,1,2]⟩,⟨1,["used","lap","size"],[0,3,2,1]⟩]
def FO:List (List Str):=[[],["way","workers","batch","ends"],["way","workers","batch"],["way","workers"],["batch"],["workers","batch"],["batch","ends"],["ends"],["ends","way"],["ends","batch","workers","way"]]
def E9:List (Nat × List Str):=[(0,["rule","items"]),(0,["rule","batch","items"]),(1,["batch","rule","workers"])]
def AJ:Operator→Option Str
 | .Mult=>some "__mul__"
 | .Sub=>some "__sub__"
 | .BitAnd=>some "__and__"
 | _=>none
abbrev Cxt.blk (c:Cxt) (scope:Scope):Cxt:={ c with sc:=relS scope c.sc,fn:=fun x=>scope.names.lookup x==some .cell }
abbrev Cxt.su (c:Cxt):Cxt:={ c with tab:=[],kt:=fun _=>[],vm:=none,mt:=[],vn:=none,cm:=false,vs:=none,pr:=[],vl:=none,km:=[],cms:=[] }
def same (x y:Str):Bool:=decide (x=y)
def nmB (c:Cxt) (i:Nat) (x:Str):Bool:=decide (c.N[i]?=some x)
def i8 (c:Cxt) (x:Str):Bool:=match c.sc.names.lookup x with
 | some .local=>true
 | some .cell=>true
 | some .free=>true
 | _=>false
def stB (c:Cxt) (x:Str):Bool:=match c.sc.names.lookup x with
 | some .local=>true
 | some .cell=>c.fn x
 | _=>false
def loB (c:Cxt) (x:Str):Bool:=match c.sc.names.lookup x with
 | some .local=>true
 | _=>false
def glB (c:Cxt) (x:Str):Bool:=match c.sc.names.lookup x with
 | some .globalImplicit=>true
 | _=>false
def ax (x:Str):Bool:=!(x==("__debug__" : Str))&&!(x==("__classdict__" : Str))
def opB (op:Op) (o:Operator):Bool:=decide (opO op=o)
def B5 (op:Cop) (o:CmpOp):Bool:=decide (uG op=o)
def biS:Bi→Str
 | .len=>"len" | .abs=>"abs" | .min2=>"min" | .max2=>"max" | .min1=>"min" | .max1=>"max"
 | .sum1=>"sum" | .int1=>"int" | .list1=>"list" | .tuple1=>"tuple" | .sorted1=>"sorted" | .all1=>"all" | .any1=>"any"
 | .divmod=>"divmod" | .lrange=>"list" | .trange=>"tuple" | .maxd=>"max" | .sset=>"sorted" | .lset=>"len" | .step=>"sorted" | .lenr=>"len" | .str1=>"str" | .join _=>"join" | .splt _=>"split" | .repl _=>"replace"
def tyS:Ty→Str
 | .bool=>"bool" | .int=>"int" | .str=>"str" | .list=>"list" | .tuple=>"tuple" | .dict=>"dict"
def meS:Me→Str
 | .append=>"append" | .pop=>"pop" | .popAt=>"pop" | .extend=>"extend" | .remove=>"remove" | .index=>"index" | .reverse=>"reverse"
def oz:Expr→Bool
 | .ListComp _ _ _ _=>true
 | .SetComp _ _ _ _=>true
 | .DictComp _ _ _ _ _=>true
 | _=>false
def plainT:Expr→Bool
 | .UnaryOp .Not _ _=>false
 | .BoolOp _ _ _=>false
 | .IfExp _ _ _ _=>false
 | .Compare _ _ _ _=>false
 | _=>true
def nM:Expr→Bool
 | .Call (.Name _ _) [] [] _=>false
 | _=>true
def mTy (c:Cxt) (t:Ty) (x:Expr):Bool:=match x with
 | .Name n _=>same n (tyS t)&&glB c n
 | _=>false
def tZ (c:Cxt):List Ty→List Expr→Bool
 | [],[]=>true
 | t::ts,x::xs=>mTy c t x&&tZ c ts xs
 | _,_=>false
def mNm (c:Cxt) (i:Nat) (x:Expr):Bool:=match x with
 | .Name n _=>nmB c i n&&stB c n
 | _=>false
def j7 (c:Cxt):List Nat→List Expr→Bool
 | [],[]=>true
 | i::is,x::xs=>mNm c i x&&j7 c is xs
 | _,_=>false
def mTg (c:Cxt) (t:Tg) (x:Expr):Bool:=match t with
 | .nm i=>mNm c i x
 | .tp is=>match x with
  | .Tuple xs _ _=>j7 c is xs&&c.cm
  | _=>false
def CG:Tg→List Nat
 | .nm i=>[i]
 | .tp is=>is
def uX (own:List Nat) (t:Tg):Bool:=(CG t).all fun i=>own.contains i
def rT (c:Cxt) (own:List Nat):List (Str × Nat):=own.map fun i=>(c.N.getD i "",i)
def kU:Expr→Bool
 | .Name _ _=>true
 | .Call _ (_::_) _ _=>true
 | .Call (.Attribute _ _ _) _ _ _=>true
 | .BinOp _ _ _ _=>true
 | .UnaryOp _ _ _=>true
 | .Subscript _ _ _=>true
 | _=>false
def zk (c:Cxt) (a:Str):Expr→Bool
 | .Constant (.str s) _ _=>same a s
 | .Name g _=>glB c g&&ax g&&decide (c.gc.lookup g=some (.str a))
 | _=>false
def A4 (kws:List Keyword):List Expr:=kws.map (·.value)
def dI:List Str→List (Option Expr)→Bool
 | [],[]=>true
 | k::ks,some (.Constant (.str s) _ _)::xs=>same s k&&dI ks xs
 | _,_=>false
def mFs (c:Cxt) (v:Nat) (cn:Str):List (Str × Nat)→List Expr→Bool
 | [],[]=>true
 | (nm,i)::fs,.Attribute (.Name y _) f _::ts=>same f nm&&decide ((cn,nm,i)∈c.sl)&&nmB c v y&&i8 c y&&ax y&&mFs c v cn fs ts
 | _,_=>false
mutual
def mE:Nat→Cxt→E→Expr→Bool
 | 0,_,_,_=>false
 | n+1,c,e,x=>match e with
  | .non=>match x with
   | .Constant .none _ _=>true
   | _=>false
  | .bl b=>match x with
   | .Constant (.bool b') _ _=>b==b'
   | _=>false
  | .int i=>match x with
   | .Constant (.int j) _ _=>decide (i=j)
   | _=>false
  | .str s=>match x with
   | .Constant (.str s') _ _=>same s s'
   | _=>false
  | .con k=>match x with
   | .Name y _=>glB c y&&ax y&&decide (c.gc.lookup y=some k)&&(match k with
    | .dct _=>false
    | _=>true)
   | _=>false
  | .kin ne ps e=>match x with
   | .Compare l [p] [.Name y _] _=>decide (p=if ne then CmpOp.NotIn else CmpOp.In)&&glB c y&&ax y&&decide (c.gc.lookup y=some (.dct ps))&&mE n c e l
   | _=>false
  | .kix ps e=>match x with
   | .Subscript (.Name y _) i _=>glB c y&&ax y&&decide (c.gc.lookup y=some (.dct ps))&&mE n c e i&&!isSlice i
   | _=>false
  | .var i=>match x with
   | .Name y _=>nmB c i y&&i8 c y&&ax y
   | _=>false
  | .bin op a b=>match x with
   | .BinOp l o r _=>opB op o&&mEs n c [a,b] [l,r]
   | _=>false
  | .neg a=>match x with
   | .UnaryOp .USub y _=>mE n c a y
   | _=>false
  | .cmp op a b=>match x with
   | .Compare l [o] [r] _=>B5 op o&&mEs n c [a,b] [l,r]&&!cP r
   | _=>false
  | .chain o1 o2 a b d=>match x with
   | .Compare l [p1,p2] [m,r] _=>B5 o1 p1&&B5 o2 p2&&mEs n c [a,b] [l,m]&&mE n c d r&&!cP r
   | _=>false
  | .band es=>match x with
   | .BoolOp .And xs _=>mEs n c es xs
   | _=>false
  | .bor es=>match x with
   | .BoolOp .Or xs _=>mEs n c es xs
   | _=>false
  | .bnot a=>match x with
   | .UnaryOp .Not y _=>mE n c a y
   | _=>false
  | .ite d a b=>match x with
   | .IfExp t l r _=>mT n c d t&&mE n c a l&&mE n c b r
   | _=>false
  | .tup es=>match x with
   | .Tuple xs _ _=>mEs n c es xs&&noStar xs
   | _=>false
  | .lst es=>match x with
   | .List xs _=>mEs n c es xs&&noStar xs
   | _=>false
  | .disS l pre st post=>match l with
   | true=>match x with
    | .List xs _=>A8 n c pre st post xs
    | _=>false
   | false=>match x with
    | .Tuple xs _ _=>A8 n c pre st post xs
    | _=>false
  | .pur _=>false
  | .sub a i=>match x with
   | .Subscript l r _=>mEs n c [a,i] [l,r]&&!isSlice r
   | _=>false
  | .slice a lo hi=>match x with
   | .Subscript l (.Slice u v none _) _=>mEs n c (a::(lo.toList++hi.toList)) (l::(u.toList++v.toList))&&(lo.isSome==u.isSome)&&(hi.isSome==v.isSome)
   | _=>false
  | .rev _=>false
  | .call f es=>match x with
   | .Call (.Name g _) xs [] _=>(decide (c.tab[f]?=some g)&&glB c g&&ax g&&mEs n c es xs&&noStar xs)||(same g "list" && glB c g&&c.cm&&(match xs with
    | [.Call (.Attribute (.Name o _) m ap) (y::ys) [] cp]=>decide (c.vm=some (f,o))&&glB c o&&ax o&&same m "made" && (ap.endLine==cp.line)&&mEs n c es (y::ys)&&noStar (y::ys)&&decide (1<(y::ys).length∧(y::ys).length<20)
    | _=>false))
   | _=>false
  | .callT _ _=>false
  | .callK _ _ _=>false
  | .bi b es=>match b with
   | .lrange=>match x with
    | .Call (.Name g _) [.Call (.Name r _) (y::xs) [] _] [] _=>same g "list" && glB c g&&same r "range" && glB c r&&mEs n c es (y::xs)&&noStar (y::xs)&&c.cm
    | _=>false
   | .trange=>match x with
    | .Call (.Name g _) [.Call (.Name r _) (y::xs) [] _] [] _=>same g "tuple" && glB c g&&same r "range" && glB c r&&mEs n c es (y::xs)&&noStar (y::xs)&&c.cm
    | _=>false
   | .maxd=>match x with
    | .Call (.Name g _) [y] [⟨some k,d,_⟩] _=>same g "max" && glB c g&&same k "default" && mEs n c es [y,d]&&noStar [y]&&c.cm
    | _=>false
   | .sset=>match x with
    | .Call (.Name g _) [.Call (.Name r _) [y] [] _] [] _=>same g "sorted" && glB c g&&same r "set" && glB c r&&mEs n c es [y]&&noStar [y]&&c.cm
    | _=>false
   | .lset=>match x with
    | .Call (.Name g _) [.Call (.Name r _) [y] [] _] [] _=>same g "len" && glB c g&&same r "set" && glB c r&&mEs n c es [y]&&noStar [y]&&c.cm
    | _=>false
   | .lenr=>match x with
    | .Call (.Name g _) [.Call (.Name r _) (y::xs) [] _] [] _=>same g "len" && glB c g&&same r "range" && glB c r&&mEs n c es (y::xs)&&noStar (y::xs)
    | _=>false
   | .join a=>match x with
    | .Call (.Attribute y nm apos) [z] [] cpos=>same nm "join" && mEs n c es [z]&&(apos.endLine==cpos.line)&&noStar [z]&&zk c a y
    | _=>false
   | .splt a=>match x with
    | .Call (.Attribute y nm apos) [z] [] cpos=>same nm "split" && mEs n c es [y]&&(apos.endLine==cpos.line)&&noStar [y]&&noStar [z]&&zk c a z&&kU y
    | _=>false
   | .repl a=>match es,x with
    | [.var i1,.var i2,.var i3,.var i4],.Call (.Attribute (.Name y1 _) nm apos) [.BinOp (.Constant (.str t) _ _) .Add (.Call (.Name g _) [.Name y2 _] [] _) _,.Call (.Name g2 _) [.BinOp (.Name y3 _) .Add (.Name y4 _) _] [] _] [] cpos=>same nm "replace" && same t a&&same g "str" && glB c "str" && same g2 "str" && (apos.endLine==cpos.line)&&nmB c i1 y1&&i8 c y1&&ax y1&&nmB c i2 y2&&i8 c y2&&ax y2&&nmB c i3 y3&&i8 c y3&&ax y3&&nmB c i4 y4&&i8 c y4&&ax y4
    | _,_=>false
   | .step=>match x with
    | .Subscript l (.Slice (some u) none (some v) _) _=>mEs n c es [l,u,v]
    | _=>false
   | b=>match x with
    | .Call (.Name g _) (y::xs) [] _=>same g (biS b)&&glB c g&&mEs n c es (y::xs)&&noStar (y::xs)&&c.cm
    | _=>false
  | .isi a ts=>match x with
   | .Call (.Name g _) [y,t] [] _=>same g "isinstance" && glB c g&&mE n c a y&&noStar [y,t]&&decide (ts.length≤10)&&(match t with
    | .Tuple xs _ _=>tZ c ts xs&&noStar xs
    | t=>tZ c ts [t])
   | _=>false
  | .meth m o es=>match x with
   | .Call (.Attribute y nm apos) xs [] cpos=>same nm (meS m)&&mE n c o y&&mEs n c es xs&&noStar xs&&nM y&&(apos.endLine==cpos.line)&&decide (xs.length<20)
   | _=>false
  | .xf _ _ _=>false
  | .isx _ _ _=>false
  | .fld a cn nm i=>match x with
   | .Attribute (.Name y p) f _=>same f nm&&decide ((cn,nm,i)∈c.sl)&&mE n c a (.Name y p)
   | .Attribute (.Call (.Attribute b m0 p0) ys kws p) f _=>same f nm&&decide ((cn,nm,i)∈c.sl)&&mE n c a (.Call (.Attribute b m0 p0) ys kws p)
   | _=>false
  | .wk _=>false
  | .tupN _=>false
  | .tix _ _ _ _ _=>false
  | .mthM v cn nm f es=>match x with
   | .Call (.Attribute g m ap) [] [] cp=>decide ((f,cn,nm)∈c.mt)&&same m nm&&(ap.endLine==cp.line)&&mE n c (.var v) g&&es.isEmpty&&kU g
   | .Call (.Attribute g m ap) (y::ys) [] cp=>decide ((f,cn,nm)∈c.mt)&&same m nm&&(ap.endLine==cp.line)&&mE n c (.var v) g&&mEs n c es (y::ys)&&noStar (y::ys)&&decide ((y::ys).length<20)&&kU g
   | _=>false
  | .mthMK _ _ _ _ _ _ _=>false
  | .dct ks es=>match x with
   | .Dict keys vals _=>mEs n c es vals&&dI ks keys&&decide (keys.length≤15)&&decide ks.Nodup&&!keys.isEmpty&&decide (keys.length=vals.length)
   | _=>false
  | .key a k=>match x with
   | .Subscript l (.Constant (.str s) _ _) _=>same s k&&mE n c a l
   | _=>false
  | .clsC v cn nm f st es=>match x with
   | .Call (.Name g p) (y::ys) [] _=>decide ((if st then c.vs else c.vn)=some (f,cn))&&mE n c (.var v) (.Name g p)&&mEs n c es (y::ys)&&noStar (y::ys)&&ax g&&(!st||same nm "NoState")
   | _=>false
  | .ob o cn nm f es=>match o with
   | .mth=>match x with
    | .Call (.Attribute g m ap) [] [] cp=>decide ((f,cn,nm)∈c.mt)&&same m nm&&(ap.endLine==cp.line)&&mEs n c es [g]&&kU g
    | .Call (.Attribute g m ap) (y::ys) [] cp=>decide ((f,cn,nm)∈c.mt)&&same m nm&&(ap.endLine==cp.line)&&mEs n c es (g::y::ys)&&noStar (y::ys)&&decide ((y::ys).length<20)&&kU g
    | _=>false
   | .len=>match x with
    | .Call (.Name g _) [y] [] _=>same g "len" && glB c g&&decide (c.vn=some (f,cn))&&mEs n c es [y]&&noStar [y]
    | _=>false
   | .tupO=>match x with
    | .Call (.Name g _) [y] [] _=>same g "tuple" && glB c g&&decide (c.vn=some (f,cn))&&mEs n c es [y]&&noStar [y]&&c.cm
    | _=>false
   | .made=>match x with
    | .Call (.Attribute (.Name o _) m ap) (y::ys) [] cp=>same o cn&&decide (c.vm=some (f,o))&&glB c o&&ax o&&same m "made" && (ap.endLine==cp.line)&&mEs n c es (y::ys)&&noStar (y::ys)&&decide ((y::ys).length<20)
    | _=>false
   | .isO=>false
   | .madeK _=>false
   | .new=>match x with
    | .Call (.Name g _) [y] [] _=>same g cn&&decide (c.vn=some (f,g))&&glB c g&&ax g&&mEs n c es [y]&&noStar [y]
    | _=>false
   | .newL=>false
   | .tR=>false
   | .newLK _=>false
   | .contO _=>false
   | .bin sq=>match x with
    | .BinOp l p r _=>decide (AJ p=some nm)&&decide (c.vn.map (·.2)=some cn)&&decide ((f,cn,nm)∈c.mt)&&mEs n c es [l,r]&&(!sq||!same nm "__mul__")
    | _=>false
   | .mthK _=>false
   | .eqO _=>false
   | .inMix _=>false
   | .dcp=>false
   | .cm=>false
   | .cmK _=>false
   | .una=>false
   | .prop=>false
   | .mobP _ _=>false
   | .mobN _=>false
   | .st=>match x with
    | .Call (.Name g _) (y::ys) [] _=>same g cn&&decide (c.vs=some (f,g))&&glB c g&&ax g&&mEs n c es (y::ys)&&noStar (y::ys)&&same nm "NoState"
    | _=>false
   | .stK _=>false
   | .cmpO _=>false
   | .binI=>false
   | .rbinI=>false
  | .lc elt tg k its ifs own=>match x with
   | .ListComp y [⟨t,it,fs,0⟩] scope _=>blkC c.N c.sc scope (rT c own)&&mTg (c.blk scope) tg t&&mI n c t k its it&&mTs n (c.blk scope) ifs fs&&mE n (c.blk scope) elt y&&uX own tg&&c.cm
   | _=>false
  | .lc2 elt tg k its tg2 k2 its2 own own2=>match x with
   | .ListComp y [⟨t,it,[],0⟩,⟨t2,it2,[],0⟩] scope _=>blkC c.N c.sc scope (rT c own)&&mTg (c.blk scope) tg t&&mI n c t k its it&&mTg (c.blk scope) tg2 t2&&mI n (c.blk scope) t2 k2 its2 it2
     && mE n (c.blk scope) elt y&&own2.all (fun i=>own.contains i)&&uX own tg&&uX own2 tg2&&c.cm
   | _=>false
def A8:Nat→Cxt→List E→E→List E→List Expr→Bool
 | 0,_,_,_,_,_=>false
 | n+1,c,pre,st,post,xs=>match xs.drop pre.length with
  | .Starred y _::qs=>mEs n c pre (xs.take pre.length)&&noStar (xs.take pre.length)&&mE n c st y&&mEs n c post qs&&noStar qs
  | _=>false
def mEs:Nat→Cxt→List E→List Expr→Bool
 | 0,_,_,_=>false
 | n+1,c,es,xs=>match es with
  | []=>match xs with
   | []=>true
   | _=>false
  | e::es=>match xs with
   | x::xs=>mE n c e x&&mEs n c es xs
   | []=>false
def mT:Nat→Cxt→E→Expr→Bool
 | 0,_,_,_=>false
 | n+1,c,e,x=>match e with
  | .band es=>match x with
   | .BoolOp .And xs _=>mTs n c es xs
   | _=>false
  | .bor es=>match x with
   | .BoolOp .Or xs _=>mTs n c es xs
   | _=>false
  | .bnot a=>match x with
   | .UnaryOp .Not y _=>mT n c a y
   | _=>false
  | .ite _ _ _=>false
  | e=>mE n c e x
def mTs:Nat→Cxt→List E→List Expr→Bool
 | 0,_,_,_=>false
 | n+1,c,es,xs=>match es with
  | []=>match xs with
   | []=>true
   | _=>false
  | e::es=>match xs with
   | x::xs=>mT n c e x&&mTs n c es xs
   | []=>false
def mI:Nat→Cxt→Expr→ItK→List E→Expr→Bool
 | 0,_,_,_,_,_=>false
 | n+1,c,t,k,es,x=>match k with
  | .val=>mEs n c es [x]&&!cP x
  | .valO cn f=>mEs n c es [x]&&!cP x&&decide (c.vn=some (f,cn))
  | .range=>match x with
   | .Call (.Name g _) xs [] _=>same g "range" && glB c g&&mEs n c es xs&&noStar xs
   | _=>false
  | .enum=>match x with
   | .Call (.Name g _) [y] [] _=>same g "enumerate" && glB c g&&mEs n c es [y]&&noStar [y]&&isTup t
   | _=>false
  | .zip=>match x with
   | .Call (.Name g _) [y,z] [] _=>same g "zip" && glB c g&&mEs n c es [y,z]&&noStar [y,z]&&isTup t
   | .Call (.Name g _) [y,z,w] [] _=>same g "zip" && glB c g&&mEs n c es [y,z,w]&&noStar [y,z,w]&&isTup t
   | _=>false
end
def kD:List Expr→Nat
 | x::_=>x.pos.line
 | []=>0
def yD (c:Cxt) (l:Nat) (x:Expr):Bool:=match x with
 | .Name n p=>loB c n&&(p.line==l)
 | _=>false
def Ao (ys:List Expr):Bool:=!(ys.all (foldedForSure 8))&&!(ys.all (constantsAlone 8))
def dist:List Nat→Bool
 | []=>true
 | i::is=>!is.contains i&&dist is
def swB (c:Cxt) (t:Str) (l:Nat) (x:Expr):Bool:=match x with
 | .ListComp _ _ s p=>loB c t&&(l==p.line)&&!(s.names.any fun (n,k)=>n==t&&(k==.local||k==.cell))
 | _=>false
def ceB (c:Cxt) (t:Str):Bool:=match c.sc.names.lookup t with
 | some .cell=>true
 | _=>false
mutual
def mS:Nat→Cxt→S→Stmt→Bool
 | 0,_,_,_=>false
 | n+1,c,s,x=>match s with
  | .expr e=>match x with
   | .Expr y _=>mE n c e y&&!oz y
   | _=>false
  | .ret e=>match x with
   | .Return (some y) _=>mE n c e y
   | _=>false
  | .retN=>match x with
   | .Return none _=>true
   | _=>false
  | .asg t e=>match x with
   | .Assign [tx] y _=>mE n c e y&&mTg c t tx&&(match t with
    | .nm _=>match tx with
     | .Name m p=>!oz y||swB c m p.line y||ceB c m
     | _=>false
    | .tp _=>!isTup y)
   | _=>false
  | .par is es=>match x with
   | .Assign [.Tuple ts _ _] (.Tuple ys _ _) _=>mEs n c es ys&&noStar ys&&j7 c is ts&&(ts.length==ys.length)&&decide (is.length≤10)&&(
     (ts.all (yD c (kD ts))&&Ao ys&&dist is&&(decide (is.length=2)||decide (is.length=3))) ||
     decide (3<is.length)||(ys.all (foldedForSure 8))||!(ts.all (yD c (kD ts))))&&c.cm
   | _=>false
  | .setIx o i e=>match x with
   | .Assign [.Subscript l r _] y _=>mEs n c [e,o,i] [y,l,r]&&!isSlice r
   | _=>false
  | .setF v cn nm i e=>match x with
   | .Assign [.Attribute (.Name y p) f _] z _=>same f nm&&decide ((cn,nm,i)∈c.sl)&&mE n c e z&&mE n c (.var v) (.Name y p)
   | _=>false
  | .parF v cn fs es=>match x with
   | .Assign [.Tuple ts _ _] (.Tuple ys _ _) _=>mEs n c es ys&&noStar ys&&mFs c v cn fs ts&&decide (fs.length≤10)&&!(ts.all (yD c (kD ts)))&&c.cm
   | _=>false
  | .setK v k e=>match x with
   | .Assign [.Subscript (.Name y p) (.Constant (.str s) _ _) _] z _=>same s k&&mE n c e z&&mE n c (.var v) (.Name y p)
   | _=>false
  | .parK _ _ _=>false
  | .swapIx o1 i1 o2 i2 e=>match x with
   | .Assign [.Tuple [.Subscript l1 r1 _,.Subscript l2 r2 _] _ _] y _=>mE n c e y&&mEs n c [o1,i1] [l1,r1]&&mEs n c [o2,i2] [l2,r2]&&!isSlice r1&&!isSlice r2&&c.cm
   | _=>false
  | .aug _ _ _=>false
  | .ifs d a b=>match x with
   | .If t l r _=>mT n c d t&&mSs n c a l&&mSs n c b r
   | _=>false
  | .for_ tg k its body=>match x with
   | .For t it l [] _=>mTg c tg t&&mI n c t k its it&&mSs n c body l&&c.cm
   | _=>false
  | .while_ d body=>match x with
   | .While t l [] _=>mT n c d t&&mSs n c body l
   | _=>false
  | .pass=>match x with
   | .Pass _=>true
   | _=>false
  | .brk=>match x with
   | .Break _=>true
   | _=>false
  | .cont=>match x with
   | .Continue _=>true
   | _=>false
  | .bad=>true
  | .raise cn nms es=>match x with
   | .Raise (some (.Call (.Name g _) (y::ys) [] _)) none _=>same g cn&&glB c g&&ax g&&decide ((cn,nms)∈c.xt.xc)&&mEs n c es (y::ys)&&noStar (y::ys)&&c.cm
   | .Raise (some (.Call (.Name g _) [] [] _)) none _=>same g cn&&glB c g&&ax g&&decide (cn∈c.xt.xz)&&es.isEmpty&&nms.isEmpty&&c.cm
   | _=>false
  | .asgS i j e=>match x with
   | .Assign [.Tuple [t1,.Starred t2 _] _ _] y _=>mE n c e y&&mNm c i t1&&mNm c j t2&&!isTup y&&c.cm
   | _=>false
  | .raiseF cn nms es cn2 nms2 es2=>match x with
   | .Raise (some (.Call (.Name g _) (y::ys) [] _)) (some (.Call (.Name g2 _) (z::zs) [] _)) _=>same g cn&&glB c g&&ax g&&decide ((cn,nms)∈c.xt.xc)&&mEs n c es (y::ys)&&noStar (y::ys)&&c.cm&&(same g2 cn2&&glB c g2&&ax g2&&decide ((cn2,nms2)∈c.xt.xc)&&mEs n c es2 (z::zs)&&noStar (z::zs))
   | _=>false
def mSs:Nat→Cxt→List S→List Stmt→Bool
 | 0,_,_,_=>false
 | n+1,c,ss,xs=>match ss with
  | []=>match xs with
   | []=>true
   | _=>false
  | s::ss=>match xs with
   | x::xs=>mS n c s x&&mSs n c ss xs
   | []=>false
end
end Ev
namespace Ob
open PySem PySem.Spec PyProof.Rows L2
def mr (t:Addr):Obj:={ cls:=.type "tuple_iterator",data:=.fields #[.ref t,.int 0 0] }
def TiO (t it:Addr):HO:=.ext fun h=>h.get? it=some (mr t)
def JkO (it:Addr):HO:=.ext fun h=>∃ o,h.get? it=some o
theorem wB {P:Program} {w:World} {H:Hp} {h:Heap} {it:Addr} {o:Obj} (e:h.get? it=some o):ObjOk P w H h it (JkO it):=⟨⟨o,e⟩,⟨_,e⟩,fun a b ⟨o,q⟩ k=>⟨o,k _ q⟩⟩
section
variable {X:Cx} {pins:List (Addr × Obj)} {σ:L2.St} {H:Hp} {s:Shared}
structure ItS (K:Frag) (C fi fl:Addr):Prop where
 it:findIn K (.ref C) "__iter__" = some (some (.ref fi))
 itF:isFn K (.ref fi)=true
 ln:findIn K (.ref C) "__len__" = some (some (.ref fl))
 lnF:isFn K (.ref fl)=true
def t7 (K:Frag) (C:Addr):Sp:=fun vs H Q _=>∃ (a dx t:Addr) (ws:List V),vs=[.ref a]∧SlX.Slt H a C dx [some (.ref t)]∧SqT K H t ws∧∀ it,H it=none→Q (.ref it) (upd H it (TiO t it))
def pQ (K:Frag) (C:Addr):Sp:=fun vs H Q _=>∃ (a dx t:Addr) (ws:List V),vs=[.ref a]∧SlX.Slt H a C dx [some (.ref t)]∧SqT K H t ws∧Q (.int (ws.length:Nat)) H
theorem jU {H:Hp} {a C dx q:Addr} {x:Option V} {vs:List (Option V)} {o:HO} (h:SlX.Slt H a C dx (x::vs)) (d:H q=none):SlX.Slt (upd H q o) a C dx (x::vs):=by
 rcases h with ⟨c,b⟩ | ⟨c,b⟩
 ·cases b
 ·exact .inr ⟨by rw [upd_ne (ne_of_none c d)];exact c,by rw [upd_ne (ne_of_none b d)];exact b⟩
theorem dD {K:Frag} {H:Hp} {t q:Addr} {ws:List V} {o:HO} (h:SqT K H t ws) (a:H q=none):SqT K (upd H q o) t ws:=by
 rcases h with (h | ⟨o',h⟩) | h
 ·exact .inl (.inl (by rw [upd_ne (ne_of_none h a)];exact h))
 ·exact .inl (.inr ⟨o',by rw [upd_ne (ne_of_none h a)];exact h⟩)
 ·exact .inr h
variable {C fi fl:Addr} {k:Nat}
theorem jP {g:Addr} {A1:Around} {sp:Sp} {us:List Value} {vs:List V} {Q:VK} {P:Value→Shared→Prop} {E:Value→Shared→Prop} {s1:Shared} {H1:Hp} (F:FnR X.prog X.w X.K X.mg X.base CX0 k g sp) (d:Room k A1) (c:A1.frames=X.A.frames) (I:Inv X pins σ H1 s1) (r:Vals vs us) (h:sp vs H1 Q (fun _ _ _=>False))
  (q:∀ u b,EP X pins σ Q u b→P u b):wpAny (model X.prog X.w) A1 (call (.ref g) us) P E s1:=by
 have e0:Env0 X.prog X.w X.K X.mg X.base A1 X.stack s1 H1:=by
  have e:=I.env0
  exact ⟨by rw [c];exact e.frames,e.mod,e.bs,e.bsz,e.funs,e.frf,e.hok,e.bare⟩
 refine wpAny_call (codeAny_mono (F A1 X.stack s1 H1 us vs Q _ d e0 r h) fun r b a=>?_)
 cases r with
 | error e=>exact False.elim a
 | ok fl =>
  cases fl with
  | next=>exact False.elim a
  | brk=>exact False.elim a
  | cont=>exact False.elim a
  | ret u=>exact q u b (I.after a)
theorem wM {A1:Around} {a dx t:Addr} {ws:List V} {P:Value→Shared→Prop} {E:Value→Shared→Prop} {s1:Shared} {H1:Hp} (d:ItS X.K C fi fl) (f:FnR X.prog X.w X.K X.mg X.base CX0 k fl (pQ X.K C)) (g:Room k A1.in1) (b:A1.in1.frames=X.A.frames)
  (I:Inv X pins σ H1 s1) (hs:SlX.Slt H1 a C dx [some (.ref t)]) (ht:SqT X.K H1 t ws) (l:ws.length≤sizeLine)
  (q:∀ tk c,Inv X pins σ H1 c→P (.int (ws.length:Nat) tk) c):wpAny (model X.prog X.w) A1 (call (.builtin "len") [.ref a]) P E s1:=by
 obtain ⟨sl,od,_,J,_⟩:=SlX.slt_inst I hs
 refine Calls.call_function_entry kind_len plain_len entry_len (args_len1 _) ?_
 unfold Builtin.«len»
 refine wpAny_bind (m:=oneArg "len" _) (wpAny_pure ?_)
 refine wpAny_bind (PySem.W.special_fn (name:="__len__") (args:=[]) I.kIn J d.ln (beq_iff_eq.mp d.lnF) ?_)
 refine jP (Q:=fun v e=>v=.int (ws.length:Nat)∧e=H1) f g b I (.cons (show RelV (V.ref a) (Value.ref a) from rfl) .nil) ⟨a,dx,t,ws,rfl,hs,ht,rfl,rfl⟩ fun u c h=>?_
 obtain ⟨v,e,i,j,rfl,rfl⟩:=h
 obtain ⟨tk,rfl⟩:=j
 refine wpAny_bind (wpAny_holding (wpAny_pure ?_))
 refine wpAny_bind (wpAny_letGo ?_)
 have sz:sizeLine=16777216:=sizeLine_eq
 show wpAny _ _ (if ((ws.length:Nat):Int)<0 then _ else _) _ _ _
 rw [if_neg (by omega)]
 show wpAny _ _ (if ((ws.length:Nat):Int) ≥ 2 ^ 63 then _ else _) _ _ _
 rw [if_neg (by omega)]
 exact wpAny_bind (wpAny_mkInt (wpAny_pure ⟨_,rfl,q _ _ (i.tok _)⟩))
theorem qX {A1:Around} {a dx t:Addr} {ws:List V} {Q:Bool→Shared→Prop} {E:Value→Shared→Prop} {s1:Shared} {H1:Hp} (e:ItS X.K C fi fl) (g:FnR X.prog X.w X.K X.mg X.base CX0 k fl (pQ X.K C)) (h:Room k A1.in1) (c:A1.in1.frames=X.A.frames)
  (I:Inv X pins σ H1 s1) (hs:SlX.Slt H1 a C dx [some (.ref t)]) (ht:SqT X.K H1 t ws) (f:ws.length≤sizeLine)
  (q:∀ b d,Inv X pins σ H1 d→Q b d):wpAny (model X.prog X.w) A1 (Builtin.List.listLengthHint (.ref a)) Q E s1:=by
 obtain ⟨sl,od,_,J,_⟩:=SlX.slt_inst I hs
 unfold Builtin.List.listLengthHint
 refine wpAny_bind (wpAny_bind (J.type.here ((PySem.W.looks_findIn I.kIn e.ln).here ?_)))
 refine PySem.W.KFB.if_not rfl ?_
 refine wpAny_bind (wpAny_rule ?_)
 refine wpAny_bind (wpAny_attempt (wM e g h c I hs ht f fun tk d i=>?_))
 show wpAny _ _ (asInt? (Value.int (ws.length:Nat) tk) >>= _) _ _ _
 refine wpAny_bind (wpAny_of_eq (a:=some ((ws.length:Nat):Int)) rfl ?_)
 show wpAny _ _ (if Builtin.List.listTooLong (((ws.length:Nat):Int).toNat)=true then _ else _) _ _ _
 rw [Int.toNat_natCast,notLongL f,if_neg Bool.false_ne_true]
 exact wpAny_pure (q _ _ i)
def TaO (t it:Addr) (i:Nat):HO:=.ext fun h=>IsTupIter h it t i
theorem qY {P:Program} {w:World} {H:Hp} {h:Heap} {t it:Addr} {i:Nat} (e:IsTupIter h it t i):ObjOk P w H h it (TaO t it i):=⟨e,let ⟨o,a,_⟩:=e;⟨o,a⟩,fun b c ⟨o,a,r⟩ k=>⟨o,k _ a,r⟩⟩
theorem pV {prog:Program} {w:World} {A:Around} {E:Value→Shared→Prop} {s:Shared} {it t:Addr} {i:Nat} {items:Array Value} {Q:Option Value→Shared→Prop} (f:A.handled=none)
  (hit:IsTupIter s.heap it t i) (ht:IsTup s.heap t items) (g:items[i]?=none)
  (h:∀ h',Heap.ExtBut it s.heap h'→(∃ o,h'.get? it=some o)→Q none { s with heap:=h' }):wpAny (model prog w) A (pyNext (.ref it)) Q E s:=by
 obtain ⟨o,c,j,hd⟩:=id hit
 obtain ⟨k,d,_,nt,e⟩:=ht
 unfold pyNext
 refine wpAny_bind (wpAny_attempt (wpAny_callSpecial?_slot (name:=Str.ofString "__next__") hit.typeIs slot_tupleiter_next
  (wpAny_call_entry slot_tupleiter_next hit.typeIs entry_tupleiter_next ?_ (args_tupleiter_next _))))
 show wpAny _ _ (field (.ref it) 0 >>= _) _ _ s
 refine wpAny_bind (wpAny_field c hd (x:=.ref t) rfl ?_)
 show wpAny _ _ (if (Value.ref t==Value.none)=true then _ else _) _ _ s
 rw [if_neg (show ¬ ((Value.ref t==Value.none)=true) from Bool.false_ne_true)]
 show wpAny _ _ (field (.ref it) 1 >>= _) _ _ s
 refine wpAny_bind (wpAny_field c hd (x:=.int i 0) rfl ?_)
 show wpAny _ _ (seqItems? (.ref t) >>= _) _ _ s
 refine wpAny_bind (wpAny_seqItems d e ?_)
 simp only [Int.toNat_natCast,g]
 refine wpAny_bind (wpAny_rule (wpAny_bind (wpAny_setField c hd (by simp) ?_)))
 show wpAny _ _ (newExc (.type "StopIteration") [] >>= _) _ _ _
 refine wpAny_bind ?_
 simp only [newExc,newTuple]
 refine wpAny_bind (wpAny_newObj_type ?_ (by size_fits))
 refine wpAny_bind (m:=firstArgMember _ _) (wpAny_of_eq (a:=Value.none) (by first | rfl | (simp only [firstArgMember];rfl)) ?_)
 refine wpAny_newObj_type ?_ (by size_fits)
 simp only [raiseNew]
 refine wpAny_bind (wpAny_handled ?_)
 first | rw [show A.in1.handled=none from f] | rw [f]
 refine wpAny_bind (wpAny_pure (wpAny_throw ?_))
 refine wpAny_bind (wpAny_isInstance (T:="StopIteration") (b:=true) ⟨_,Heap.get?_push_size _ rfl,rfl⟩ isSubtype_stop ?_)
 refine wpAny_pure (h _ (((Heap.SameBut.update ..).extBut.push _).push _) ⟨_,Heap.get?_push_of_some _ (Heap.get?_push_of_some _ (Heap.get?_update_self _ c (Obj.isFreed_of_fields (Obj.data_mapFields hd _))))⟩)
theorem qT {A1:Around} {t it q:Addr} {ws:List V} {res:Value} {Rs:Result→Shared→Prop} {H0:Hp} (G:A1.in1.handled=none) (Q:ws.length≤sizeLine) (hit:H0 it=none) (v:H0 q=none) (a:it≠q) (ht:SqT X.K H0 t ws)
  (c:∀ y,Inv X pins σ (upd (upd H0 q (.lst ws)) it (JkO it)) y→Rs (.ok (.ret res)) y) :
  ∀ (m i:Nat) (s:Shared),ws.length-i=m→i≤ws.length→Inv X pins σ (upd (upd H0 q (.lst (ws.take i))) it (TaO t it i)) s→codeAny (model X.prog X.w) A1 (.builtin "list.extend.loop" ⟨[.ref q,.ref it,res],[]⟩) Rs s:=by
 intro m
 induction m with
 | zero =>
  intro i s hm hi I
  have ei:i=ws.length:=by omega
  subst ei
  refine codeAny_builtin PySem.F.entry_extend_loop ?_
  rw [Around.under_plainId PySem.F.plain_extend_loop _]
  show wpAny _ A1.in1 (pyNext (.ref it) >>= _) _ _ s
  have k:IsTupIter s.heap it t ws.length:=(I.hok it _ upd_same).1
  obtain ⟨its,l,pl,_⟩:=I.tuple (dD (dD ht v) (by rw [upd_ne a];exact hit))
  refine wpAny_bind (pV G k pl (by rw [List.getElem?_toArray];exact l.none_of (List.getElem?_eq_none_iff.mpr (Nat.le_refl _))) fun h' sb ⟨o,j⟩=>?_)
  refine wpAny_pure (c _ ?_)
  have n:Mut ((upd (upd H0 q (.lst (ws.take ws.length))) it (TaO t it ws.length)) it):=by rw [upd_same];exact True.intro
  have d:=I.write (x:=it) (e:=it) (o:=JkO it) (h':=h') (t':=s.toks) n (.inl rfl) (fun b u nb z=>sb b u nb z) ⟨o,j⟩ (wB j)
  rw [upd_upd,List.take_length] at d
  exact d
 | succ m ih =>
  intro i s hm hi I
  refine codeAny_builtin PySem.F.entry_extend_loop ?_
  rw [Around.under_plainId PySem.F.plain_extend_loop _]
  show wpAny _ A1.in1 (pyNext (.ref it) >>= _) _ _ s
  have k:IsTupIter s.heap it t i:=(I.hok it _ upd_same).1
  obtain ⟨its,l,pl,_⟩:=I.tuple (dD (dD ht v) (by rw [upd_ne a];exact hit))
  have B:ws[i]?=some (ws[i]'(by omega)):=List.getElem?_eq_getElem (by omega)
  obtain ⟨u,H,J⟩:=l.get B
  refine wpAny_bind (next_tuple_item k pl (by rw [List.getElem?_toArray];exact H) fun h' C sb=>?_)
  have n:Mut ((upd (upd H0 q (.lst (ws.take i))) it (TaO t it i)) it):=by rw [upd_same];exact True.intro
  have d:=I.write (x:=it) (e:=it) (o:=TaO t it (i+1)) (h':=h') (t':=s.toks) n (.inl rfl) (fun b o nb z=>(sb.2 b nb).trans z) (let ⟨o,j,_⟩:=C;⟨o,j⟩) (qY C)
  rw [upd_upd] at d
  show wpAny _ A1.in1 (updateSeq q (·.push u) >>= _) _ _ _
  have g:upd (upd H0 q (.lst (ws.take i))) it (TaO t it (i+1)) q=some (.lst (ws.take i)):=by rw [upd_ne (fun z=>a z.symm),upd_same]
  obtain ⟨z,its2,k2,L,M,e⟩:=d.lstM g
  have N:its2.length≤i:=by rw [← M,List.length_take];omega
  refine wpAny_bind (wpAny_updateSeq e rfl (wpAny_pure ⟨plainId_quiet PySem.F.plain_extend_loop _,?_⟩) (by rw [List.size_toArray];omega) (by show (its2.toArray.push u).size≤sizeLine+1;rw [Array.size_push,List.size_toArray];omega))
  have p:=d.lset (f:=(·.push u)) (its':=its2++[u]) (ys:=ws.take i++[ws[i]'(by omega)]) (t':=s.toks) g e (by simp) (L.append (.cons J .nil)) (by rw [List.length_append,List.length_singleton,List.length_take];omega)
  have O:ws.take i++[ws[i]'(by omega)]=ws.take (i+1):=by rw [List.take_add_one,B];rfl
  rw [O] at p
  have P:upd (upd (upd H0 q (.lst (ws.take i))) it (TaO t it (i+1))) q (.lst (ws.take (i+1)))=upd (upd H0 q (.lst (ws.take (i+1)))) it (TaO t it (i+1)):=by
   funext b
   by_cases h:b=q
   ·subst h
    rw [upd_same,upd_ne (fun z=>a z.symm),upd_same]
   ·by_cases r:b=it
    ·subst r
     rw [upd_ne h,upd_same,upd_same]
    ·rw [upd_ne h,upd_ne r,upd_ne h,upd_ne r,upd_ne h]
  rw [P] at p
  exact ih (i+1) _ (by omega) (by omega) p
theorem lG (g:X.calm=true) (O:ItS X.K C fi fl) (FI:FnR X.prog X.w X.K X.mg X.base CX0 k fi (t7 X.K C)) (FL:FnR X.prog X.w X.K X.mg X.base CX0 k fl (pQ X.K C)) (hr:Room (k+4) X.A) :
  CallR X (.type "list") (fun xs H Q=>∃ (a dx t:Addr) (ws:List V),xs=[.ref a]∧SlX.Slt H a C dx [some (.ref t)]∧SqT X.K H t ws∧∀ q,H q=none→Q (.ref q) (upd H q (.lst ws))):=by
 intro pins s σ H xs us Q I P h
 obtain ⟨a,dx,t,ws,rfl,hs,ht,hq⟩:=h
 obtain ⟨u,rfl,ru⟩:=P.one
 cases ru
 have R:Sub X (k+4) X.A:=⟨hr,rfl⟩
 have i:Sub X (k+2) X.A.in1.in1:=Sub.in1 (Sub.in1 R)
 have B:Sub X (k+1) X.A.in1.in1.in1:=Sub.in1 i
 refine callType_codes (Q₁:=fun obj s₁=>obj=.ref s.heap.objs.size∧s₁={ s with heap:=s.heap.push { cls:=.type "list",data:=.seq #[] } }) PySem.F.called_list (PySem.F.typeCall_list_1 _) PySem.F.entry_list_init
  (code_list_new _ ⟨rfl,rfl⟩) fun obj s₁ h₁=>?_
 obtain ⟨rfl,rfl⟩:=h₁
 have N:(s.heap.push { cls:=.type "list",data:=.seq #[] }).get? s.heap.objs.size=some { cls:=.type "list",data:=.seq #[] }:=Heap.get?_push_size _ rfl
 refine ⟨⟨_,N,rfl⟩,PySem.F.args_list_init_2 _ _,?_⟩
 have fr:H s.heap.objs.size=none:=I.hok.fresh (Nat.le_refl _)
 have I1:Inv X pins σ (upd H s.heap.objs.size (.lst [])) { s with heap:=s.heap.push { cls:=.type "list",data:=.seq #[] } }:=I.lnew (its:=[]) (t':=s.toks) .nil (Nat.zero_le _)
 show wpAny _ _ (do let old ← Builtin.List.listItems (.ref s.heap.objs.size);Builtin.List.listUpdate (.ref s.heap.objs.size) (fun _=>#[]);letGo old.toList.reverse;Builtin.List.listExtendWith (.ref s.heap.objs.size) (.ref a) .none) _ _ _
 refine wpAny_bind ?_
 unfold Builtin.List.listItems
 refine wpAny_bind (wpAny_seqItems N rfl (wpAny_pure ?_))
 show wpAny _ _ (updateSeq s.heap.objs.size (fun _=>#[]) >>= fun _=>letGo (#[]:Array Value).toList.reverse >>= fun _=>Builtin.List.listExtendWith (.ref s.heap.objs.size) (.ref a) .none) _ _ _
 refine wpAny_bind (wpAny_updateSeq N rfl ?_)
 have y:=I1.lset (f:=fun _=>#[]) (its:=[]) (its':=[]) (ys:=[]) (t':=s.toks) upd_same N rfl .nil (Nat.zero_le _)
 rw [upd_upd] at y
 refine wpAny_bind (wpAny_letGo ?_)
 have j:SlX.Slt (upd H s.heap.objs.size (.lst [])) a C dx [some (.ref t)]:=jU hs fr
 have m:SqT X.K (upd H s.heap.objs.size (.lst [])) t ws:=dD ht fr
 have n:upd H s.heap.objs.size (.lst []) s.heap.objs.size=some (.lst []):=upd_same
 generalize hgen:upd H s.heap.objs.size (.lst [])=H1 at *
 obtain ⟨sl,od,_,J,_⟩:=SlX.slt_inst y j
 obtain ⟨its,rt,pt,hz⟩:=y.tuple m
 obtain ⟨m0,hF⟩:=y.fr
 have Y:s.heap.objs.size≠a:=fun z=>by
  rcases hs with ⟨p,_⟩ | ⟨p,_⟩
  ·rw [← z,fr] at p;cases p
  ·rw [← z,fr] at p;cases p
 unfold Builtin.List.listExtendWith
 refine wpAny_bind (J.type.here ?_)
 have p:Builtin.List.listSameRef (.ref s.heap.objs.size) (.ref a)=false:=by simp [Builtin.List.listSameRef,Y]
 have h2:(Value.ref C==Value.type "list")=false:=rfl
 have h3:(Value.ref C==Value.type "tuple")=false:=rfl
 simp only [p,h2,h3,Bool.or_false,Bool.false_eq_true,if_false]
 refine wpAny_bind (PySem.W.owit_iter hF y.ok.mod.kin J O.it O.itF ?_)
 refine jP (k:=k) (Q:=fun v H2=>∃ it,v=.ref it∧H1 it=none∧H2=upd H1 it (TiO t it)) FI (i.room.mono (by omega)) ?_ y (.cons (show RelV (V.ref a) (Value.ref a) from rfl) .nil) ⟨a,dx,t,ws,rfl,j,m,fun it hit=>⟨it,rfl,hit,rfl⟩⟩ fun u s' h=>?_
 ·exact i.fr
 obtain ⟨v,H2,I3,P,it,rfl,hit,rfl⟩:=h
 cases P
 have c:it≠s.heap.objs.size:=fun z=>by rw [z,n] at hit;cases hit
 have g1:s'.heap.get? it=some (mr t):=(I3.hok it _ upd_same).1
 have hT:s'.TypeIs (.ref it) "tuple_iterator" := ⟨_,g1,rfl⟩
 unfold PySem.W.OwitIt
 refine wpAny_specialOf hT slot_tupleiter_next.lookup ?_
 have Z:=jU (o:=TiO t it) j hit
 have aa:=dD (o:=TiO t it) m hit
 have G:ws.length≤sizeLine:=hz
 refine wpAny_bind (wpAny_holding (qX (k:=k) O FL (B.room.mono (by omega)) B.fr I3 Z aa G fun b s4 I4=>?_))
 have fin:∀ s5:Shared,Inv X pins σ (upd H1 it (TiO t it)) s5→codeAny (model X.prog X.w) X.A.in1 (.builtin "list.extend.loop" ⟨[.ref s.heap.objs.size,.ref it,.none],[]⟩) (wants (fun r s₂=>r=.none∧EP X pins σ Q (.ref s.heap.objs.size) s₂) X.xe) s5:=by
  intro s5 I5
  have d:H it=none:=by
   have:=hit
   rw [← hgen,upd_ne c] at this
   exact this
  have g5:s5.heap.get? it=some (mr t):=(I5.hok it _ upd_same).1
  have mu:Mut ((upd H1 it (TiO t it)) it):=by rw [upd_same];exact True.intro
  have e5:IsTupIter s5.heap it t 0:=⟨_,g5,rfl,rfl⟩
  have I8:=I5.write (x:=it) (e:=it) (o:=TaO t it 0) (h':=s5.heap) (t':=s5.toks) mu (.inl rfl) (fun b o nb z=>z) ⟨_,g5⟩ (qY e5)
  rw [upd_upd,← hgen] at I8
  refine qT (A1:=X.A.in1) (H0:=H) (I.ok.hd g) G d fr c ht (fun s6 I9=>?_) ws.length 0 s5 (by omega) (by omega) (by rw [List.take_zero];exact I8)
  refine ⟨rfl,.ref s.heap.objs.size,upd H s.heap.objs.size (.lst ws),?_,rfl,hq _ fr⟩
  have L:=ItX.inv_drop I9 (a:=it) upd_same
  rw [ItX.dropH_upd (by rw [upd_ne c];exact d)] at L
  exact L
 obtain ⟨z,ab,k4,r4,ad,e4⟩:=I4.lstM (l:=s.heap.objs.size) (xs:=[]) (by rw [upd_ne (fun z=>c z.symm)];exact n)
 cases r4
 refine wpAny_ite_split (fun _=>?_) (fun _=>wpAny_pure ⟨plainId_quiet PySem.F.plain_extend_loop _,fin s4 I4⟩)
 refine wpAny_bind (wpAny_rule ?_)
 refine wpAny_bind ?_
 show wpAny _ _ (updateSeq s.heap.objs.size (·.push .none) >>= fun _=>updateSeq s.heap.objs.size (·.pop)) _ _ _
 refine wpAny_bind (wpAny_updateSeq e4 rfl ?_)
 have M:upd H1 it (TiO t it) s.heap.objs.size=some (.lst []):=by rw [upd_ne (fun z=>c z.symm)];exact n
 have I6:=I4.lset (f:=(·.push Value.none)) (its':=[Value.none]) (ys:=[.non]) (t':=s4.toks) M e4 (by simp) (.cons rfl .nil) (by rw [List.length_singleton,sizeLine_eq];decide)
 obtain ⟨z6,ac,k6,r6,ae,e6⟩:=I6.lstM upd_same
 obtain ⟨u6,rfl,ag⟩:=r6.one
 refine wpAny_updateSeq e6 rfl ?_ (by show 1≤sizeLine;rw [sizeLine_eq];decide) (by show 0≤sizeLine+1;exact Nat.zero_le _)
 refine wpAny_pure ⟨plainId_quiet PySem.F.plain_extend_loop _,fin _ ?_⟩
 have I7:=I6.lset (f:=(·.pop)) (its:=[u6]) (its':=[]) (ys:=[]) (t':=s4.toks) upd_same e6 (by rfl) .nil (Nat.zero_le _)
 rw [upd_upd] at I7
 have hH:upd (upd H1 it (TiO t it)) s.heap.objs.size (.lst [])=upd H1 it (TiO t it):=by
  funext b
  by_cases hb:b=s.heap.objs.size
  ·rw [hb,upd_same,M]
  ·rw [upd_ne hb]
 rw [hH] at I7
 exact I7
end
end Ob
namespace Ob
open PySem PySem.Spec PyProof.Rows L2
abbrev Gh (P:Program) (w:World) (A:Around) (R:Result→Shared→Prop):Fin→Shared→Prop:=fun fin s'=>match fin with
 | .done f=>R (.ok f) s'
 | .again c'=>c'.quiet=true∧codeAny (model P w) A c' R s'
section
variable {X:Cx} {pins:List (Addr × Obj)} {σ:L2.St} {H:Hp} {s:Shared} {C fi fl:Addr} {k:Nat}
theorem zP {g:Around} {q a dx t:Addr} {ws:List V} {res:Value} {Rs:Result→Shared→Prop} {E:Value→Shared→Prop} (O:ItS X.K C fi fl) (FI:FnR X.prog X.w X.K X.mg X.base CX0 k fi (t7 X.K C)) (FL:FnR X.prog X.w X.K X.mg X.base CX0 k fl (pQ X.K C))
  (p:Sub X (k+2) g.in1) (r:Sub X (k+1) g.in1.in1) (hh:g.in1.handled=none) (fr:H q=none) (y:SlX.Slt H a C dx [some (.ref t)]) (hq:SqT X.K H t ws) (B:Inv X pins σ (upd H q (.lst [])) s)
  (i:∀ G,Inv X pins σ (upd H q (.lst ws)) G→Rs (.ok (.ret res)) G) :
  wpAny (model X.prog X.w) g.in1 (Builtin.List.listExtendWith (.ref q) (.ref a) res) (Gh X.prog X.w g Rs) E s:=by
 have j:SlX.Slt (upd H q (.lst [])) a C dx [some (.ref t)]:=jU y fr
 have m:SqT X.K (upd H q (.lst [])) t ws:=dD hq fr
 have n:upd H q (.lst []) q=some (.lst []):=upd_same
 generalize hgen:upd H q (.lst [])=H1 at *
 obtain ⟨sl,od,_,J,_⟩:=SlX.slt_inst B j
 obtain ⟨its,rt,pt,hz⟩:=B.tuple m
 obtain ⟨m0,hF⟩:=B.fr
 have P:q≠a:=fun z=>by
  rcases y with ⟨I,_⟩ | ⟨I,_⟩
  ·rw [← z,fr] at I;cases I
  ·rw [← z,fr] at I;cases I
 unfold Builtin.List.listExtendWith
 refine wpAny_bind (J.type.here ?_)
 have c1:Builtin.List.listSameRef (.ref q) (.ref a)=false:=by simp [Builtin.List.listSameRef,P]
 have c2:(Value.ref C==Value.type "list")=false:=rfl
 have c3:(Value.ref C==Value.type "tuple")=false:=rfl
 simp only [c1,c2,c3,Bool.or_false,Bool.false_eq_true,if_false]
 refine wpAny_bind (PySem.W.owit_iter hF B.ok.mod.kin J O.it O.itF ?_)
 refine jP (k:=k) (Q:=fun v H2=>∃ it,v=.ref it∧H1 it=none∧H2=upd H1 it (TiO t it)) FI (p.room.mono (by omega)) ?_ B (.cons (show RelV (V.ref a) (Value.ref a) from rfl) .nil) ⟨a,dx,t,ws,rfl,j,m,fun it hit=>⟨it,rfl,hit,rfl⟩⟩ fun u G h=>?_
 ·exact p.fr
 obtain ⟨v,H2,I3,rv,it,rfl,hit,rfl⟩:=h
 cases rv
 have c:it≠q:=fun z=>by rw [z,n] at hit;cases hit
 have g1:G.heap.get? it=some (mr t):=(I3.hok it _ upd_same).1
 have hT:G.TypeIs (.ref it) "tuple_iterator" := ⟨_,g1,rfl⟩
 unfold PySem.W.OwitIt
 refine wpAny_specialOf hT slot_tupleiter_next.lookup ?_
 have R:=jU (o:=TiO t it) j hit
 have Y:=dD (o:=TiO t it) m hit
 have L:ws.length≤sizeLine:=hz
 refine wpAny_bind (wpAny_holding (qX (k:=k) O FL (r.room.mono (by omega)) r.fr I3 R Y L fun b s4 Z=>?_))
 have fin:∀ s5:Shared,Inv X pins σ (upd H1 it (TiO t it)) s5→codeAny (model X.prog X.w) g (.builtin "list.extend.loop" ⟨[.ref q,.ref it,res],[]⟩) Rs s5:=by
  intro s5 I5
  have d:H it=none:=by
   have:=hit
   rw [← hgen,upd_ne c] at this
   exact this
  have g5:s5.heap.get? it=some (mr t):=(I5.hok it _ upd_same).1
  have mu:Mut ((upd H1 it (TiO t it)) it):=by rw [upd_same];exact True.intro
  have e5:IsTupIter s5.heap it t 0:=⟨_,g5,rfl,rfl⟩
  have I8:=I5.write (x:=it) (e:=it) (o:=TaO t it 0) (h':=s5.heap) (t':=s5.toks) mu (.inl rfl) (fun b o nb z=>z) ⟨_,g5⟩ (qY e5)
  rw [upd_upd,← hgen] at I8
  refine qT (A1:=g) (H0:=H) hh L d fr c hq (fun s6 I9=>?_) ws.length 0 s5 (by omega) (by omega) (by rw [List.take_zero];exact I8)
  refine i _ ?_
  have M:=ItX.inv_drop I9 (a:=it) upd_same
  rw [ItX.dropH_upd (by rw [upd_ne c];exact d)] at M
  exact M
 obtain ⟨z,aa,k4,r4,ac,e4⟩:=Z.lstM (l:=q) (xs:=[]) (by rw [upd_ne (fun z=>c z.symm)];exact n)
 cases r4
 refine wpAny_ite_split (fun _=>?_) (fun _=>wpAny_pure ⟨plainId_quiet PySem.F.plain_extend_loop _,fin s4 Z⟩)
 refine wpAny_bind (wpAny_rule ?_)
 refine wpAny_bind ?_
 show wpAny _ _ (updateSeq q (·.push .none) >>= fun _=>updateSeq q (·.pop)) _ _ _
 refine wpAny_bind (wpAny_updateSeq e4 rfl ?_)
 have N:upd H1 it (TiO t it) q=some (.lst []):=by rw [upd_ne (fun z=>c z.symm)];exact n
 have I6:=Z.lset (f:=(·.push Value.none)) (its':=[Value.none]) (ys:=[.non]) (t':=s4.toks) N e4 (by simp) (.cons rfl .nil) (by rw [List.length_singleton,sizeLine_eq];decide)
 obtain ⟨z6,ab,k6,r6,ad,e6⟩:=I6.lstM upd_same
 obtain ⟨u6,rfl,ae⟩:=r6.one
 refine wpAny_updateSeq e6 rfl ?_ (by show 1≤sizeLine;rw [sizeLine_eq];decide) (by show 0≤sizeLine+1;exact Nat.zero_le _)
 refine wpAny_pure ⟨plainId_quiet PySem.F.plain_extend_loop _,fin _ ?_⟩
 have I7:=I6.lset (f:=(·.pop)) (its:=[u6]) (its':=[]) (ys:=[]) (t':=s4.toks) upd_same e6 (by rfl) .nil (Nat.zero_le _)
 rw [upd_upd] at I7
 have hH:upd (upd H1 it (TiO t it)) q (.lst [])=upd H1 it (TiO t it):=by
  funext b
  by_cases hb:b=q
  ·rw [hb,upd_same,N]
  ·rw [upd_ne hb]
 rw [hH] at I7
 exact I7
theorem oV {A:Around} {a dx t:Addr} {ws:List V} {Q:List Value→Shared→Prop} {E:Value→Shared→Prop} (g:ItS X.K C fi fl) (i:FnR X.prog X.w X.K X.mg X.base CX0 k fi (t7 X.K C)) (j:FnR X.prog X.w X.K X.mg X.base CX0 k fl (pQ X.K C))
  (c:Sub X (k+2) A.in1) (d:Sub X (k+1) A.in1.in1) (m:A.in1.handled=none) (hs:SlX.Slt H a C dx [some (.ref t)]) (ht:SqT X.K H t ws) (I:Inv X pins σ H s)
  (n:∀ us b q,H q=none→Vals ws us→ws.length≤sizeLine→Inv X pins σ (upd H q (.lst ws)) b→Q us b):wpAny (model X.prog X.w) A (collect (.ref a)) Q E s:=by
 have fr:H s.heap.objs.size=none:=I.hok.fresh (Nat.le_refl _)
 unfold collect
 refine wpAny_bind (wpAny_runValue (codeAny_builtin F.entry_proto_collect ?_))
 rw [Around.under_plainId F.plain_proto_collect _]
 show wpAny _ A.in1 (newList [] >>= fun l=>again (.builtin "list.__iadd__" ⟨[l,.ref a],[]⟩)) _ _ s
 refine wpAny_bind (wpAny_newObj_type ?_)
 refine wpAny_pure ⟨plainId_quiet F.plain_list_iadd _,codeAny_builtin F.entry_list_iadd ?_⟩
 rw [Around.under_plainId F.plain_list_iadd _]
 have o:Inv X pins σ (upd H s.heap.objs.size (.lst [])) { s with heap:=s.heap.push { cls:=.type "list",data:=.seq ([]:List Value).toArray } }:=I.lnew (its:=[]) (t':=s.toks) .nil (Nat.zero_le _)
 show wpAny _ A.in1 (Builtin.List.listExtendWith (.ref s.heap.objs.size) (.ref a) (.ref s.heap.objs.size)) _ _ _
 refine wpAny_mono (zP (Rs:=fun r b=>match r with
  | .ok (.ret v)=>wpAny (model X.prog X.w) A (match v with
    | .ref a=>do
     match (← load a).data with
     | .seq xs _=>pure xs.toList
     | _=>unsupported "internal:collect"
    | _=>unsupported "internal:collect") Q E b
  | .ok _=>False
  | .error e=>E e b) g i j c d m fr hs ht o fun b f=>?_) (fun fin b h=>by cases fin<;>exact h) fun _ _ e=>e
 obtain ⟨z,its,u,r,x,e⟩:=f.lstM upd_same
 show wpAny _ A (load s.heap.objs.size >>= _) _ _ b
 refine wpAny_bind (wpAny_load e ?_)
 refine wpAny_pure (n _ _ _ fr ?_ ?_ f)
 ·simpa using r
 ·obtain ⟨_,_,_,p⟩:=I.tuple ht
  exact p
theorem Bh {a dx t:Addr} {ws:List V} {Q:VK} (Y:ItS X.K C fi fl) (Z:FnR X.prog X.w X.K X.mg X.base CX0 k fi (t7 X.K C)) (FL:FnR X.prog X.w X.K X.mg X.base CX0 k fl (pQ X.K C)) (cm:X.calm=true) (hr:Room (k+5) X.A) (hs:SlX.Slt H a C dx [some (.ref t)]) (ht:SqT X.K H t ws) (I:Inv X pins σ H s)
  (hQ:∀ y,H y=none→Q (.ref y) (upd H y (.tup ws))):wpAny (model X.prog X.w) X.A (call (.type "tuple") [.ref a]) (EP X pins σ Q) X.xe s:=by
 have j:Sub X (k+5) X.A:=⟨hr,rfl⟩
 have m:=Sub.in1 j
 have n:=Sub.in1 m
 have d:=Sub.in1 n
 have p:=Sub.in1 d
 have r:X.A.handled=none:=I.ok.hd cm
 obtain ⟨sl,od,_,J,_⟩:=SlX.slt_inst I hs
 refine callType_codes (Q₁:=fun obj i=>i.TypeIs obj "tuple" ∧ EP X pins σ Q obj i) F.called_tuple (F.typeCall_tuple_1 _) F.entry_object_init ?_ fun obj i h₁ =>
  ⟨h₁.1,F.args_object_init_2 obj _,object_init_meets F.called_tuple.init.lookup F.called_tuple.made (by decide) X.prog X.w X.A.in1 _ i ⟨h₁.1,rfl,h₁.2⟩⟩
 refine codeAny_of_tree ?_
 show wpAny _ X.A.in1.in1 (do checkBuiltinCall "tuple.__new__" ⟨[.type "tuple",.ref a],[]⟩;again (.builtin "tuple.__new__" ⟨[.type "tuple",.ref a],[]⟩)) _ _ s
 refine wpAny_bind (wpAny_of_eq (F.newCall_tuple_1 _) (wpAny_pure ⟨plainId_quiet F.plain_tuple_new _,codeAny_builtin F.entry_tuple_new ?_⟩))
 rw [Around.under_plainId F.plain_tuple_new _]
 have L:=sub_tuple_self
 have u:=init_tuple_lookup
 have aa:=madeHere_tuple
 have B:∀ {Q':Value→Shared→Prop} {E:Value→Shared→Prop} {M:Model} {A:Around},Q' (.ref C) s→wpAny M A (typeOf (.ref a)) Q' E s:=fun h=>J.type.here h
 have ab:(Value.ref C==Value.type "tuple")=false:=rfl
 have f:∀ {Q':List Value→Shared→Prop} {E:Value→Shared→Prop},(∀ us c q,H q=none→Vals ws us→ws.length≤sizeLine→Inv X pins σ (upd H q (.lst ws)) c→Q' us c)→wpAny (model X.prog X.w) X.A.in1.in1 (collect (.ref a)) Q' E s:=fun h=>oV (k:=k) Y Z FL d p r hs ht I h
 wp_walk using B,f
 intro us c q hq N O P
 show wpAny _ _ (Builtin.Tuple.tupleExact us.toArray >>= fun v=>ret v) _ _ _
 obtain ⟨_,R,n1,_,_,g1⟩:=P.lstM (l:=q) (xs:=ws) upd_same
 have mu:Mut ((upd H q (.lst ws)) q):=by rw [upd_same];exact True.intro
 have g:=P.write (x:=q) (e:=q) (o:=JkO q) (h':=c.heap) (t':=c.toks) mu (.inl rfl) (fun b o nb z=>z) ⟨_,g1⟩ (wB g1)
 rw [upd_upd] at g
 have G:=ItX.inv_drop g (a:=q) upd_same
 rw [ItX.dropH_upd hq] at G
 unfold Builtin.Tuple.tupleExact
 refine wpAny_bind (wpAny_newObj_type ?_ (by show us.toArray.size≤sizeLine;rw [List.size_toArray,← N.length];exact O))
 refine wpAny_pure ?_
 have I3:Inv X pins σ (upd H c.heap.objs.size (.tup ws)) { c with heap:=c.heap.push { cls:=.type "tuple",data:=.seq us.toArray } } :=
  G.laid (t':=c.toks) (fun b o e=>Heap.get?_push_of_some _ e) (Nat.le_refl _) (show ObjOk X.prog X.w _ _ _ (.tup ws) from ⟨O,us,N,IsTup.new _ _⟩)
 exact ⟨⟨_,Heap.get?_push_size _ rfl,rfl⟩,.ref _,_,I3,rfl,hQ _ (G.hok.fresh (Nat.le_refl _))⟩
end
end Ob
namespace HsW
open PySem
open Sem (wp)
def fG (b:Addr) (s:Shared):Prop:=b<s.heap.objs.size∧s.heap.get? b=none
theorem j5 {b:Addr} {s:Shared} {o:Obj} (h:fG b s):fG b { s with heap:=s.heap.push o }:=by
 obtain ⟨a,c⟩:=h
 refine ⟨by show b<(s.heap.push o).objs.size;rw [Heap.size_push];exact Nat.lt_succ_of_lt a,?_⟩
 show (s.heap.push o).get? b=none
 have e:(s.heap.push o).objs[b]?=s.heap.objs[b]?:=by
  show (s.heap.objs.push o)[b]?=_
  rw [Array.getElem?_push,if_neg (Nat.ne_of_lt a)]
 unfold Heap.get? at c ⊢
 rw [e]
 exact c
theorem nX {b a:Addr} {s:Shared} {f:Obj→Obj} (ha:(s.heap.get? a).isSome=true) (h:fG b s):fG b { s with heap:=s.heap.update a f }:=by
 have n:a≠b:=fun z=>by rw [z,h.2] at ha;cases ha
 exact ⟨by show b<(s.heap.update a f).objs.size;rw [(Heap.SameBut.update s.heap a f).1];exact h.1,by show (s.heap.update a f).get? b=none;rw [Heap.get?_update_other _ _ n];exact h.2⟩
theorem bD {b:Addr} {s:Shared} {g:Nat} {x:GenState} (h:fG b s):fG b (s.setGen g x):=h
theorem gS {M:Model} {Γ:Ctx} {p:Pos} {t:Sem PySem.Fin} {fs:List Frame} {s a:Shared} {e:End} {b:Addr} (h:Runs M Γ p t fs s e a):fG b s→fG b a:=by
 induction h with
 | done=>exact id
 | raise=>exact id
 | again _ _ ih=>exact ih
 | rule _ ih=>exact ih
 | «at» _ ih=>exact ih
 | load _ _ ih=>exact ih
 | update ha _ ih=>exact fun h=>ih (nX ha h)
 | loadIfAlive _ ih=>exact ih
 | point _ ih=>exact ih
 | alloc _ ih=>exact fun h=>ih (j5 h)
 | fresh _ ih=>exact ih
 | ask _ ih=>exact ih
 | choose _ _ ih=>exact ih
 | os _ ih=>exact ih
 | handled _ ih=>exact ih
 | genState _ _ ih=>exact ih
 | stack _ ih=>exact ih
 | thread _ ih=>exact ih
 | newGen _ ih=>exact ih
 | call _ _ i1 i2=>exact fun h=>i2 (i1 h)
 | callSusp _ ih=>exact ih
 | yield=>exact id
 | resumeFresh _ _ _ _ i1 i2=>exact fun h=>i2 (bD (i1 (bD h)))
 | resumeSuspended _ _ _ _ i1 i2=>exact fun h=>i2 (bD (i1 (bD h)))
 | resumeJustStarted _ _ _ ih=>exact ih
 | resumeThrowFresh _ _ ih=>exact fun h=>ih (bD h)
 | resumeRunning _ _ ih=>exact ih
 | resumeFinished _ _ ih=>exact ih
 | segRet _ _ i1 i2=>exact fun h=>i2 (i1 h)
 | segGen _ _ i1 i2=>exact fun h=>i2 (bD (i1 h))
 | segSuspOut _ _ ih=>exact ih
 | segSuspGen _ _ _ _ i1 i2=>exact fun h=>i2 (bD (i1 h))
theorem pO {M:Model} {Γ:Ctx} {p:Pos} {g:Nat} {r:Resume} {s c:Shared} {res:GenResult} {b:Addr} (h:Wakes M Γ p g r s res c) (d:fG b s):fG b c:=by
 unfold Wakes at h
 split at h
 ·exact h.elim
 ·split at h
  ·obtain ⟨e,f,a,_,_,rfl⟩:=h
   exact bD (gS a (bD d))
  ·rw [h.2];exact d
  ·rw [h.2];exact bD d
 ·obtain ⟨e,f,a,_,_,rfl⟩:=h
  exact bD (gS a (bD d))
 ·rw [h.2];exact d
 ·rw [h.2];exact d
theorem yv {α:Type} (M:Model) (Γ:Ctx) (D:Addr→Prop) (t:Sem α):∀ (Q:α→Pos→Shared→Prop) (E:Value→Pos→Shared→Prop) (p:Pos) (s:Shared),(∀ b,D b→fG b s)→wp M Γ t Q E p s →
  wp M Γ t (fun a j d=>(∀ b,D b→fG b d)∧Q a j d) (fun e j d=>(∀ b,D b→fG b d)∧E e j d) p s:=by
 induction t with
 | pure a=>intro Q E p s hn h;exact ⟨hn,h⟩
 | raise e=>intro Q E p s hn h;exact ⟨hn,h⟩
 | unsupported _=>intro Q E p s _ h;exact h
 | finish _=>intro Q E p s _ h;exact h
 | rule _ k ih=>intro Q E p s hn h;exact ih () Q E p s hn h
 | «at» j k ih=>intro Q E p s hn h;exact ih () Q E j s hn h
 | load a _ k ih=>intro Q E p s hn h;obtain ⟨o,n,h⟩:=h;exact ⟨o,n,ih o Q E p s hn h⟩
 | update a _ f k ih=>intro Q E p s hn h;exact ⟨h.1,ih () Q E p _ (fun b i=>nX h.1 (hn b i)) h.2⟩
 | loadIfAlive a k ih=>intro Q E p s hn h;exact ih _ Q E p s hn h
 | point _ k ih=>intro Q E p s hn h;exact ih () Q E p s hn h
 | register _ _=>intro Q E p s _ h;exact h
 | alloc o k ih=>intro Q E p s hn h;exact ih _ Q E p _ (fun b i=>j5 (hn b i)) h
 | fresh k ih=>intro Q E p s hn h;exact ih _ Q E p _ hn h
 | ask k ih=>intro Q E p s hn h;exact ih _ Q E p s hn h
 | choose src m k ih=>intro Q E p s hn h;exact ⟨h.1,ih _ Q E p _ hn h.2⟩
 | os q _ k ih=>intro Q E p s hn h;exact ih _ Q E p _ hn h
 | call c hd _ _ k ih=>intro Q E p s hn h;obtain ⟨r,d,l,h⟩:=h;exact ⟨r,d,l,ih r Q E p d (fun b i=>gS l (hn b i)) h⟩
 | handled own k ih=>intro Q E p s hn h;exact ih _ Q E p s hn h
 | genState g k ih=>intro Q E p s hn h;obtain ⟨st,hs,h⟩:=h;exact ⟨st,hs,ih _ Q E p s hn h⟩
 | newGen c k ih=>intro Q E p s hn h;exact ih _ Q E p _ hn h
 | resume g r _ k ih=>intro Q E p s hn h;obtain ⟨res,d,hw,h⟩:=h;exact ⟨res,d,hw,ih res Q E p d (fun b i=>pO hw (hn b i)) h⟩
 | yield _ _ _ _=>intro Q E p s _ h;exact h
 | stack k ih=>intro Q E p s hn h;exact ih _ Q E p s hn h
 | fork _ _=>intro Q E p s _ h;exact h
 | thread k ih=>intro Q E p s hn h;exact ih _ Q E p s hn h
 | await _ _ _ _ _=>intro Q E p s _ h;exact h
theorem oT {α:Type} {M:Model} {A:Around} {s:Shared} {t:Sem α} {Q:α→Shared→Prop} {E:Value→Shared→Prop} (h:wpAny M A t Q E s):wpAny M A t (fun a c=>(∀ b,fG b s→fG b c)∧Q a c) E s :=
 wpAny_mono (fun Γ p hΓ=>yv M Γ (fun b=>fG b s) t _ _ p s (fun _ z=>z) (h Γ p hΓ):wpAny M A t (fun a c=>(∀ b,fG b s→fG b c)∧Q a c) (fun e c=>(∀ b,fG b s→fG b c)∧E e c) s) (fun _ _ x=>x) fun _ _ x=>x.2
end HsW
namespace Ob
open PySem PySem.Spec PyProof.Rows L2
section
variable {X:Cx} {pins:List (Addr × Obj)} {σ:L2.St} {H:Hp} {s:Shared} {C fi fl:Addr} {k:Nat}
theorem sM {g:Addr} {A1:Around} {sp:Sp} {us:List Value} {vs:List V} {Q:VK} {P:Value→Shared→Prop} {E:Value→Shared→Prop} {s1:Shared} {H1:Hp} (F:FnR X.prog X.w X.K X.mg X.base CX0 k g sp) (f:Room k A1) (d:A1.frames=X.A.frames) (I:Inv X pins σ H1 s1) (r:Vals vs us) (h:sp vs H1 Q (fun _ _ _=>False))
  (q:∀ u c,CE X.stack X.prog X.w H1 s1 Q u c→(∀ b,HsW.fG b s1→HsW.fG b c)→P u c):wpAny (model X.prog X.w) A1 (call (.ref g) us) P E s1:=by
 have e0:Env0 X.prog X.w X.K X.mg X.base A1 X.stack s1 H1:=by
  have e:=I.env0
  exact ⟨by rw [d];exact e.frames,e.mod,e.bs,e.bsz,e.funs,e.frf,e.hok,e.bare⟩
 refine wpAny_mono (HsW.oT (Q:=fun u c=>CE X.stack X.prog X.w H1 s1 Q u c) (wpAny_call (codeAny_mono (F A1 X.stack s1 H1 us vs Q _ f e0 r h) fun r c a=>?_))) (fun u c z=>q u c z.2 z.1) fun _ _ z=>z
 cases r with
 | error e=>exact False.elim a
 | ok fl =>
  cases fl with
  | next=>exact False.elim a
  | brk=>exact False.elim a
  | cont=>exact False.elim a
  | ret u=>exact a
theorem yX {Q:VK} {H1:Hp} {s1 a:Shared} {it:Addr} {u:Value} {o o':HO} {H':Hp} (un:Un (frs X.stack) [] H1 H' s1.heap a.heap) (hd:∀ b,HsW.fG b s1→HsW.fG b a) (h0:H1 it=none) (d:H' it=some o) (c:∃ ob,a.heap.get? it=some ob):s1.heap.objs.size≤it:=by
 rcases Nat.lt_or_ge it s1.heap.objs.size with lt | ge
 ·exfalso
  cases e:s1.heap.get? it with
  | none =>
   obtain ⟨ob,c⟩:=c
   have:=(hd it ⟨lt,e⟩).2
   rw [c] at this
   cases this
  | some ob =>
   have:=un.free it ob e h0 (by simp)
   rw [d] at this
   cases this
 ·exact ge
def iOb (K:Frag) (C:Addr) (tl:TE):TI:=fun σ H R=>tl σ H fun x H1=>∃ a dx t ws,x=.ref a∧SlX.Slt H1 a C dx [some (.ref t)]∧SqT K H1 t ws∧R (Itt K t) H1
theorem C6 {l tg:Expr} {tl:TE} (i:ItS X.K C fi fl) (r:FnR X.prog X.w X.K X.mg X.base CX0 k fi (t7 X.K C)) (y:Room k X.A) (z:PE X l tl):PI X tg l (iOb X.K C tl):=by
 refine ⟨fun pins s σ H R I h=>?_⟩
 refine thn (z.run pins s σ H _ I h) fun v s1 ⟨x,H1,c,r1,B⟩=>?_
 obtain ⟨a,dx,t,ws,e,hs,ht,q⟩:=B
 subst e
 cases r1
 obtain ⟨sl,od,_,J,_⟩:=SlX.slt_inst c hs
 obtain ⟨m0,F⟩:=c.fr
 refine PySem.W.owit_iter F c.ok.mod.kin J i.it i.itF ?_
 refine sM (k:=k) (Q:=fun v j=>∃ it,v=.ref it∧H1 it=none∧j=upd H1 it (TiO t it)) r y rfl c (.cons (show RelV (V.ref a) (Value.ref a) from rfl) .nil) ⟨a,dx,t,ws,rfl,hs,ht,fun it hit=>⟨it,rfl,hit,rfl⟩⟩ fun u m d hd=>?_
 have f:=d
 obtain ⟨v,j,_,_,un,hok,G,it,rfl,hit,rfl⟩:=f
 cases G
 have g1:m.heap.get? it=some (mr t):=(hok it _ upd_same).1
 have far:s1.heap.objs.size≤it:=yX (X:=X) (Q:=fun _ _=>True) (u:=.none) (o':=TiO t it) un hd hit upd_same ⟨_,g1⟩
 obtain ⟨v2,P,n,g,it2,L,o,M⟩:=c.after d
 subst L M
 cases g
 have N:m.TypeIs (.ref it) "tuple_iterator" := ⟨_,g1,rfl⟩
 unfold PySem.W.OwitIt
 refine wpAny_specialOf N slot_tupleiter_next.lookup ?_
 have p:=ItX.inv_drop (φ:=fun h=>h.get? it=some (mr t)) n upd_same
 have fp:=ItX.inv_fp n (u:=TiO t it) upd_same (Nat.le_trans c.sz far)
 rw [ItX.dropH_upd hit] at p fp
 refine ⟨it,[it],_,_,H1,rfl,p,turn_tuple t it,⟨_,g1,rfl,rfl⟩,fun b O=>?_,q⟩
 have e:b=it:=by simpa using O
 rw [e]
 exact fp
end
end Ob
namespace Ev
open PySem PySem.Spec PyProof.Rows L2
section
variable {K:Frag} {F F' H H' F0 H0 F1 H1:Hp} {W W' W0 W1:Fp} {σ:L2.St} {δ δ':Dl}
theorem aC.toV {Wt:Fp} (p:aC K F0 H0 W0 F H σ δ W Wt) {a:A} {v:V} {d:D} (h:AOk K F H σ v a Wt) (e:toV δ a=some (d,δ')):∃ F',aC K F0 H0 W0 F' H σ δ' W Wt∧Ow K F' H v d Wt:=by
 obtain ⟨F',q,o⟩:=h.toV p.ok p.dj p.lt e
 exact ⟨F',⟨q.ok,q.dj,q.lt,p.ext.trans q.ext⟩,o⟩
theorem aC.bC {Wt:Fp} (p:aC K F0 H0 W0 F H σ δ W Wt) {as:List A} {vs:List V} {ds:List D} (h:eV K F H σ vs as Wt) (e:bC δ as=some (ds,δ')):∃ F',aC K F0 H0 W0 F' H σ δ' W Wt∧OwL K F' H vs ds Wt:=by
 obtain ⟨F',q,o⟩:=h.bC p.ok p.dj p.lt e
 exact ⟨F',⟨q.ok,q.dj,q.lt,p.ext.trans q.ext⟩,o⟩
theorem aC.share {Wt:Fp} (p:aC K F0 H0 W0 F H σ δ W Wt):aC K F0 H0 W0 (fzH F H Wt) H σ δ W No:=by
 have s:=p.ok.sub
 refine ⟨⟨iI s,p.ok.st.keep (cg s) fun b q o a f=>⟨a,by rw [gK fun z=>p.dj b z q];exact f⟩,p.ok.lv⟩,fun _ q=>q.elim,fun _ q=>q.elim,?_⟩
 refine ⟨p.ext.fsub.trans (cg s),fun b o e=>?_,p.ext.keep,p.ext.live,fun b q=>p.ext.wnew b (.inr (q.elim False.elim id))⟩
 rcases gq e with z | z
 ·exact p.ext.fnew b o z
 ·exact .inr (p.ext.wnew b (.inl z))
theorem aC.v9 {Wt:Fp} (p:aC K F0 H0 W0 F H σ δ W Wt) {v:V} {d:D} (o:Ow K F H v d Wt):∃ F',aC K F0 H0 W0 F' H σ δ W No∧Rp K F' v d.frz:=⟨_,p.share,o.share p.ok.sub fun _ q=>q⟩
theorem aC.gL {Wt:Fp} (p:aC K F0 H0 W0 F H σ δ W Wt) {vs:List V} {ds:List D} (o:OwL K F H vs ds Wt):∃ F',aC K F0 H0 W0 F' H σ δ W No∧RpL K F' vs (frzs ds):=⟨_,p.share,o.share p.ok.sub fun _ q=>q⟩
theorem aC.drop {Wt:Fp} (p:aC K F0 H0 W0 F H σ δ W Wt):aC K F0 H0 W0 F H σ δ W No:=p.lY fun _ q=>q.elim
theorem aC.vP {Wt:Fp} (p:aC K F0 H0 W0 F H σ δ W Wt) {a:Fp} (n:New F H F' H' a):aC K F0 H0 W0 F' H' σ δ W a:=p.aD (.new p.ok n)
theorem aC.tR {Wt:Fp} (p:aC K F0 H0 W0 F H σ δ W Wt) {a:Fp} (n:New F H F' H' a):Dj Wt (Un2 a W)∧aC K F0 H0 W0 F' H' σ δ W (Un2 Wt a):=p.dJ (.new p.ok n)
def bB (lock:List Nat) (σ σ':L2.St):Prop:=∀ i,lock.contains i=true→σ'[i]?=σ[i]?
theorem bB.refl {lock:List Nat} {σ:L2.St}:bB lock σ σ:=fun _ _=>rfl
theorem bB.trans {lock:List Nat} {σ σ1 c:L2.St} (a:bB lock σ σ1) (b:bB lock σ1 c):bB lock σ c:=fun i h=>(b i h).trans (a i h)
def jH (is:List Nat) (σ σ':L2.St):Prop:=σ'.length=σ.length∧∀ i,i ∉ is→σ'[i]?=σ[i]?
theorem jH.refl {is:List Nat} {σ:L2.St}:jH is σ σ:=⟨rfl,fun _ _=>rfl⟩
theorem g9 {lock:List Nat} {i:Nat} {d:D} (e:da lock i d δ=some δ'):i<δ.length∧lock.contains i=false∧δ'=δ.set i (some d):=by
 unfold da at e
 split at e
 ·rename_i c
  cases e
  simp only [Bool.and_eq_true,decide_eq_true_eq,Bool.not_eq_true'] at c
  exact ⟨c.1,c.2,rfl⟩
 ·cases e
theorem aC.put {Wt:Fp} (p:aC K F0 H0 W0 F H σ δ W Wt) {lock:List Nat} {i:Nat} {v:V} {d:D} {U:Fp} (o:Ow K F H v d U) (s:∀ b,U b→Wt b) (e:da lock i d δ=some δ') :
  aC K F0 H0 W0 F H (σ.set i (some v)) δ' (Un2 U W) No∧bB lock σ (σ.set i (some v))∧jH [i] σ (σ.set i (some v)):=by
 obtain ⟨c,f,rfl⟩:=g9 e
 refine ⟨⟨⟨p.ok.sub,p.ok.st.put c o (fun b q=>p.dj b (s b q)) (fun b q=>.inr q) fun b q=>.inl q,fun b q=>?_⟩,fun _ q=>q.elim,fun _ q=>q.elim,p.ext.mono (fun _ q=>q) fun b q=>.inl ?_⟩,fun j a=>?_,?_,fun j a=>?_⟩
 ·rcases q with q | q
  ·exact p.lt b (s b q)
  ·exact p.ok.lv b q
 ·rcases q with q | q | q
  ·exact q.elim
  ·exact .inl (s b q)
  ·exact .inr q
 ·rw [List.getElem?_set_ne]
  rintro rfl
  rw [f] at a
  cases a
 ·simp
 ·rw [List.getElem?_set_ne]
  rintro rfl
  simp at a
theorem jH.set {is:List Nat} {σ b:L2.St} {i:Nat} {x:Option V} (h:jH is (σ.set i x) b):jH (i::is) σ b :=
 ⟨by rw [h.1,List.length_set],fun j a=>by
  simp only [List.mem_cons,not_or] at a
  rw [h.2 j a.2,List.getElem?_set_ne (fun e=>a.1 e.symm)]⟩
end
def tU:List Str:=["len","abs","min","max","sum","int","list","tuple","sorted","all","any","divmod","range","enumerate","zip","isinstance","bool","str","dict","set"]
inductive wD (K:Frag) (F H:Hp) (io:List Nat):Nat→List V→List D→Fp→Prop
 | nil {j:Nat} {W:Fp}:wD K F H io j [] [] W
 | skip {j:Nat} {v:V} {vs:List V} {ds:List D} {W:Fp}:io.contains j=false→wD K F H io (j+1) vs ds W→wD K F H io j (v::vs) ds W
 | one {j:Nat} {v:V} {vs:List V} {d:D} {ds:List D} {W W1 W2:Fp}:io.contains j=true→(bh d=true∨deep io=true)→Ow K F H v d W1→wD K F H io (j+1) vs ds W2→Dj W1 W2→(∀ b,W1 b→W b)→(∀ b,W2 b→W b)→wD K F H io j (v::vs) (d::ds) W
def j4 (K:Frag) (call:List D→Option (D × List D)) (io:List Nat):List V→Hp→VK→Prop:=fun vs H Q=>∃ (F:Hp) (W:Fp) (ds:List D) (r:D) (outs:List D),Same F H∧OwL K F H vs ds W∧(∀ b,W b→H b≠none)∧call ds=some (r,outs) ∧
 ∀ v F' H' Wr Wo,Ow K F' H' v r Wr→wD K F' H' io 0 vs outs Wo→Dj Wr Wo→Same F' H'→(∀ b,Un2 Wr Wo b→H' b≠none)→Ext F H W F' H' (Un2 Wr Wo)→Q v H'
abbrev CO {α:Type} (perm:List Nat) (d:α) (l:List α):List α:=perm.map fun i=>l.getD i d
def ue (K:Frag) (fd:FuncData) (ps:List Str) (p:KwP):Prop:=(∀ (s:Shared) (us ws:List Value),us.length=p.n→ws.length=p.ks.length→BindsTo s fd ⟨us,p.ks.zip ws⟩ (ps.zip (CO p.perm .none (us++ws))))∧p.perm.Nodup∧∀ i∈p.perm,i<p.n+p.ks.length
end Ev
namespace Ob
open PySem PySem.Spec PyProof.Rows L2 Ev
def ji (d:D) (rs:List D):Prop:=∃ δ1 δ2,evS CI 99 Ae [none,some d,none,none,none]=some (.nx δ1)∧evS CI2 98 AG δ1=some (.nx δ2)∧slot δ2 2=some (.tup rs)∧fzs rs=true
def wz (K:Frag) (C:Addr):Sp:=fun vs H Q _=>∃ (F:Hp) (W:Fp) (x dx:Addr) (v:V) (d:D) (rs:List D),vs=[.ref x,v]∧Same F H∧Ow K F H v d W∧(∀ b,W b→H b≠none)∧ji d rs∧SlX.Slt H x C dx []∧¬ W x∧¬ W dx ∧
 ∀ (F' H':Hp) (W':Fp) (t:Addr) (ws:List V),Ext F H W F' H' W'→Same F' H'→SqT K F' t ws→RpL K F' ws rs→Q .non (SlX.slH H' x C dx [some (.ref t)])
def xZ (K:Frag) (F:Hp) (v:V) (d:D) (rs:List D):Prop:=ji d rs∧((∃ o ns,d=.lst o rs∧intsOf rs=some ns)∨∃ ns a ws,d=.tup rs∧intsOf rs=some ns∧v=.ref a∧BJ F a ws∧RpL K F ws rs)
def zd (K:Frag) (C:Addr):Sp:=fun vs H Q _=>∃ (F:Hp) (W:Fp) (x dx:Addr) (v:V) (d:D) (rs:List D),vs=[.ref x,v]∧Same F H∧Ow K F H v d W∧(∀ b,W b→H b≠none)∧xZ K F v d rs∧SlX.Slt H x C dx []∧¬ W x∧¬ W dx ∧
 ∀ (F' H':Hp) (W':Fp) (t:Addr) (ws:List V),Ext F H W F' H' W'→Same F' H'→BJ F' t ws→RpL K F' ws rs→Q .non (SlX.slH H' x C dx [some (.ref t)])
structure iJ (C0:Ev.Ctx) (it:Nat) (ways:List (Str × Nat)) (rule items lap:D) (rs:List D):Prop where
 ex:∃ (w:Str) (f:Nat) (d:D) (δ1 δ2 δ3:Dl),evS C0 99 (.asg (.nm 4) (.call it [.var 1])) [none,some rule,some items,some lap,none,none]=some (.nx δ1) ∧
  evE C0 97 (.sub (.var 4) (.int 0)) δ1=some (.tmp (.str w),δ2)∧ways.lookup w=some f∧δ2[5]?=some none ∧
  evE C0 96 (.call f [(.bi .tuple1 [.var 2]),.var 3,.var 4]) δ2=some (.tmp d,δ3)∧ji d rs
def pS (K:Frag) (C:Addr) (C0:Ev.Ctx) (it:Nat) (ways:List (Str × Nat)):Sp:=fun vs H Q _=>∃ (F:Hp) (W:Fp) (v1 v2 v3:V) (rule items lap:D) (rs:List D),vs=[.ref C,v1,v2,v3]∧Same F H∧OwL K F H [v1,v2,v3] [rule,items,lap] W∧(∀ b,W b→H b≠none)∧iJ C0 it ways rule items lap rs ∧
 ∀ (F' H':Hp) (W':Fp) (x dx t:Addr) (ws:List V),Ext F H W F' H' W'→Same F' H'→SqT K F' t ws→RpL K F' ws rs→fzs rs=true→SlX.Slt H' x C dx [some (.ref t)]→H x=none→H dx=none→F' x=none→F' dx=none→dx≠x→Q (.ref x) H'
structure OcF (K:Frag) (mg:Str→Option Value) (cn:Str) (C:Addr):Prop where
 mgC:mg cn=some (.ref C)
 nsC:nsIn K mainGlobals cn=some (some (.ref C))
 sC:SlX.SCls K C
 iC:SlX.SIsi K C
 sf:PySem.W.selfFirst K C=true
 ne:findIn K (.ref C) "__ne__" = some (some (.builtin "object.__ne__"))
 ty:typeIn K (.ref C)=some (.type "type")
 ls:subIn K (.ref C) (.type "list")=some false
 tp:subIn K (.ref C) (.type "tuple")=some false
structure OcR (P:Program) (w:World) (K:Frag) (mg:Str→Option Value) (base:Heap) (C:Addr):Prop where
 ex:∃ (fI fi fl:Addr) (fdI fdl:FuncData),Mk K C fI∧FnOk P w K mg base CX0 1 fI fdI ["self","items"] (wz K C)∧FnOk P w K mg base CX0 1 fI fdI ["self","items"] (zd K C)∧ue K fdI ["self","items"] ⟨1,["items"],[0,1]⟩∧Binds K fdI ["self","items"] []∧ItS K C fi fl∧FnOk P w K mg base CX0 1 fl fdl ["self"] (pQ K C)∧Binds K fdl ["self"] []∧∃ fdi:FuncData,FnOk P w K mg base CX0 1 fi fdi ["self"] (t7 K C)∧Binds K fdi ["self"] []
def FW (K:Frag) (C:Addr):Sp:=fun vs H Q _=>∃ (x dx:Addr) (a b u:Int),vs=[.ref x,.int a,.int b,.int u]∧u<a∧SlX.Slt H x C dx []∧H dx≠none∧dx≠x ∧
 ∀ (H':Hp) (t:Addr),SlX.Slt H' x C dx [some (.int b),some (.ref t),some (.int a),some (.int u)]→H' t=some (.tup [.int a,.int b,.int u])→H t=none→(∀ c o,H c=some o→c≠x→c≠dx→H' c=some o)→(∀ c,H' c=none→H c=none)→Q .non H'
abbrev PSt:List Str:=["self","size","lap","used"]
structure OsR (P:Program) (w:World) (K:Frag) (mg:Str→Option Value) (base:Heap) (C:Addr):Prop where
 ex:∃ (fI:Addr) (fdI:FuncData),Mk K C fI∧FnOk P w K mg base CX0 1 fI fdI PSt (FW K C)∧Binds K fdI PSt []∧∀ p∈EZ,ue K fdI PSt p
structure OsF (K:Frag) (C:Addr):Prop where
 ad:∃ g:Addr,findIn K (.ref C) "__add__" = some (some (.ref g))
 ra:∃ g:Addr,findIn K (.ref C) "__radd__" = some (some (.ref g))
 rs:findIn K (.ref C) "__rsub__" = some none
 si:subIn K (.ref C) (.type "int")=some false
abbrev PLd:List Str:=["self","items","rule","way","workers","batch","ends"]
abbrev ldE (it:Nat):List E:=[(.bi .tuple1 [.var 1]),(.call it [.var 2])]
abbrev ER (items rule:D) (way:Str) (wk bt:Int) (en:Str):Dl:=[none,some items,some rule,some (.str way),some (.int wk),some (.int bt),some (.str en)]
def EV (C0:Ev.Ctx) (it:Nat) (ds rs:List D):Prop:=∃ (items rule a b:D) (way en:Str) (wk bt:Int) (as:List A) (δ1 δ2:Dl),ds=[items,rule,.str way,.int wk,.int bt,.str en]∧rs=[.int bt,.int 0,.tup [],.str en,a,b,.str way,.int wk] ∧
 aL C0 99 (ldE it) (ER items rule way wk bt en)=some (as,δ1)∧bC δ1 as=some ([a,b],δ2)∧a.fz=true∧b.fz=true
def FP (K:Frag) (C:Addr) (C0:Ev.Ctx) (it:Nat):Sp:=fun vs H Q _=>∃ (F:Hp) (W:Fp) (x dx:Addr) (v1 v2:V) (items rule a b:D) (way en:Str) (wk bt:Int) (as:List A) (δ1 δ2:Dl),vs=[.ref x,v1,v2,.str way,.int wk,.int bt,.str en]∧Same F H∧OwL K F H [v1,v2] [items,rule] W∧(∀ b,W b→H b≠none) ∧
 aL C0 99 (ldE it) (ER items rule way wk bt en)=some (as,δ1)∧bC δ1 as=some ([a,b],δ2)∧a.fz=true∧b.fz=true∧SlX.Slt H x C dx []∧H dx≠none∧dx≠x∧¬ W x∧¬ W dx ∧
 ∀ (F' H1 H':Hp) (W':Fp) (t:Addr) (u1 u2:V),Ext F H W F' H1 W'→Same F' H1→Rp K F' u1 a→Rp K F' u2 b→H1 t=none→H' x=some (SlX.SlO x C dx ([.int bt,.int 0,.ref t,.str en,u1,u2,.str way,.int wk].map some))→H' dx=some (.xd [])→H' t=some (.tup [])→(∀ c,c≠x→c≠dx→c≠t→H' c=H1 c)→Q .non H'
def LdB (K:Frag) (fd:FuncData) (ks:List Str):Prop:=∃ (g:List Value→List Value→List Value) (gV:List V→List V→List V),KBn K fd PLd 3 ks g gV∧∀ vs zs,vs.length=3→zs.length=ks.length→gV vs zs=vs++tY jQ [.str "turns",.int 1,.int 1,.str "short"] ks zs
def LdP (K:Frag) (fd:FuncData) (m:Nat) (ks:List Str):Prop:=∃ (g:List Value→List Value→List Value) (gV:List V→List V→List V),KBn K fd PLd (m+1) ks g gV∧∀ vs zs,vs.length=m+1→zs.length=ks.length→gV vs zs=vs++(tY (zJ.drop m) [.non,.non] ks zs++tY jQ [.str "turns",.int 1,.int 1,.str "short"] ks zs)
structure LdR (P:Program) (w:World) (K:Frag) (mg:Str→Option Value) (base:Heap) (C:Addr) (kc:Nat) (C0:Ev.Ctx) (it:Nat):Prop where
 ex:∃ (fI:Addr) (fdI:FuncData),Mk K C fI∧FnOk P w K mg base CX0 kc fI fdI PLd (FP K C C0 it)∧(∀ ks∈FO,LdB K fdI ks)∧∀ p∈E9,LdP K fdI p.1 p.2
structure Ad (K:Frag) (C:Addr) (f:Str) (p g:Addr):Prop where
 at_:findIn K (.ref C) f=some (some (.ref p))
 get:specialIn K (.ref p) "__get__" = some (some (.builtin "property.__get__"))
 tk:takesIn K (.ref p)=some true
 rc:∃ rest,PySem.W.recIn K p "property" = some (.ref g::rest)
structure tv (P:Program) (w:World) (K:Frag) (mg:Str→Option Value) (base:Heap) (cn:Str) (C:Addr) (k:Nat) (C0:Ev.Ctx) (it:Nat) (ways:List (Str × Nat)):Prop where
 mgC:mg cn=some (.ref C)
 nsC:nsIn K mainGlobals cn=some (some (.ref C))
 ex:∃ (mc:Value) (pr g fi fl:Addr) (fd fdi fdl:FuncData),ClX.CRead K C mc∧ClX.CMet K C mc "made" pr g∧ItS K C fi fl∧FnOk P w K mg base CX0 k g fd ["cls","rule","items","lap"] (pS K C C0 it ways)∧Binds K fd ["cls","rule","items","lap"] [] ∧
  FnOk P w K mg base CX0 k fi fdi ["self"] (t7 K C)∧Binds K fdi ["self"] []∧FnOk P w K mg base CX0 k fl fdl ["self"] (pQ K C)∧Binds K fdl ["self"] []∧∀ p∈Ap,ue K fd ["cls","rule","items","lap"] p
end Ob
namespace Ev
open PySem PySem.Spec PyProof.Rows L2
structure By (X:Cx) (C:Ctx) (tab:List Str) (kt:Nat→List KwP):Prop where
 fn:∀ f g,tab[f]?=some g→ax g=true→∀ ds r outs,C.call f ds=some (r,outs)→∃ (a:Addr) (fd:FuncData) (ps:List Str) (sp:Sp) (k:Nat),X.mg g=some (.ref a)∧keepIn X.K (.ref a)=true∧Room k X.A∧FnOk X.prog X.w X.K X.mg X.base CX0 k a fd ps sp∧Binds X.K fd ps []∧(∀ p∈kt f,ue X.K fd ps p) ∧
  ∀ vs H Q E,j4 X.K (C.call f) (C.io f) vs H Q→sp vs H Q E
def DA (K:Frag) (w:World) (mg:Str→Option Value) (y:Str) (ps:List (Str × Int)):Prop:=∃ (d:Addr) (es:Array DictEntry) (n:Nat),mg y=some (.ref d)∧L2.KDict K w d es n ∧
 ∀ z:Str,∃ r,nsIn K d z=some r∧match ps.lookup z with
  | some i=>∃ t,r=some (.int i t)
  | none=>r=none
def uw (K:Frag) (w:World) (mg:Str→Option Value) (y:Str) (k:Kc):Prop:=match k with
 | .dct ps=>DA K w mg y ps
 | k=>∃ u v,mg y=some u∧RelV v u∧∀ F:Hp,Rp K F v k.toD
def AB (mg:Str→Option Value) (t:Str) (c:V) (cv:Value):Prop:=ClsV c cv∧(mg t=some cv∨(mg t=none∧bootBuiltins t=some cv∧t≠"__name__"))
def Eb (K:Frag) (fd:FuncData) (ps:List Str) (ks al:List Str):Prop:=∃ (g:List Value→List Value→List Value) (gV:List V→List V→List V),KBn K fd ps 1 ks g gV∧∀ vs zs,vs.length=1→zs.length=ks.length→gV vs zs=vs++tY al (al.map fun _=>V.non) ks zs
structure CB (K:Frag) (mg:Str→Option Value) (t:DW):Prop where
 xf:∀ cn nm,(cn,nm)∈t.xf→∃ C:Addr,nsIn K mainGlobals cn=some (some (.ref C))∧XfC K C∧findIn K (.ref C) nm=some none
 xi:∀ cn nm b,(cn,nm,b)∈t.xi→∃ (C:Addr) (c:V) (cv:Value),nsIn K mainGlobals cn=some (some (.ref C))∧AB mg nm c cv∧ExcC K C∧PySem.W.kitOne K (.ref C) cv=some b
 xn:∀ nm∈t.xn,∃ (c:V) (cv:Value),AB mg nm c cv∧PySem.W.kitOne K (.type "NoneType") cv=some false
theorem CB.nil {K:Frag} {mg:Str→Option Value}:CB K mg {}:=⟨fun _ _ h=>(nomatch h),fun _ _ _ h=>(nomatch h),fun _ h=>(nomatch h)⟩
structure XOk (C:Ctx) (X:Cx) (c:Cxt):Prop where
 hN:X.N=c.N
 nd:X.N.Nodup
 sc:X.env.scope=c.sc
 fn:X.fn=c.fn
 calm:c.cm=true→X.calm=true
 kind:c.sc.kind=.function
 own:PassesOwn (model X.prog X.w) X.A X.env X.xe
 units:X.A.units+65<cLine
 blt:∀ b∈tU,X.mg b=none
 call:By X C c.tab c.kt
 con:∀ y k,c.gc.lookup y=some k→uw X.K X.w X.mg y k
 vm:∀ f cn,c.vm=some (f,cn)→(∀ ds,C.call f ds=none)∨∃ (Ca:Addr) (kc it:Nat) (C0:Ctx) (ways:List (Str × Nat)),Ob.tv X.prog X.w X.K X.mg X.base cn Ca kc C0 it ways∧Room (kc+4) X.A∧C.io f=[] ∧
  ∀ ds r outs,C.call f ds=some (r,outs)→∃ rule items lap rs,ds=[rule,items,lap]∧r=.lst true rs∧outs=[]∧Ob.iJ C0 it ways rule items lap rs
 mt:∀ f cn nm,(f,cn,nm)∈c.mt→∀ ds r outs,C.call f ds=some (r,outs)→∃ (Ca g:Addr) (fd:FuncData) (ps:List Str) (sp:Sp) (k:Nat),nsIn X.K mainGlobals cn=some (some (.ref Ca))∧SlX.SCls X.K Ca∧L2.Meth X.K Ca nm g∧Room (k+1) X.A∧FnOk X.prog X.w X.K X.mg X.base CX0 k g fd ps sp∧Binds X.K fd ps []∧(∀ p∈c.kt f,ue X.K fd ps p) ∧
  ∀ vs H Q E,j4 X.K (C.call f) (C.io f) vs H Q→sp vs H Q E
 vn:∀ f cn,c.vn=some (f,cn)→∃ Ca:Addr,Ob.OcF X.K X.mg cn Ca∧((∀ ds,C.call f ds=none)∨(Ob.OcR X.prog X.w X.K X.mg X.base Ca∧Room 6 X.A∧C.io f=[]∧∀ ds r outs,C.call f ds=some (r,outs)→∃ d rs,ds=[d]∧r=.lst true rs∧outs=[]∧Ob.ji d rs))
 sl:∀ cn nm i,(cn,nm,i)∈c.sl→∃ Ca:Addr,nsIn X.K mainGlobals cn=some (some (.ref Ca))∧SlX.SCls X.K Ca∧∃ p:Addr,SlX.Slot1 X.K Ca nm p i
 exo:CB X.K X.mg c.xt
 vs:∀ f cn,c.vs=some (f,cn)→∃ Ca:Addr,Ob.OcF X.K X.mg cn Ca∧Ob.OsF X.K Ca∧((∀ ds,C.call f ds=none)∨(Ob.OsR X.prog X.w X.K X.mg X.base Ca∧Room 6 X.A∧∀ ds r outs,C.call f ds=some (r,outs)→∃ a b u:Int,ds=[.int a,.int b,.int u]∧r=.lst true (if u<a then [.int b,.tup [.int a,.int b,.int u],.int a,.int u] else [])))
 vl:∀ f cn,c.vl=some (f,cn)→(∀ ds,C.call f ds=none)∨∃ (Ca:Addr) (kc it:Nat) (C0:Ctx),X.mg cn=some (.ref Ca)∧nsIn X.K mainGlobals cn=some (some (.ref Ca))∧Ob.LdR X.prog X.w X.K X.mg X.base Ca kc C0 it∧Room (kc+4) X.A∧∀ ds r outs,C.call f ds=some (r,outs)→∃ rs,r=.lst true rs∧Ob.EV C0 it ds rs
 km:∀ f cn nm ks al,(f,cn,nm,ks,al)∈c.km→∀ ds r outs,C.call f ds=some (r,outs)→∃ (Ca g:Addr) (fd:FuncData) (ps:List Str) (sp:Sp) (k:Nat),nsIn X.K mainGlobals cn=some (some (.ref Ca))∧SlX.SCls X.K Ca∧L2.Meth X.K Ca nm g∧Room (k+1) X.A∧FnOk X.prog X.w X.K X.mg X.base CX0 k g fd ps sp∧Eb X.K fd ps ks al ∧
  ∀ vs H Q E,j4 X.K (C.call f) (C.io f) vs H Q→sp vs H Q E
 pr:∀ f cn nm,(f,cn,nm)∈c.pr→∀ ds r outs,C.call f ds=some (r,outs)→∃ (Ca p g:Addr) (fd:FuncData) (ps:List Str) (sp:Sp) (k:Nat),nsIn X.K mainGlobals cn=some (some (.ref Ca))∧SlX.SCls X.K Ca∧Ob.Ad X.K Ca nm p g∧Room (k+1) X.A∧FnOk X.prog X.w X.K X.mg X.base CX0 k g fd ps sp∧Binds X.K fd ps [] ∧
  ∀ vs H Q E,j4 X.K (C.call f) (C.io f) vs H Q→sp vs H Q E
 cms:∀ f cn nm,(f,cn,nm)∈c.cms→∀ ds r outs,C.call f ds=some (r,outs)→∃ (Ca p g:Addr) (mc:Value) (fd:FuncData) (ps:List Str) (sp:Sp) (k:Nat),X.mg cn=some (.ref Ca)∧nsIn X.K mainGlobals cn=some (some (.ref Ca))∧ClX.CRead X.K Ca mc∧ClX.CMet X.K Ca mc nm p g∧Room (k+1) X.A∧FnOk X.prog X.w X.K X.mg X.base CX0 k g fd ps sp∧Binds X.K fd ps []∧(∀ p∈c.kt f,ue X.K fd ps p) ∧
  ∀ vs H Q E,j4 X.K (C.call f) (C.io f) vs H Q→sp vs H Q E
theorem XOk.blk {C:Ctx} {X:Cx} {c:Cxt} (h:XOk C X c) {own:List (Str × Nat)} {scope:Scope} (b:blkC c.N c.sc scope own=true) (s:Shared) (H:Hp) (a:Addr) (cl:List (Str × Addr)) (fp:List Addr):XOk C (X.blk s H scope (compEnvC scope cl a X.env) fp) (c.blk scope) where
 hN:=h.hN
 nd:=h.nd
 sc:=by show relS scope X.env.scope=relS scope c.sc;rw [h.sc]
 fn:=rfl
 calm:=h.calm
 kind:=(blkOk_by b).kind
 own:=PassesOwn.never
 units:=h.units
 blt:=h.blt
 call:=⟨h.call.fn⟩
 con:=h.con
 vm:=h.vm
 mt:=h.mt
 vn:=h.vn
 sl:=h.sl
 exo:=h.exo
 vs:=h.vs
 vl:=h.vl
 km:=h.km
 pr:=h.pr
 cms:=h.cms
section
variable {C:Ctx} {X:Cx} {c:Cxt}
theorem XOk.vis (h:XOk C X c) {x:Str} (e:i8 c x=true):Vis X.env.scope x:=by
 unfold i8 at e
 rw [h.sc]
 unfold Vis
 split at e
 ·rename_i q;exact .inl q
 ·rename_i q;exact .inr (.inl q)
 ·rename_i q;exact .inr (.inr q)
 ·cases e
theorem XOk.st (h:XOk C X c) {x:Str} (e:stB c x=true):Loc X.env.scope x∧(X.fn x=true∨X.env.scope.names.lookup x=some .local):=by
 unfold stB at e
 unfold L2.Loc
 rw [h.sc]
 split at e
 ·rename_i q;exact ⟨.inl q,.inr q⟩
 ·rename_i q;exact ⟨.inr q,.inl (by rw [h.fn];exact e)⟩
 ·cases e
theorem XOk.lo (h:XOk C X c) {x:Str} (e:loB c x=true):X.env.scope.names.lookup x=some .local:=by
 unfold loB at e
 rw [h.sc]
 split at e
 ·assumption
 ·cases e
theorem XOk.gl (h:XOk C X c) {x:Str} (e:glB c x=true):Gl X x:=by
 unfold glB at e
 show X.env.scope.names.lookup x=some .globalImplicit
 rw [h.sc]
 split at e
 ·assumption
 ·cases e
theorem XOk.nm (h:XOk C X c) {i:Nat} {x:Str} (e:nmB c i x=true):X.N[i]?=some x:=by
 rw [h.hN]
 exact of_decide_eq_true e
theorem ak {x y:Str} (e:same x y=true):x=y:=of_decide_eq_true e
theorem aU {x:Str} (e:ax x=true):(x==("__debug__" : Str))=false∧(x==("__classdict__" : Str))=false:=by
 unfold ax at e
 simpa using e
def tWG (X:Cx) (tg:Expr):TG:=fun v σ H Q=>∀ pins s u,Inv X pins σ H s→RelV v u→wpAny (model X.prog X.w) X.A (assign tg X.env u) (fun _ s'=>∃ σ' H',Inv X pins σ' H' s'∧Q σ' H') X.xe s
theorem wm {tg:Expr}:PG X tg (tWG X tg):=⟨fun pins s σ H v u Q I r h=>h pins s u I r⟩
theorem tA {tg:Expr} {g:TG} {v:V} {σ:L2.St} {H:Hp} {Q:L2.St→Hp→Prop} (h:PG X tg g) (q:g v σ H Q):tWG X tg v σ H Q:=fun pins s u I r=>h.run pins s σ H v u Q I r q
def Ex:List Nat→TGs
 | []=>gNil
 | i::is=>gCons (gName i) (Ex is)
theorem eG (env:Env):∀ {is:List Nat} {xs:List Expr},j7 c is xs=true→(assignEach xs env).length=is.length∧(assignEach xs env).findIdx? (·.1)=none
 | [],[],_=>⟨rfl,rfl⟩
 | [],_::_,e=>by simp [j7] at e
 | _::_,[],e=>by simp [j7] at e
 | i::is,x::xs,e=>by
  simp only [j7,Bool.and_eq_true] at e
  obtain ⟨a,b⟩:=eG env e.2
  unfold mNm at e
  split at e
  ·have q:∀ n p,assignEach (.Name n p::xs) env=(false,assign (.Name n p) env)::assignEach xs env:=fun n p=>rfl
   rw [q]
   exact ⟨by rw [List.length_cons,a];rfl,by rw [List.findIdx?_cons];simp [b]⟩
  ·simp at e
theorem js (h:XOk C X c):∀ {is:List Nat} {xs:List Expr},j7 c is xs=true→PGs X xs (Ex is)
 | [],[],_=>pgs_nil
 | [],_::_,e=>by simp [j7] at e
 | _::_,[],e=>by simp [j7] at e
 | i::is,x::xs,e=>by
  simp only [j7,Bool.and_eq_true] at e
  have t:=js h e.2
  have a:=e.1
  unfold mNm at a
  split at a
  ·rw [Bool.and_eq_true] at a
   obtain ⟨l,f⟩:=h.st a.2
   exact pgs_cons (pg_name h.nd (h.nm a.1) l f) t rfl
  ·cases a
theorem ft {K:Frag} {F0 H0 F H:Hp} {W0:Fp} {lock:List Nat}:∀ {is:List Nat} {ds:List D} {vs:List V} {σ:L2.St} {δ δ':Dl} {W Wt:Fp} {Q:L2.St→Hp→Prop},aC K F0 H0 W0 F H σ δ W Wt→OwL K F H vs ds Wt→cz lock is ds δ=some δ' →
  (∀ a W',aC K F0 H0 W0 F H a δ' W' No→bB lock σ a→jH is σ a→Q a H)→Ex is vs σ H Q
 | [],ds,vs,σ,δ,δ',W,Wt,Q,p,o,e,k=>by
  cases ds with
  | nil =>
   cases o
   simp only [cz,Option.some.injEq] at e
   subst e
   exact ⟨rfl,k _ _ p.drop .refl .refl⟩
  | cons d ds=>simp [cz] at e
 | i::is,ds,vs,σ,δ,δ',W,Wt,Q,p,o,e,k=>by
  cases ds with
  | nil=>simp [cz] at e
  | cons d ds =>
   unfold cz at e
   split at e
   ·rename_i δ1 c
    cases o with
    | @cons v vs _ _ _ W1 W2 o1 o2 dj s1 s2 =>
     obtain ⟨q,f,of⟩:=p.put o1 s1 c
     refine ⟨v,vs,rfl,?_⟩
     have p2:aC K F0 H0 W0 F H (σ.set i (some v)) δ1 (Un2 W1 W) W2:=by
      refine ⟨q.ok,fun b z z2=>?_,fun b z=>p.lt b (s2 b z),p.ext.mono (fun _ q=>q) fun b z=>.inl ?_⟩
      ·rcases z2 with z2 | z2
       ·exact dj b z2 z
       ·exact p.dj b (s2 b z) z2
      ·rcases z with z | z | z
       ·exact .inl (s2 b z)
       ·exact .inl (s1 b z)
       ·exact .inr z
     exact ft p2 o2 e fun a W' g lk' of'=>k a W' g (f.trans lk') of'.set
   ·cases e
theorem uP (h:XOk C X c) {t:Tg} {s:Expr} {d:D} {v:V} {σ:L2.St} {F0 H0 F H:Hp} {δ δ':Dl} {W0 W Wt:Fp} {lock:List Nat} {Q:L2.St→Hp→Prop} (m:mTg c t s=true) (p:aC X.K F0 H0 W0 F H σ δ W Wt) (o:Ow X.K F H v d Wt) (e:setT lock t d δ=some δ')
  (k:∀ b W',aC X.K F0 H0 W0 F H b δ' W' No→bB lock σ b→jH (CG t) σ b→Q b H):tWG X s v σ H Q:=by
 cases t with
 | nm i =>
  simp only [mTg] at m
  unfold mNm at m
  split at m
  ·rw [Bool.and_eq_true] at m
   obtain ⟨l,f⟩:=h.st m.2
   obtain ⟨q,u,of⟩:=p.put o (fun _ q=>q) (show da lock i d δ=some δ' from e)
   exact tA (pg_name h.nd (h.nm m.1) l f) (k _ _ q u of)
  ·cases m
 | tp is =>
  simp only [mTg] at m
  split at m
  ·cases d with
   | tup ds =>
    simp only [setT] at e
    split at e
    ·rename_i fz
     obtain ⟨a,xs,rfl,sq,r⟩:=Vw.tup ⟨_,o⟩
     obtain ⟨m,mc⟩:=Bool.and_eq_true_iff.mp m
     obtain ⟨g,j⟩:=eG X.env m
     have n:xs.length=is.length:=by
      have l1:=r.length
      have:∀ {is:List Nat} {ds:List D} {δ δ':Dl},cz lock is ds δ=some δ'→ds.length=is.length:=by
       intro is
       induction is with
       | nil=>intro ds δ δ' e;cases ds<;>simp_all [cz]
       | cons i is ih =>
        intro ds δ δ' e
        cases ds with
        | nil=>simp [cz] at e
        | cons d ds =>
         unfold cz at e
         split at e
         ·rw [List.length_cons,List.length_cons,ih e]
         ·cases e
      rw [l1,this e]
     refine tA (pg_tup (h.calm mc) (js h m) g j) ⟨a,xs,rfl,aa p.ok.sub sq,n,?_⟩
     exact ft p.drop (.of r) e k
    ·cases e
   | lst ol ds =>
    simp only [setT] at e
    split at e
    ·rename_i fz
     obtain ⟨a,xs,rfl,w,l1,r⟩:=Vw.lst p.ok.sub ⟨_,o⟩
     obtain ⟨m,mc⟩:=Bool.and_eq_true_iff.mp m
     obtain ⟨g,j⟩:=eG X.env m
     have n:xs.length=is.length:=by
      have:∀ {is:List Nat} {ds:List D} {δ δ':Dl},cz lock is ds δ=some δ'→ds.length=is.length:=by
       intro is
       induction is with
       | nil=>intro ds δ δ' e;cases ds<;>simp_all [cz]
       | cons i is ih =>
        intro ds δ δ' e
        cases ds with
        | nil=>simp [cz] at e
        | cons d ds =>
         unfold cz at e
         split at e
         ·rw [List.length_cons,List.length_cons,ih e]
         ·cases e
      rw [l1,this e]
     refine tA (pg_lst (h.calm mc) (js h m) g j) ⟨a,xs,rfl,SqL.of w,n,?_⟩
     exact ft p.drop (.of (r fz)) e k
    ·cases e
   | _=>simp [setT] at e
  ·cases m
end
end Ev
namespace Ev
open PySem PySem.Spec PyProof.Rows L2
section
variable {K:Frag} {F F' H H' F0 H0:Hp} {σ:L2.St}
inductive OwO (K:Frag) (F H:Hp):List V→List (Option D)→Fp→Prop
 | nil {W:Fp}:OwO K F H [] [] W
 | skip {v:V} {vs:List V} {os:List (Option D)} {W:Fp}:OwO K F H vs os W→OwO K F H (v::vs) (none::os) W
 | one {v:V} {vs:List V} {d:D} {os:List (Option D)} {W W1 W2:Fp}:Ow K F H v d W1→OwO K F H vs os W2→Dj W1 W2→(∀ b,W1 b→W b)→(∀ b,W2 b→W b)→OwO K F H (v::vs) (some d::os) W
theorem OwO.grow (s:Same F F'):∀ {vs:List V} {os:List (Option D)} {W:Fp},OwO K F H vs os W→(∀ b,W b→F b=none→F' b=none)→OwO K F' H vs os W
 | _,_,_,.nil,_=>.nil
 | _,_,_,.skip h,k=>.skip (OwO.grow s h k)
 | _,_,_,.one e g i c d,k=>.one (e.keep s fun b q o a f=>⟨a,k b (c b q) f⟩) (OwO.grow s g fun b q=>k b (d b q)) i c d
theorem vq {io:List Nat}:∀ {vs:List V} {as:List A} {j:Nat} {δ k:Dl} {W Wt:Fp} {os:List (Option D)},eV K F H σ vs as Wt→StL K F H σ δ W→eB io j as δ=some (os,k) →
  ∃ U R,OwO K F H vs os U∧StL K F H σ k R∧Dj U R∧(∀ b,U b→W b)∧(∀ b,R b→W b)
 | _,_,j,δ,k,W,Wt,os,.nil,s,e=>by
  simp only [eB,Option.some.injEq,Prod.mk.injEq] at e
  obtain ⟨rfl,rfl⟩:=e
  exact ⟨No,W,.nil,s,fun _ q=>q.elim,fun _ q=>q.elim,fun _ q=>q⟩
 | _,_,j,δ,k,W,Wt,os,.cons (v:=v) (a:=a) (as:=as) n l w x B,s,e=>by
  unfold eB at e
  split at e
  ·split at e
   ·split at e
    ·rename_i c δ' f
     cases e
     obtain ⟨U,R,o,t,dj,u,r⟩:=vq l s f
     exact ⟨U,R,.skip o,t,dj,u,r⟩
    ·cases e
   ·rename_i i
    split at e
    ·rename_i d e0
     split at e
     ·rename_i c δ' f
      cases e
      obtain ⟨v',p,C,g,o1,s1,s2,h,t1,_⟩:=s.zip (aQ e0)
      obtain ⟨U,R,o,t,dj,u,r⟩:=vq l t1 f
      cases n with
      | @bor v0 _ _ _ _ m q =>
       rw [g] at m
       cases m
       cases q
       refine ⟨Un2 p U,R,.one o1 o (fun b z y=>h b z (u b y)) (fun b z=>.inl z) (fun b z=>.inr z),t,fun b z y=>?_,fun b z=>?_,fun b z=>s2 b (r b z)⟩
       ·rcases z with z | z
        ·exact h b z (r b y)
        ·exact dj b z y
       ·rcases z with z | z
        ·exact s1 b z
        ·exact s2 b (u b z)
     ·cases e
    ·cases e
   ·cases e
  ·split at e
   ·rename_i c δ' f
    cases e
    obtain ⟨U,R,o,t,dj,u,r⟩:=vq l s f
    exact ⟨U,R,.skip o,t,dj,u,r⟩
   ·cases e
theorem AOk.FC {δ δ':Dl} {W Wt:Fp} {v:V} {a:A} {d:D} (h:AOk K F H σ v a Wt) (s:SOk K F H σ δ W) (e:Ev.toV δ a=some (d,δ')) :
  ∃ F',SOk K F' H σ δ' W∧Ow K F' H v d Wt∧Same F F'∧∀ b o,F' b=some o→F b=some o∨W b:=by
 cases h with
 | tmp o =>
  simp only [Ev.toV,Option.some.injEq,Prod.mk.injEq] at e
  obtain ⟨rfl,rfl⟩:=e
  exact ⟨F,s,o,fun _ _ q=>q,fun _ _ q=>.inl q⟩
 | @bor v0 _ i p _ g q =>
  unfold Ev.toV at e
  simp only at e
  split at e
  ·rename_i d1 δ1 j c
   cases e
   unfold Ev.look at j
   simp only at j
   split at j
   ·rename_i d0 e0
    unfold bL at c
    rw [e0] at c
    simp only at c
    split at c
    ·rename_i m x
     cases c
     obtain ⟨y,U,R,k,o,s1,s2,C,G,z⟩:=s.st.zip (aQ e0)
     rw [g] at k
     cases k
     obtain ⟨F',v',B,f1,f2,l,r,o'⟩:=o.rD s.sub j x
     rw [q.uniq B]
     refine ⟨F',⟨f2,?_,s.lv⟩,.frz r,f1,fun b o e=>(l b o e).imp id (s1 b)⟩
     refine z (U':=U) f1 o' (fun b w n o a f=>⟨a,?_⟩) (fun b q=>.inl q) (fun _ q=>q) s1
     cases e:F' b with
     | none=>rfl
     | some u =>
      rcases l b u e with t | t
      ·rw [f] at t;cases t
      ·exact absurd t n
    ·cases c
   ·cases j
  ·cases e
theorem tq:∀ {os:List (Option D)} {vs:List V} {as:List A} {F:Hp} {δ δ2:Dl} {U Wt R:Fp} {ds:List D},OwO K F H vs os U→eV K F H σ vs as Wt→SOk K F H σ δ R→Dj U R→Dj Wt R→Dj U Wt→(∀ b,Wt b→H b≠none)→valOf os as δ=some (ds,δ2) →
  ∃ c,SOk K c H σ δ2 R∧OwL K c H vs ds (Un2 U Wt)∧Same F c∧∀ b o,c b=some o→F b=some o∨R b
 | [],vs,as,F,δ,δ2,U,Wt,R,ds,h,ha,s,d1,d2,d3,lt,e=>by
  cases h
  cases ha
  simp only [valOf,Option.some.injEq,Prod.mk.injEq] at e
  obtain ⟨rfl,rfl⟩:=e
  exact ⟨F,s,.nil,fun _ _ q=>q,fun b o q=>.inl q⟩
 | some d::os,vs,as,F,δ,δ2,U,Wt,R,ds,h,ha,s,d1,d2,d3,lt,e=>by
  cases h with
  | @one v vs _ _ _ W1 W2 o1 o2 dj s1 s2 =>
   cases ha with
   | @cons _ _ a as _ V1 l a1 a2 a3 a4 a5 =>
    unfold valOf at e
    split at e
    ·rename_i ds' δ' k
     cases e
     obtain ⟨c,t,o,sm,nw⟩:=tq o2 a2 s (fun b q=>d1 b (s2 b q)) (fun b q=>d2 b (a5 b q)) (fun b q y=>d3 b (s2 b q) (a5 b y)) (fun b q=>lt b (a5 b q)) k
     refine ⟨c,t,.cons (W1:=W1) (o1.keep sm fun b q x y f=>⟨y,?_⟩) o (fun b q y=>?_) (fun b q=>.inl (s1 b q)) (fun b q=>q.imp (s2 b) (a5 b)),sm,nw⟩
     ·cases i:c b with
      | none=>rfl
      | some u =>
       rcases nw b u i with z | z
       ·rw [f] at z;cases z
       ·exact absurd z (d1 b (s1 b q))
     ·rcases y with y | y
      ·exact dj b q y
      ·exact d3 b (s1 b q) (a5 b y)
    ·cases e
 | none::os,vs,as,F,δ,δ2,U,Wt,R,ds,h,ha,s,d1,d2,d3,lt,e=>by
  cases h with
  | @skip v vs _ _ o2 =>
   cases ha with
   | @cons _ _ a as _ V1 l a1 a2 a3 a4 a5 =>
    unfold valOf at e
    split at e
    ·rename_i d δ1 e0
     split at e
     ·rename_i ds' δ' k
      cases e
      obtain ⟨F1,t1,m,g,j⟩:=a1.FC s e0
      have stay:∀ b,¬ R b→F b=none→F1 b=none:=fun b n f=>by
       cases i:F1 b with
       | none=>rfl
       | some u =>
        rcases j b u i with z | z
        ·rw [f] at z;cases z
        ·exact absurd z n
      obtain ⟨c,t,o,sm,nw⟩:=tq (o2.grow g fun b q=>stay b (d1 b q)) (a2.grow g fun b q=>stay b (d2 b (a5 b q))) t1 d1 (fun b q=>d2 b (a5 b q)) (fun b q y=>d3 b q (a5 b y)) (fun b q=>lt b (a5 b q)) k
      refine ⟨c,t,.cons (W1:=V1) (m.keep sm fun b q x y f=>⟨y,?_⟩) o (fun b q y=>?_) (fun b q=>.inr (a4 b q)) (fun b q=>q.imp id (a5 b)),g.trans sm,fun b u q=>?_⟩
      ·cases i:c b with
       | none=>rfl
       | some u =>
        rcases nw b u i with z | z
        ·rw [f] at z;cases z
        ·exact absurd z (d2 b (a4 b q))
      ·rcases y with y | y
       ·exact d3 b y (a4 b q)
       ·exact a3 b q y
      ·rcases nw b u q with z | z
       ·exact j b u z
       ·exact .inr z
     ·cases e
    ·cases e
theorem p8 {v:V} {d:D} {W:Fp} (h:Ow K F H v d W) (e:isAtom d=true):Rp K F' v d:=by
 cases h with
 | frz r =>
  cases r with
  | non=>exact .non
  | bl b=>exact .bl b
  | int i=>exact .int i
  | str x=>exact .str x
  | _=>simp [isAtom] at e
 | own _ _ _ _ _ _=>simp [isAtom] at e
 | mob _ _ _ _ _ _ _ _ _ _=>simp [isAtom] at e
 | dct _ _ _ _ _ _=>simp [isAtom] at e
theorem yp (tt:∀ b o,F' b=some o→nS o→F b=some o) {a:Addr} {xs:List V} (h:SqT K F' a xs):SqT K F a xs:=by
 rcases h with (h | ⟨o,h⟩) | h
 ·exact .inl (.inl (tt _ _ h (.inl ⟨_,rfl⟩)))
 ·exact .inl (.inr ⟨o,tt _ _ h (.inr ⟨_,_,rfl⟩)⟩)
 ·exact .inr h
mutual
theorem zZ (tt:∀ b o,F' b=some o→nS o→F b=some o):∀ {v:V} {d:D},Rp K F' v d→tfl d=true→Rp K F v d
 | _,_,.non,_=>.non
 | _,_,.bl b,_=>.bl b
 | _,_,.int i,_=>.int i
 | _,_,.str x,_=>.str x
 | _,_,.tup h l,e=>.tup (yp tt h) (jY tt l (by simpa [tfl] using e))
 | _,_,.lst _ _,e=>by simp [tfl] at e
 | _,_,.scr _,e=>by simp [tfl] at e
 | _,_,.obj _ _ _ _,e=>by simp [tfl] at e
 | _,_,.exc _ _ _ _ _ _,e=>by simp [tfl] at e
 | _,_,.dct _ _ _ _,e=>by simp [tfl] at e
 | _,_,.cls _,e=>by simp [tfl] at e
 | _,_,.tpn _ _,e=>by simp [tfl] at e
theorem jY (tt:∀ b o,F' b=some o→nS o→F b=some o):∀ {vs:List V} {ds:List D},RpL K F' vs ds→uL ds=true→RpL K F vs ds
 | _,_,.nil,_=>.nil
 | _,_,.cons h t,e=>by
  simp only [uL,Bool.and_eq_true] at e
  exact .cons (zZ tt h e.1) (jY tt t e.2)
end
theorem ux {v:V} {d:D} {W:Fp} (h:Ow K F' H v d W) (e:bh d=true) (s:Same F F') (tt:∀ b o,F' b=some o→nS o→F b=some o):Ow K F H v d W:=by
 have c:∀ b,F' b=none→F b=none:=fun b q=>by
  cases e:F b with
  | none=>rfl
  | some u=>rw [s b u e] at q;cases q
 cases h with
 | frz r=>cases r<;>simp [bh] at e
 | mob n h hd ne e0 f1 f2 g i l=>exact .mob n h hd ne e0 (c _ f1) (c _ f2) g i (jY tt l (by simpa [bh] using e))
 | dct h e0 n f w l=>exact .dct h e0 n (c _ f) w (jY tt l (by simpa [bh] using e))
 | @own a vs ds _ U j k m p t x =>
  simp only [bh] at e
  refine .own (U:=No) j (c _ k) m ?_ (fun q=>q) fun _ q=>q.elim
  have:∀ {vs:List V} {ds:List D} {U:Fp},OwL K F' H vs ds U→cS ds=true→RpL K F vs ds:=by
   intro vs ds U o
   induction ds generalizing vs U with
   | nil=>intro _;cases o;exact .nil
   | cons d ds ih =>
    intro e
    cases o with
    | cons o1 o2 _ _ _ =>
     simp only [cS,Bool.and_eq_true] at e
     exact .cons (p8 o1 (by cases d<;>simp [D.flat] at e<;>rfl)) (ih o2 e.2)
  exact .of (this p e)
theorem gu {f:Hp} (sf:Same f F) (tt:∀ b o,F b=some o→nS o→f b=some o) {io:List Nat} (dp:deep io=false∨f=F):∀ {vs:List V} {as:List A} {j:Nat} {outs:List D} {δ:Dl} {W h:Fp} {F1 H1:Hp} {Wt:Fp},eV K F1 H1 σ vs as Wt→wD K F H io j vs outs h→StL K f H σ δ W→Dj h W→(∃ δ0 r,eB io j as δ0=some r) →
  StL K f H σ (aP io j as outs δ) (Un2 h W)
 | _,_,j,outs,δ,W,h,F1,H1,Wt,.nil,o,s,dj,_=>by
  unfold aP
  exact s.weak fun b q=>.inr q
 | _,_,j,outs,δ,W,h,F1,H1,Wt,.cons (v:=v) (a:=a) (as:=as) w n B C G,o,s,dj,c=>by
  obtain ⟨δ0,r,c⟩:=c
  unfold aP
  unfold eB at c
  cases o with
  | skip u o' =>
   rw [u] at c ⊢
   simp only at c ⊢
   split at c
   ·rename_i os δ' e
    exact gu sf tt dp n o' s dj ⟨_,_,e⟩
   ·cases c
  | @one _ _ _ d ds _ W1 W2 u l m o' x s1 s2 =>
   rw [u] at c ⊢
   simp only at c ⊢
   cases w with
   | tmp _ =>
    simp only at c ⊢
    split at c
    ·rename_i os δ' e
     exact (gu sf tt dp n o' s (fun b q=>dj b (s2 b q)) ⟨_,_,e⟩).weak fun b q=>q.imp (s2 b) id
    ·cases c
   | @bor v0 _ i p _ g q =>
    cases p with
    | nil =>
     cases q
     simp only at c ⊢
     split at c
     ·split at c
      ·rename_i os δ' e
       have m:Ow K f H v d W1:=by
        rcases dp with e0 | e0
        ·rcases l with l | l
         ·exact ux m l sf tt
         ·rw [l] at e0;cases e0
        ·rw [e0];exact m
       have t:=s.back g m (fun b z=>dj b (s1 b z)) (W':=Un2 W1 W) (fun b z=>.inr z) fun b z=>.inl z
       refine (gu sf tt dp n o' t (fun b z y=>?_) ⟨_,_,e⟩).weak fun b z=>?_
       ·rcases y with y | y
        ·exact x b y z
        ·exact dj b (s2 b z) y
       ·rcases z with z | z | z
        ·exact .inl (s2 b z)
        ·exact .inl (s1 b z)
        ·exact .inr z
      ·cases c
     ·cases c
    | cons k p=>simp at c
theorem cL {C:Ctx} {f:Nat} {vs:List V} {as:List A} {δ δ':Dl} {W0 W Wt:Fp} {a:A} {Q:VK} (p:aC K F0 H0 W0 F H σ δ W Wt) (ha:eV K F H σ vs as Wt) (e:aY C f as δ=some (a,δ'))
  (k:∀ v F' H' W' s,aC K F0 H0 W0 F' H' σ δ' W' s→AOk K F' H' σ v a s→Q v H'):(∃ ds r outs,C.call f ds=some (r,outs))∧j4 K (C.call f) (C.io f) vs H Q:=by
 unfold aY at e
 split at e
 ·rename_i os δm B
  split at e
  ·rename_i ds δ2 e2
   split at e
   ·rename_i r outs L
    cases e
    obtain ⟨U,R,o,t,dj,u,d⟩:=vq ha p.ok.st B
    obtain ⟨M,s2,ol,sm,nw⟩:=tq o ha ⟨p.ok.sub,t,fun b q=>p.ok.lv b (d b q)⟩ dj (fun b q y=>p.dj b q (d b y)) (fun b q y=>p.dj b y (u b q)) p.lt e2
    refine ⟨⟨_,_,_,L⟩,M,Un2 U Wt,ds,r,outs,s2.sub,ol,fun b q=>?_,L,fun v F' H' N G O P dw sb lv ext=>?_⟩
    ·rcases q with q | q
     ·exact p.ok.lv b (u b q)
     ·exact p.lt b q
    have I:Dj R (Un2 U Wt):=fun b q y=>by
     rcases y with y | y
     ·exact dj b y q
     ·exact p.dj b y (d b q)
    have g:Dj R (Un2 N G):=ext.dj I fun b q=>p.ok.lv b (d b q)
    have live:∀ b,H' b=none→H b=none:=ext.live
    have c:∀ b,Un2 U Wt b→Un2 Wt W b:=fun b q=>q.elim (fun q=>.inr (u b q)) .inl
    have X:∀ b,R b→H' b≠none:=fun b q z=>p.ok.lv b (d b q) (live b z)
    by_cases i:isAtom r=true∧deep (C.io f)=false
    ·rw [if_pos i.1,if_neg (by rw [i.2];exact Bool.false_ne_true)] at k
     have hd:=i.2
     replace i:=i.1
     have w:Same F F':=sm.trans ext.fsub
     have Y:=vS w
     have Z:=xR w
     have j:StL K (qc F F') H' σ δm R:=t.dJ Y fun b q o a nt f=>by
      have hk:H' b=some o:=by
       cases e:M b with
       | some z =>
        have m:=s2.sub b z e
        rw [a] at m
        cases m
        exact sb _ _ (ext.fsub _ _ e)
       | none=>exact ext.keep b o a (I b q)
      refine ⟨hk,sQ f fun o' e'=>?_⟩
      have:=sb _ _ e'
      rw [hk] at this
      cases this
      exact nt
     have l:=gu Z (fun b o h t=>yJ h t) (.inl hd) ha P j (fun b q y=>g b y (.inr q)) ⟨_,_,B⟩
     refine k v (qc F F') H' (Un2 G R) No ⟨⟨Z.trans sb,l,fun b q=>?_⟩,fun _ q=>q.elim,fun _ q=>q.elim,?_⟩ (.tmp (.frz (p8 O i)))
     ·rcases q with q | q
      ·exact lv b (.inr q)
      ·exact X b q
     ·refine p.ext.trans ⟨Y,fun b o q=>?_,fun b o q n=>ext.keep b o q fun z=>n (c b z),live,fun b q=>?_⟩
      ·rcases qh q with q | ⟨q,_⟩
       ·exact .inl q
       ·rcases ext.fnew b o q with z | z | z
        ·exact (nw b o z).imp id fun y=>.inl (.inr (d b y))
        ·exact .inr (.inl (c b z))
        ·exact .inr (.inr z)
      ·rcases q with q | q | q
       ·exact q.elim
       ·exact (ext.wnew b (.inr q)).imp (c b) id
       ·exact .inl (.inr (d b q))
    ·have k:∀ v F3 J W3 x,aC K F0 H0 W0 F3 J σ (aP (C.io f) 0 as outs δ2) W3 x→AOk K F3 J σ v (.tmp r) x→Q v J:=by
      by_cases m:isAtom r=true
      ·have h2:deep (C.io f)=true:=by
        cases e:deep (C.io f) with
        | true=>rfl
        | false=>exact absurd ⟨m,e⟩ i
       rw [if_pos m,if_pos h2] at k
       exact k
      ·rw [if_neg m] at k
       exact k
     have j:StL K F' H' σ δ2 R:=s2.st.keep ext.fsub (ext.apart I)
     have l:=gu (fun _ _ q=>q) (fun _ _ q _=>q) (.inr rfl) ha P j (fun b q y=>g b y (.inr q)) ⟨_,_,B⟩
     refine k v F' H' (Un2 G R) N ⟨⟨sb,l,fun b q=>?_⟩,fun b q y=>?_,fun b q=>lv b (.inl q),?_⟩ (.tmp O)
     ·rcases q with q | q
      ·exact lv b (.inr q)
      ·exact X b q
     ·rcases y with y | y
      ·exact dw b q y
      ·exact g b y (.inl q)
     ·refine p.ext.trans ⟨sm.trans ext.fsub,fun b o q=>?_,fun b o q n=>ext.keep b o q fun z=>n (c b z),live,fun b q=>?_⟩
      ·rcases ext.fnew b o q with z | z | z
       ·exact (nw b o z).imp id fun y=>.inl (.inr (d b y))
       ·exact .inr (.inl (c b z))
       ·exact .inr (.inr z)
      ·rcases q with q | q | q
       ·exact (ext.wnew b (.inl q)).imp (c b) id
       ·exact (ext.wnew b (.inr q)).imp (c b) id
       ·exact .inl (.inr (d b q))
   ·cases e
  ·cases e
 ·cases e
end
end Ev
namespace Ob
open PySem PySem.Spec PyProof.Rows L2 Ev
theorem qu {xs:List Expr} (env:Env) (pos:Pos) (h:noStar xs=true) (l:xs.length<20):((backTo pos (starEach xs env)).all (fun x=>!x.1)&&(backToKw pos (keywordEach [] env)).all (fun x=>x.1.isSome)
   && decide (xs.length+([]:List Keyword).length+(if ([]:List Keyword).isEmpty then 0 else 1)<30))=true:=by
 have a:(backTo pos (starEach xs env)).all (fun x=>!x.1)=true:=by
  have:=ao env pos h
  rw [List.any_eq_false] at this
  rw [List.all_eq_true]
  intro y b
  have:=this y b
  simpa using this
 rw [a]
 have c:(backToKw pos (keywordEach [] env)).all (fun x=>x.1.isSome)=true:=rfl
 rw [c]
 simp
 omega
section
variable {X:Cx} {C:Addr} {σ:L2.St} {H:Hp} {Q:VK}
theorem w8 {g:Addr} {x:Str} {p:Pos} (hg:Gl X x) (hm:X.mg x=some (.ref g)) (hd:(x==("__debug__" : Str))=false:=by decide):PE X (.Name x p) (fun _ H Q=>Q (.ref g) H) :=
 ⟨fun pins s σ H Q I h=>ld_glob I hg hm ⟨.ref g,H,I,rfl,h⟩ hd⟩
theorem Ak {o:Str} {m:Str} {c d a:Pos} {xs:List Expr} {env:Env} (hn:(d.endLine==a.line)=true) (ns:noStar xs=true) (l:xs.length<20):eval (.Call (.Attribute (.Name o c) m d) xs [] a) env=(do
   let e ← eval (.Name o c) env
   standAt d.atName
   let (f,first) ← holding [e] (getMethod e m (do return (← importBound (.Name o c) env).getD true))
   callWith a f first (backTo a (starEach xs env)) (backToKw a (keywordEach [] env))):=by
 have b:methodCallForm (xs.length+([]:List Keyword).length) (backTo a (starEach xs env)) (backToKw a (keywordEach [] env))=true:=qu env a ns l
 rw [arm_eval_Call]
 unfold methodCall calleeOf methodCallPos
 simp only [b,hn,if_true,Bool.not_true,Bool.or_true]
 rfl
theorem qN {cn:Str} {k it:Nat} {C0:Ev.Ctx} {ways:List (Str × Nat)} {y:Expr} {ys:List Expr} {J L p s M:Pos} {u:List D→Option (D × List D)} (N:∀ ds r outs,u ds=some (r,outs)→∃ rule items lap rs,ds=[rule,items,lap]∧r=.lst true rs∧outs=[]∧iJ C0 it ways rule items lap rs)
  (O:tv X.prog X.w X.K X.mg X.base cn C k C0 it ways) (a:X.calm=true) (v:Room (k+4) X.A) (gl:Gl X "list") (P:X.mg "list" = none) (gc:Gl X cn) (hd:(cn==("__debug__" : Str))=false) (ns:noStar (y::ys)=true) (ne:(p.endLine==s.line)=true)
  (d:(y::ys).length<20)
  (go:bM X (y::ys) σ H fun vs H1=>j4 X.K u [] vs H1 Q):tW X (.Call (.Name "list" J) [.Call (.Attribute (.Name cn L) "made" p) (y::ys) [] s] [] M) σ H Q:=by
 obtain ⟨mc,pr,g,fi,fl,fd,fdi,fdl,c1,c2,c3,F1,R,V,Y,Z,b3,_⟩:=O.ex
 have i:=F1.raw R (.nil:Vals [] [])
 have j:FnR X.prog X.w X.K X.mg X.base CX0 k fi (t7 X.K C):=by have:=V.raw Y (.nil:Vals [] []);simpa only [List.append_nil] using this
 have l:FnR X.prog X.w X.K X.mg X.base CX0 k fl (pQ X.K C):=by have:=Z.raw b3 (.nil:Vals [] []);simpa only [List.append_nil] using this
 refine aw (pe_callTy (lG a c3 j l v) gl P (by decide +kernel) (pa_cons (ClX.pe_cmeth (w8 gc O.mgC hd) c1 c2 i (v.mono (by omega)) pass0 (av ns) (ah _ ns) (ao _ _ (aj ns)) (Ak ne ns d)) pa_nil) (by decide) (by decide +kernel)) ?_
 refine ⟨rfl,au go fun vs H1 h=>?_⟩
 obtain ⟨G,W,ds,r,outs,sb,ow,lv,e,cont⟩:=h
 obtain ⟨rule,items,lap,rs,rfl,rfl,rfl,mok⟩:=N _ _ _ e
 cases ow with
 | @cons v1 _ _ _ _ _ _ o1 ow1 d1 u1 u1' =>
 cases ow1 with
 | @cons v2 _ _ _ _ _ _ o2 ow2 d2 u2 u2' =>
 cases ow2 with
 | @cons v3 _ _ _ _ _ _ o3 ow3 d3 u3 u3' =>
 cases ow3
 refine ⟨G,W,v1,v2,v3,rule,items,lap,rs,rfl,sb,.cons o1 (.cons o2 (.cons o3 .nil d3 u3 u3') d2 u2 u2') d1 u1 u1',lv,mok,fun F' H' W' x dx t ws ext sub ht m fz hs _ _ _ _ _=>⟨x,dx,t,ws,rfl,hs,aa sub ht,fun q B=>?_⟩⟩
 have F:F' q=none:=by
  cases e:F' q with
  | none=>rfl
  | some o=>have:=sub _ _ e;rw [B] at this;cases this
 have f:Same F' (upd H' q (.lst ws)):=fun b o e=>by rw [upd_ne (fun z=>by rw [z,F] at e;cases e)];exact sub _ _ e
 have c:=ext.live q B
 refine cont (.ref q) F' (upd H' q (.lst ws)) (fun b=>b=q) No (.own upd_same F rfl (OwL.of (W:=No) m) (fun z=>z.elim) fun _ z=>z.elim) (.skip rfl (.skip rfl (.skip rfl .nil))) (fun _ _ z=>z.elim) f (fun b z=>?_) ⟨ext.fsub,ext.fnew,fun b o e n=>?_,fun b e=>?_,fun b z=>?_⟩
 ·rcases z with z | z
  ·rw [z,upd_same];exact fun h=>by cases h
  ·exact z.elim
 ·rw [upd_ne (fun z=>by rw [z,c] at e;cases e)]
  exact ext.keep b o e n
 ·by_cases I:b=q
  ·rw [I];exact c
  ·rw [upd_ne I] at e
   exact ext.live b e
 ·rcases z with z | z
  ·rw [z];exact .inr c
  ·exact z.elim
end
end Ob
namespace Ev
open PySem PySem.Spec PyProof.Rows L2 HT
section
variable {prog:Program} {w:World} {A:Around} {E:Value→Shared→Prop} {s:Shared}
end
section
variable {X:Cx}
end
end Ev
namespace Ev
open PySem PySem.Spec PyProof.Rows L2
abbrev af (X:Cx) (F H:Hp) (W:Fp) (σ:L2.St) (δ':Dl) (a:A) (Q:VK):Prop:=∀ v F' H' W' Wt,aC X.K F H W F' H' σ δ' W' Wt→AOk X.K F' H' σ v a Wt→Q v H'
abbrev jJ (X:Cx) (F H:Hp) (W:Fp) (σ:L2.St) (δ':Dl) (as:List A) (Q:List V→Hp→Prop):Prop:=∀ vs F' H' W' Wt,aC X.K F H W F' H' σ δ' W' Wt→eV X.K F' H' σ vs as Wt→Q vs H'
abbrev wA (X:Cx) (F H:Hp) (W:Fp) (σ:L2.St) (δ':Dl) (d:D) (Q:VK):Prop:=∀ v F' H' W' Wt,aC X.K F H W F' H' σ δ' W' Wt→Ow X.K F' H' v d Wt→Q v H'
abbrev Tells (X:Cx) (F H:Hp) (W:Fp) (σ:L2.St) (δ':Dl) (b:Bool) (Q:Bool→Hp→Prop):Prop:=∀ F' H' W',aC X.K F H W F' H' σ δ' W' No→Q b H'
def SE (C:Ctx) (n:Nat):Prop:=∀ {X:Cx} {c:Cxt},XOk C X c→∀ {m:Nat} {e:E} {x:Expr} {σ:L2.St} {δ:Dl} {F H:Hp} {W:Fp} {a:A} {δ':Dl} {Q:VK},mE m c e x=true→SOk X.K F H σ δ W→evE C n e δ=some (a,δ')→af X F H W σ δ' a Q→tW X x σ H Q
def SV (C:Ctx) (n:Nat):Prop:=∀ {X:Cx} {c:Cxt},XOk C X c→∀ {m:Nat} {e:E} {x:Expr} {σ:L2.St} {δ:Dl} {F H:Hp} {W:Fp} {d:D} {δ':Dl} {Q:VK},mE m c e x=true→SOk X.K F H σ δ W→evV C n e δ=some (d,δ')→wA X F H W σ δ' d Q→tW X x σ H Q
def SAs (C:Ctx) (n:Nat):Prop:=∀ {X:Cx} {c:Cxt},XOk C X c→∀ {m:Nat} {es:List E} {xs:List Expr} {σ:L2.St} {δ:Dl} {F H:Hp} {W:Fp} {as:List A} {δ':Dl} {Q:List V→Hp→Prop},mEs m c es xs=true→SOk X.K F H σ δ W→aL C n es δ=some (as,δ')→jJ X F H W σ δ' as Q→bM X xs σ H Q
def ST (C:Ctx) (n:Nat):Prop:=∀ {X:Cx} {c:Cxt},XOk C X c→∀ {m:Nat} {e:E} {x:Expr} {σ:L2.St} {δ:Dl} {F H:Hp} {W:Fp} {b:Bool} {δ':Dl} {Q:Bool→Hp→Prop},mT m c e x=true→SOk X.K F H σ δ W→evT C n e δ=some (b,δ')→Tells X F H W σ δ' b Q→tWT X x σ H Q
def CK (C:Ctx) (n:Nat):Prop:=∀ {X:Cx} {c:Cxt},XOk C X c→∀ {m:Nat} {es:List E} {xs:List Expr} {pos:Pos} {σ:L2.St} {δ:Dl} {F H:Hp} {W:Fp} {a:A} {δ':Dl} {Q:VK},mEs m c es xs=true→SOk X.K F H σ δ W→tO C n es δ=some (a,δ')→af X F H W σ δ' a Q→tW X (.BoolOp .And xs pos) σ H Q
def SOr (C:Ctx) (n:Nat):Prop:=∀ {X:Cx} {c:Cxt},XOk C X c→∀ {m:Nat} {es:List E} {xs:List Expr} {pos:Pos} {σ:L2.St} {δ:Dl} {F H:Hp} {W:Fp} {a:A} {δ':Dl} {Q:VK},mEs m c es xs=true→SOk X.K F H σ δ W→xp C n es δ=some (a,δ')→af X F H W σ δ' a Q→tW X (.BoolOp .Or xs pos) σ H Q
def tWW (X:Cx) (x:Expr):TT:=fun σ H Q=>∀ wh pins s,Inv X pins σ H s→wpAny (model X.prog X.w) X.A (isTrue x X.env wh) (TP X pins σ Q) X.xe s
theorem pw_tWW {X:Cx} {x:Expr}:PW X x (tWW X x):=⟨fun a pins s σ H Q I h=>h a pins s I⟩
theorem iQ {X:Cx} {x:Expr} {t:TT} {σ:L2.St} {H:Hp} {Q:Bool→Hp→Prop} (h:PW X x t) (q:t σ H Q):tWW X x σ H Q:=fun a pins s I=>h.run a pins s σ H Q I q
def vH (C:Ctx) (n:Nat):Prop:=∀ {X:Cx} {c:Cxt},XOk C X c→∀ {m:Nat} {es:List E} {xs:List Expr} {pos:Pos} {σ:L2.St} {δ:Dl} {F H:Hp} {W:Fp} {b:Bool} {δ':Dl} {Q:Bool→Hp→Prop},mTs m c es xs=true→SOk X.K F H σ δ W→eK C n es δ=some (b,δ')→Tells X F H W σ δ' b Q→tWW X (.BoolOp .And xs pos) σ H Q
def BS (C:Ctx) (n:Nat):Prop:=∀ {X:Cx} {c:Cxt},XOk C X c→∀ {m:Nat} {es:List E} {xs:List Expr} {pos:Pos} {σ:L2.St} {δ:Dl} {F H:Hp} {W:Fp} {b:Bool} {δ':Dl} {Q:Bool→Hp→Prop},mTs m c es xs=true→SOk X.K F H σ δ W→jw C n es δ=some (b,δ')→Tells X F H W σ δ' b Q→tWW X (.BoolOp .Or xs pos) σ H Q
def SIt (C:Ctx) (n:Nat):Prop:=∀ {X:Cx} {c:Cxt},XOk C X c→∀ {m:Nat} {t:Expr} {k:ItK} {es:List E} {x:Expr} {σ:L2.St} {δ:Dl} {F H:Hp} {W:Fp} {ds:List D} {δ':Dl} {R:It→Hp→Prop},mI m c t k es x=true→SOk X.K F H σ δ W→cH C n k es δ=some (ds,δ') →
 (∀ F' H' W' J,aC X.K F H W F' H' σ δ' W' No→WkD X.K F' J ds→R J H')→tWI X t x σ H R
section
variable {C:Ctx} {X:Cx} {c:Cxt} {n m:Nat} {σ:L2.St} {δ δ':Dl} {F H:Hp} {W:Fp} {a:A} {Q:VK}
theorem af.goes {d:D} (k:af X F H W σ δ' (.tmp d) Q) {F' H':Hp} {W' Wt:Fp} (p:aC X.K F H W F' H' σ δ' W' Wt):Goes X F' H' d Q:=fun v a b c o nw=>k v a b W' c (p.vP nw) (.tmp o)
theorem af.atom {d:D} (k:af X F H W σ δ' (.tmp d) Q) {F' H':Hp} {W' Wt:Fp} (p:aC X.K F H W F' H' σ δ' W' Wt) {v:V} (r:Rp X.K F' v d):Q v H':=k v F' H' W' No p.drop (.tmp (.frz r))
theorem BQ {l:Expr} {R:V→Hp→Prop} (h:bM X [l] σ H fun vs H1=>∀ x,vs=[x]→R x H1):tW X l σ H R:=ay h fun x H1 q=>q x rfl
theorem yG {l r:Expr} {R:V→V→Hp→Prop} (h:bM X [l,r] σ H fun vs a=>∀ x y,vs=[x,y]→R x y a):tW X l σ H fun x H1=>tW X r σ H1 fun y a=>R x y a:=ay h fun x H1 q=>ay q fun y a z=>z x y rfl
theorem Er {l r t:Expr} {R:V→V→V→Hp→Prop} (h:bM X [l,r,t] σ H fun vs a=>∀ x y z,vs=[x,y,z]→R x y z a):tW X l σ H fun x H1=>tW X r σ H1 fun y a=>tW X t σ a fun z b=>R x y z b:=ay h fun x H1 q=>ay q fun y a q=>ay q fun z b q=>q x y z rfl
theorem wZ {op:Op} {o:Operator} (h:opB op o=true):opO op=o:=of_decide_eq_true h
theorem mB {op:Cop} {o:CmpOp} (h:B5 op o=true):uG op=o:=of_decide_eq_true h
theorem qK {o:CmpOp} {r:Expr} (h:cP r=false):behindInMarks o r=false:=by
 cases r<;>first | rfl | simp [cP] at h
theorem SAs.two (ih:SAs C n) (ok:XOk C X c) {a b:E} {d x2:Expr} {as:List A} {R:V→V→Hp→Prop} {m:Nat} (hm:mEs m c [a,b] [d,x2]=true) (s:SOk X.K F H σ δ W) (he:aL C n [a,b] δ=some (as,δ'))
  (k:∀ v w F' H' W' Wt,aC X.K F H W F' H' σ δ' W' Wt→eV X.K F' H' σ [v,w] as Wt→R v w H'):tW X d σ H fun x H1=>tW X x2 σ H1 fun y e=>R x y e :=
 yG (ih ok hm s he fun vs F' H' W' Wt p h=>by rintro x y rfl;exact k _ _ _ _ _ _ p h)
theorem C3 (ih:SAs C n) (ok:XOk C X c) {op:Op} {b e:E} {x:Expr} (hm:mE (m+1) c (.bin op b e) x=true) (s:SOk X.K F H σ δ W) (he:evE C (n+1) (.bin op b e) δ=some (a,δ')) (k:af X F H W σ δ' a Q):tW X x σ H Q:=by
 unfold mE at hm
 simp only at hm
 split at hm
 ·rw [Bool.and_eq_true] at hm
  unfold evE at he
  simp only at he
  split at he
  ·rename_i as δ1 b
   split at he
   ·rename_i d0 d1 e
    split at he
    ·rename_i d i
     cases he
     cases wZ hm.1
     refine aw (pe_op lg aq aq) (SAs.two ih ok hm.2 s b fun v w F' H' W' Wt p h=>?_)
     obtain ⟨x,y,ex,j,l⟩:=(h.looks p.ok e).two
     cases ex
     exact w7 p.ok.sub i j l (k.goes p)
    ·split at he
     ·rename_i d2 d3 δ2 t
      split at he
      ·rename_i d u
       cases he
       cases wZ hm.1
       refine aw (pe_op lg aq aq) (SAs.two ih ok hm.2 s b fun v w F' H' W' Wt p h=>?_)
       obtain ⟨z,q,o⟩:=p.bC h t
       obtain ⟨B,g,r⟩:=q.gL o
       simp only [frzs] at r
       cases r with
       | cons r1 f =>
        cases f with
        | cons f _=>exact w7 g.ok.sub u ⟨No,.frz r1⟩ ⟨No,.frz f⟩ (k.goes g)
      ·cases he
     ·cases he
   ·cases he
  ·cases he
 ·cases hm
theorem bq.snoc:∀ {p:List Nat} {v0 v v1:V} {a:Addr} {vs:List V} {j:Nat},bq H v0 p v→v=.ref a→H a=some (.lst vs)→vs[j]?=some v1→bq H v0 (p++[j]) v1
 | [],v0,v,v1,a,vs,j,q,e,h,g=>by
  cases q
  exact ⟨a,vs,v1,e,h,g,rfl⟩
 | k::p,v0,v,v1,a,vs,j,⟨b,vs',v',c,h',d,q⟩,e,h,g=>⟨b,vs',v',c,h',d,bq.snoc q e h g⟩
theorem Ow.DB {K:Frag} {p:Addr} {vs:List V} {ds:List D} {U:Fp} (s:Same F H) (h:H p=none) (o:OwL K F H vs ds U) (lt:∀ b,U b→H b≠none):Ow K F (upd H p (.lst vs)) (.ref p) (.lst true ds) (Un2 U (At p)):=by
 have np:∀ b,U b→b≠p:=fun b q e=>lt b q (by rw [e];exact h)
 refine .own (U:=U) upd_same ?_ (.inr rfl) (o.keep (fun _ _ q=>q) fun b q z a f=>⟨by rw [upd_ne (np b q)];exact a,f⟩) (fun q=>np p q rfl) fun b q=>.inl q
 cases e:F p with
 | none=>rfl
 | some o=>rw [s _ _ e] at h;cases h
theorem jS (ok:XOk C X c) {e:E} {x:Expr} (d:e=.non∨(∃ b,e=.bl b)∨(∃ i,e=.int i)∨∃ t,e=.str t) (hm:mE (m+1) c e x=true) (s:SOk X.K F H σ δ W) (he:evE C (n+1) e δ=some (a,δ')) (k:af X F H W σ δ' a Q):tW X x σ H Q:=by
 unfold mE at hm
 unfold evE at he
 rcases d with rfl | ⟨b,rfl⟩ | ⟨i,rfl⟩ | ⟨t,rfl⟩
 ·simp only at hm he
  split at hm
  ·cases he
   exact aw pe_non (k.atom (.refl s) .non)
  ·cases hm
 ·simp only at hm he
  split at hm
  ·cases he
   cases (beq_iff_eq.mp hm)
   exact aw pe_bl (k.atom (.refl s) (.bl _))
  ·cases hm
 ·simp only at hm he
  split at hm
  ·cases he
   cases (of_decide_eq_true hm)
   exact aw pe_int (k.atom (.refl s) (.int _))
  ·cases hm
 ·simp only at hm he
  split at hm
  ·cases he
   cases (ak hm)
   exact aw pe_str (k.atom (.refl s) (.str _))
  ·cases hm
theorem Eo (ok:XOk C X c) {q:Kc} {x:Expr} (hm:mE (m+1) c (.con q) x=true) (s:SOk X.K F H σ δ W) (he:evE C (n+1) (.con q) δ=some (a,δ')) (k:af X F H W σ δ' a Q):tW X x σ H Q:=by
 unfold mE at hm
 unfold evE at he
 simp only at hm he
 split at hm
 ·rename_i b _
  cases he
  simp only [Bool.and_eq_true,decide_eq_true_eq] at hm
  obtain ⟨⟨⟨d,e⟩,f⟩,g⟩:=hm
  have h:∃ u v,X.mg b=some u∧RelV v u∧∀ F:Hp,Rp X.K F v q.toD:=by
   have:=ok.con _ _ f
   cases q with
   | dct ps=>cases g
   | _=>exact this
  obtain ⟨u,v,mg,i,j⟩:=h
  exact aw (pe_glob (ok.gl d) mg i (aU e).1) (k.atom (.refl s) (j F))
 ·cases hm
theorem xj (f:SE C n) (ok:XOk C X c) {ne:Bool} {ps:List (Str × Int)} {e:E} {x:Expr} (hm:mE (m+1) c (.kin ne ps e) x=true) (s:SOk X.K F H σ δ W) (he:evE C (n+1) (.kin ne ps e) δ=some (a,δ')) :
  ∃ l p r pos t,x=.Compare l [p] [r] pos∧cP r=false∧a=.tmp (.bl t)∧∃ R:R2,OpR X (compareOp p) R ∧
   ∀ {Q:VK},(∀ F' H' W',aC X.K F H W F' H' σ δ' W' No→Q (.bl t) H')→tW X l σ H fun x H1=>tW X r σ H1 fun y J=>R x y J Q:=by
 unfold mE at hm
 simp only at hm
 split at hm
 ·rename_i l p0 y q pos
  simp only [Bool.and_eq_true] at hm
  obtain ⟨⟨⟨⟨b,g⟩,j⟩,L⟩,o⟩:=hm
  have b:=of_decide_eq_true b
  obtain ⟨d,es,nn,mg,u,M⟩:DA X.K X.w X.mg y ps:=ok.con _ _ (of_decide_eq_true L)
  unfold evE at he
  simp only at he
  split at he
  ·rename_i a0 δ1 B
   split at he
   ·rename_i z G
    cases he
    obtain ⟨r,I,hm⟩:=M z
    have eq:r.isSome=(ps.lookup z).isSome:=by
     cases h:ps.lookup z with
     | some i=>rw [h] at hm;obtain ⟨t,rfl⟩:=hm;rfl
     | none=>rw [h] at hm;subst hm;rfl
    cases ne with
    | true =>
     simp only [if_true] at b
     subst b
     refine ⟨l,_,_,pos,_,rfl,rfl,rfl,_,op_notIn_kd u,fun {Q} k=>f ok o s B fun v F' H' W' Wt p h=>?_⟩
     cases (h.look p.ok G).str
     refine aw (pe_glob (v:=.ref d) (ok.gl g) mg rfl (aU j).1) ⟨z,r,rfl,rfl,I,?_⟩
     rw [eq]
     have:=k _ _ _ p.drop
     simpa using this
    | false =>
     simp only [Bool.false_eq_true,if_false] at b
     subst b
     refine ⟨l,_,_,pos,_,rfl,rfl,rfl,_,op_in_kd u,fun {Q} k=>f ok o s B fun v F' H' W' Wt p h=>?_⟩
     cases (h.look p.ok G).str
     refine aw (pe_glob (v:=.ref d) (ok.gl g) mg rfl (aU j).1) ⟨z,r,rfl,rfl,I,?_⟩
     rw [eq]
     have:=k _ _ _ p.drop
     simpa using this
   ·cases he
  ·cases he
 ·cases hm
theorem Bf (b:SE C n) (ok:XOk C X c) {ne:Bool} {ps:List (Str × Int)} {e:E} {x:Expr} (hm:mE (m+1) c (.kin ne ps e) x=true) (s:SOk X.K F H σ δ W) (he:evE C (n+1) (.kin ne ps e) δ=some (a,δ')) (k:af X F H W σ δ' a Q):tW X x σ H Q:=by
 obtain ⟨l,p,r,pos,t,rfl,d,rfl,R,op,go⟩:=xj b ok hm s he
 exact aw (pe_cmpR op aq aq (qK d)) (go fun F' H' W' p=>k.atom p (.bl t))
theorem BF (a:SE C n) (ok:XOk C X c) {ne:Bool} {ps:List (Str × Int)} {e:E} {x:Expr} {b:Bool} {Q:Bool→Hp→Prop} (hm:mE (m+1) c (.kin ne ps e) x=true) (s:SOk X.K F H σ δ W) (he:evE C (n+1) (.kin ne ps e) δ=some (.tmp (.bl b),δ')) (k:Tells X F H W σ δ' b Q):tWT X x σ H Q:=by
 obtain ⟨l,p,r,pos,t,rfl,d,f,R,op,go⟩:=xj a ok hm s he
 cases f
 exact gI (pt_cmpR op aq aq (qK d)) (go fun F' H' W' p=>⟨b,rfl,k _ _ _ p⟩)
theorem CF (b:SE C n) (ok:XOk C X c) {ps:List (Str × Int)} {e:E} {x:Expr} (hm:mE (m+1) c (.kix ps e) x=true) (s:SOk X.K F H σ δ W) (he:evE C (n+1) (.kix ps e) δ=some (a,δ')) (k:af X F H W σ δ' a Q):tW X x σ H Q:=by
 unfold mE at hm
 simp only at hm
 split at hm
 ·rename_i y q i pos
  simp only [Bool.and_eq_true,Bool.not_eq_true'] at hm
  obtain ⟨⟨⟨⟨g,l⟩,o⟩,u⟩,B⟩:=hm
  obtain ⟨d,es,nn,mg,f,G⟩:DA X.K X.w X.mg y ps:=ok.con _ _ (of_decide_eq_true o)
  unfold evE at he
  simp only at he
  split at he
  ·rename_i a0 δ1 I
   split at he
   ·rename_i z J
    split at he
    ·rename_i j L
     cases he
     obtain ⟨r,M,hm⟩:=G z
     rw [L] at hm
     obtain ⟨t,rfl⟩:=hm
     refine aw (pe_ix ix_kdict aq aq (lU B)) (aw (pe_glob (v:=.ref d) (ok.gl g) mg rfl (aU l).1) (b ok u s I fun v F' H' W' Wt p h=>?_))
     cases (h.look p.ok J).str
     exact ⟨d,z,.int j,rfl,rfl,⟨es,nn,_,f.at_,f.lit,M,⟨t,rfl⟩⟩,k.atom p.drop (.int j)⟩
    ·cases he
   ·cases he
  ·cases he
 ·cases hm
theorem En (ok:XOk C X c) {i:Nat} {x:Expr} (hm:mE (m+1) c (.var i) x=true) (s:SOk X.K F H σ δ W) (he:evE C (n+1) (.var i) δ=some (a,δ')) (k:af X F H W σ δ' a Q):tW X x σ H Q:=by
 unfold mE at hm
 simp only at hm
 split at hm
 ·simp only [Bool.and_eq_true] at hm
  obtain ⟨⟨b,e⟩,h⟩:=hm
  obtain ⟨d1,d2⟩:=aU h
  unfold evE at he
  simp only at he
  split at he
  ·rename_i d e0
   obtain ⟨v,U,R,g,o,_⟩:=s.st.zip (aQ e0)
   refine aw (pe_var (ok.nm b) (ok.vis e) d1 d2) ⟨v,g,?_⟩
   split at he
   ·rename_i f
    cases he
    exact k.atom (.refl s) (o.fz f)
   ·cases he
    exact k v F H W No (.refl s) (.bor g rfl)
  ·cases he
 ·cases hm
theorem EA (ih:SE C n) (ok:XOk C X c) {b:E} {x:Expr} (hm:mE (m+1) c (.neg b) x=true) (s:SOk X.K F H σ δ W) (he:evE C (n+1) (.neg b) δ=some (a,δ')) (k:af X F H W σ δ' a Q):tW X x σ H Q:=by
 unfold mE at hm
 simp only at hm
 split at hm
 ·unfold evE at he
  simp only at he
  split at he
  ·rename_i i δ1 b
   cases he
   refine aw (pe_un un_neg aq) (ih ok hm s b fun v F' H' W' Wt p h=>?_)
   cases (h.look p.ok rfl).int
   exact ⟨i,rfl,k.atom p (.int _)⟩
  ·cases he
 ·cases hm
theorem yH (ih:SAs C n) (ok:XOk C X c) {op:Cop} {b d:E} {x:Expr} (hm:mE (m+1) c (.cmp op b d) x=true) (s:SOk X.K F H σ δ W) (he:evE C (n+1) (.cmp op b d) δ=some (a,δ')) :
  ∃ l r pos t,x=.Compare l [uG op] [r] pos∧cP r=false∧a=.tmp (.bl t)∧∀ {R:V→V→Hp→Prop},(∀ v w F' H' W',aC X.K F H W F' H' σ δ' W' No→(∀ {Q:VK},Q (.bl t) H'→rW X (compareOp (uG op)) v w H' Q)→R v w H')→tW X l σ H fun x H1=>tW X r σ H1 fun y e=>R x y e:=by
 unfold mE at hm
 simp only at hm
 split at hm
 ·simp only [Bool.and_eq_true,Bool.not_eq_true'] at hm
  obtain ⟨⟨f,g⟩,i⟩:=hm
  unfold evE at he
  simp only at he
  split at he
  ·rename_i as δ1 b
   split at he
   ·rename_i d0 d1 d
    split at he
    ·rename_i t j
     cases he
     cases mB f
     refine ⟨_,_,_,t,rfl,i,rfl,fun {R} k=>SAs.two ih ok g s b fun v w F' H' W' Wt p h=>?_⟩
     obtain ⟨x,y,ex,o,u⟩:=(h.looks p.ok d).two
     cases ex
     exact k _ _ _ _ _ p.drop fun q=>oa ok.units p.ok.sub j o u q
    ·cases he
   ·cases he
  ·cases he
 ·cases hm
theorem AH (ih:SAs C n) (ok:XOk C X c) {op:Cop} {b d:E} {x:Expr} (hm:mE (m+1) c (.cmp op b d) x=true) (s:SOk X.K F H σ δ W) (he:evE C (n+1) (.cmp op b d) δ=some (a,δ')) (k:af X F H W σ δ' a Q):tW X x σ H Q:=by
 obtain ⟨l,r,pos,t,rfl,e,rfl,go⟩:=yH ih ok hm s he
 exact aw (pe_cmpR lg aq aq (qK e)) (go fun v w F' H' W' p q=>q (k.atom p (.bl t)))
theorem BC (ih:SAs C n) (ok:XOk C X c) {op:Cop} {a d:E} {x:Expr} {b:Bool} {Q:Bool→Hp→Prop} (hm:mE (m+1) c (.cmp op a d) x=true) (s:SOk X.K F H σ δ W) (he:evE C (n+1) (.cmp op a d) δ=some (.tmp (.bl b),δ')) (k:Tells X F H W σ δ' b Q):tWT X x σ H Q:=by
 obtain ⟨l,r,pos,t,rfl,e,f,go⟩:=yH ih ok hm s he
 cases f
 exact gI (pt_cmpR lg aq aq (qK e)) (go fun v w F' H' W' p q=>q ⟨b,rfl,k _ _ _ p⟩)
theorem mm (ih:SAs C n) (g:SE C n) (ok:XOk C X c) {o1 o2:Cop} {e d f:E} {x:Expr} (hm:mE (m+1) c (.chain o1 o2 e d f) x=true) (s:SOk X.K F H σ δ W) (he:evE C (n+1) (.chain o1 o2 e d f) δ=some (a,δ')) :
  ∃ l y r pos t,x=.Compare l [uG o1,uG o2] [y,r] pos∧cP r=false∧a=.tmp (.bl t)∧∀ {Q:VK},(∀ F' H' W',aC X.K F H W F' H' σ δ' W' No→Q (.bl t) H')→tChain (rW X (compareOp (uG o1))) (rW X (compareOp (uG o2))) (tW X l) (tW X y) (tW X r) σ H Q:=by
 unfold mE at hm
 simp only at hm
 split at hm
 ·simp only [Bool.and_eq_true,Bool.not_eq_true'] at hm
  obtain ⟨⟨⟨⟨G,I⟩,u⟩,J⟩,B⟩:=hm
  unfold evE at he
  simp only at he
  cases mB G
  cases mB I
  split at he
  ·rename_i d0 d1 δ1 e
   split at he
   ·rename_i d
    cases he
    refine ⟨_,_,_,_,false,rfl,B,rfl,fun {Q} k=>SAs.two ih ok u s e fun v w F' H' W' Wt p h=>?_⟩
    obtain ⟨x,y,ex,i,j⟩:=(h.looks p.ok rfl).two
    cases ex
    exact oa ok.units p.ok.sub d i j ⟨false,rfl,by rw [if_neg Bool.false_ne_true];exact k _ _ _ p.drop⟩
   ·rename_i d
    split at he
    ·rename_i d2 δ2 f
     split at he
     ·rename_i t L
      cases he
      refine ⟨_,_,_,_,t,rfl,B,rfl,fun {Q} k=>SAs.two ih ok u s e fun v w F' H' W' Wt p h=>?_⟩
      obtain ⟨x,y,ex,i,j⟩:=(h.looks p.ok rfl).two
      cases ex
      refine oa ok.units p.ok.sub d i j ⟨true,rfl,?_⟩
      rw [if_pos rfl]
      refine g ok J p.ok f fun z P R W2 V q M=>?_
      cases h with
      | cons a1 a2 a3 a4 a5 =>
       cases a2 with
       | cons N Y Z O b5 =>
        cases N with
        | tmp o =>
         have o2:=o.ext q.ext fun b z=>p.dj b (a5 b (O b z))
         exact oa ok.units q.ok.sub L ⟨_,o2⟩ (M.look q.ok rfl) (k _ _ _ (p.aD q).drop)
     ·cases he
    ·cases he
   ·cases he
  ·cases he
 ·cases hm
theorem AO {o1 o2:CmpOp} {y r:Expr} (h:cP r=false):lastMarks [o1,o2] [y,r]=false:=qK (o:=o2) h
theorem uQ (ih:SAs C n) (b:SE C n) (ok:XOk C X c) {o1 o2:Cop} {d e f:E} {x:Expr} (hm:mE (m+1) c (.chain o1 o2 d e f) x=true) (s:SOk X.K F H σ δ W) (he:evE C (n+1) (.chain o1 o2 d e f) δ=some (a,δ')) (k:af X F H W σ δ' a Q):tW X x σ H Q:=by
 obtain ⟨l,y,r,pos,t,rfl,g,rfl,go⟩:=mm ih b ok hm s he
 exact aw (pe_chain lg lg aq aq aq (AO g)) (go fun F' H' W' p=>k.atom p (.bl t))
theorem uv (ih:SAs C n) (a:SE C n) (ok:XOk C X c) {o1 o2:Cop} {d e f:E} {x:Expr} {b:Bool} {Q:Bool→Hp→Prop} (hm:mE (m+1) c (.chain o1 o2 d e f) x=true) (s:SOk X.K F H σ δ W) (he:evE C (n+1) (.chain o1 o2 d e f) δ=some (.tmp (.bl b),δ')) (k:Tells X F H W σ δ' b Q):tWT X x σ H Q:=by
 obtain ⟨l,y,r,pos,t,rfl,g,h,go⟩:=mm ih a ok hm s he
 cases h
 exact gI (pt_chain lg lg aq aq aq (AO g)) (go fun F' H' W' p=>⟨b,rfl,k _ _ _ p⟩)
theorem Aj (ih:SE C n) (ok:XOk C X c) {e:E} {x:Expr} (hm:mE (m+1) c (.bnot e) x=true) (s:SOk X.K F H σ δ W) (he:evE C (n+1) (.bnot e) δ=some (a,δ')) (k:af X F H W σ δ' a Q):tW X x σ H Q:=by
 unfold mE at hm
 simp only at hm
 split at hm
 ·unfold evE at he
  simp only at he
  split at he
  ·rename_i y δ1 e
   split at he
   ·rename_i d f
    split at he
    ·rename_i b g
     cases he
     exact aw (pe_notT aq) (ih ok hm s e fun v F' H' W' Wt p h=>⟨b,iD p.ok.sub (h.look p.ok f) g,k.atom p (.bl _)⟩)
    ·cases he
   ·cases he
  ·cases he
 ·cases hm
theorem Ef (d:ST C n) (ih:SE C n) (ok:XOk C X c) {b g i:E} {x:Expr} (hm:mE (m+1) c (.ite b g i) x=true) (s:SOk X.K F H σ δ W) (he:evE C (n+1) (.ite b g i) δ=some (a,δ')) (k:af X F H W σ δ' a Q):tW X x σ H Q:=by
 unfold mE at hm
 simp only at hm
 split at hm
 ·simp only [Bool.and_eq_true] at hm
  obtain ⟨⟨j,l⟩,o⟩:=hm
  unfold evE at he
  simp only at he
  split at he
  ·rename_i δ1 b
   refine aw (pe_ifExp eX aq aq) (d ok j s b fun F' H' W' p=>?_)
   rw [if_pos rfl]
   exact ih ok l p.ok he fun v e f W2 Wt q h=>k v e f W2 Wt (p.aD q) h
  ·rename_i δ1 b
   refine aw (pe_ifExp eX aq aq) (d ok j s b fun F' H' W' p=>?_)
   rw [if_neg Bool.false_ne_true]
   exact ih ok o p.ok he fun v e f W2 Wt q h=>k v e f W2 Wt (p.aD q) h
  ·cases he
 ·cases hm
theorem Ds (ih:SAs C n) (ok:XOk C X c) {es:List E} {x:Expr} (hm:mE (m+1) c (.tup es) x=true) (s:SOk X.K F H σ δ W) (he:evE C (n+1) (.tup es) δ=some (a,δ')) (k:af X F H W σ δ' a Q):tW X x σ H Q:=by
 unfold mE at hm
 simp only at hm
 split at hm
 ·rw [Bool.and_eq_true] at hm
  unfold evE at he
  simp only at he
  split at he
  ·rename_i as δ1 d
   split at he
   ·rename_i ds δ2 e
    split at he
    ·rename_i f
     cases he
     refine aw (pe_tup (av hm.2)) (ih ok hm.1 s d fun vs F' H' W' Wt p h=>?_)
     obtain ⟨i,p2,o⟩:=p.bC h e
     obtain ⟨j,p3,r⟩:=p2.gL o
     have g:=of_decide_eq_true f
     have:=aA
     refine ⟨by rw [o.length];omega,fun q b=>?_⟩
     exact k _ _ _ _ _ (p3.vP (New.tuple p3.ok.sub b)) (.tmp (Ow.tuple p3.ok.sub b r))
    ·cases he
   ·cases he
  ·cases he
 ·cases hm
theorem DY (ih:SAs C n) (ok:XOk C X c) {es:List E} {x:Expr} (hm:mE (m+1) c (.lst es) x=true) (s:SOk X.K F H σ δ W) (he:evE C (n+1) (.lst es) δ=some (a,δ')) (k:af X F H W σ δ' a Q):tW X x σ H Q:=by
 unfold mE at hm
 simp only at hm
 split at hm
 ·rw [Bool.and_eq_true] at hm
  unfold evE at he
  simp only at he
  split at he
  ·rename_i as δ1 d
   split at he
   ·rename_i ds δ2 e
    split at he
    ·rename_i f
     cases he
     refine aw (pe_lst (av hm.2)) (ih ok hm.1 s d fun vs F' H' W' Wt p h=>?_)
     obtain ⟨i,p2,o⟩:=p.bC h e
     have g:=of_decide_eq_true f
     have:=aA
     refine ⟨by rw [o.length];omega,fun q b=>?_⟩
     exact k _ _ _ _ _ (p2.tR (New.list p2.ok.sub b)).2 (.tmp (Ow.DB p2.ok.sub b o p2.lt))
    ·cases he
   ·cases he
  ·cases he
 ·cases hm
theorem DU (ih:SAs C n) (ok:XOk C X c) {e l:E} {x:Expr} (hm:mE (m+1) c (.sub e l) x=true) (s:SOk X.K F H σ δ W) (he:evE C (n+1) (.sub e l) δ=some (a,δ')) (k:af X F H W σ δ' a Q):tW X x σ H Q:=by
 unfold mE at hm
 simp only at hm
 split at hm
 ·simp only [Bool.and_eq_true,Bool.not_eq_true'] at hm
  unfold evE at he
  simp only at he
  split at he
  ·rename_i y i δ1 e
   split at he
   ·rename_i d l
    refine aw (pe_ix ix_seq aq aq (lU hm.2)) (SAs.two ih ok hm.1 s e fun v w F' H' W' Wt p h=>?_)
    cases h with
    | cons a1 a2 a3 a4 a5 =>
     cases a2 with
     | cons B O P R V =>
      cases (B.look p.ok rfl).int
      have q:=a1.look p.ok l
      split at he
      ·rename_i o xs
       split at he
       ·rename_i j b
        split at he
        ·rename_i z t
         obtain ⟨ad,vs,v1,rfl,u,G,g,hk⟩:=q.kid p.ok.sub t
         refine pN (x:=v1) u (by rw [G];exact b) g ?_
         split at he
         ·rename_i f
          cases he
          obtain ⟨Y,hk⟩:=hk
          exact k.atom p.drop (hk.fz f)
         ·split at he
          ·cases he
           cases a1 with
           | bor I J=>exact k _ _ _ _ _ p.drop (.bor I (J.snoc rfl u g))
          ·cases he
        ·cases he
       ·cases he
      ·rename_i xs
       split at he
       ·rename_i j b
        split at he
        ·rename_i z t
         cases he
         obtain ⟨ad,vs,rfl,sq,r⟩:=q.tup
         obtain ⟨v1,g,rz⟩:=r.get t
         exact pT (x:=v1) (aa p.ok.sub sq) (by rw [r.length];exact b) g (k.atom p.drop rz)
        ·cases he
       ·cases he
      ·split at he
       ·rename_i z L
        split at he
        ·rename_i j b
         split at he
         ·rename_i M N
          cases he
          cases q.str
          exact .inr (.inr ⟨z,_,M,rfl,rfl,Nat.le_trans (of_decide_eq_true L) aA,rN b N,k.atom p.drop (.str _)⟩)
         ·cases he
        ·cases he
       ·cases he
      ·cases he
   ·cases he
  ·cases he
 ·cases hm
end
end Ev
namespace Ev
open PySem PySem.Spec PyProof.Rows L2
theorem xE {K:Frag} {cn:Str} {C a:Addr} (h:nsIn K mainGlobals cn=some (some (.ref C))) (h':nsIn K mainGlobals cn=some (some (.ref a))):a=C:=by
 rw [h] at h'
 cases h'
 rfl
section
variable {C:Ctx} {X:Cx} {c:Cxt} {n m:Nat} {σ:L2.St} {δ δ':Dl} {F H:Hp} {W:Fp} {a:A} {Q:VK}
end
end Ev
namespace Ev
open PySem PySem.Spec PyProof.Rows L2
section
variable {C:Ctx} {X:Cx} {c:Cxt} {n m:Nat} {σ:L2.St} {δ δ':Dl} {F H:Hp} {W:Fp} {a:A} {Q:VK}
theorem af.after {F1 H1:Hp} {W1 W2:Fp} {δ1:Dl} (k:af X F H W σ δ' a Q) (p:aC X.K F H W F1 H1 σ δ1 W1 W2):af X F1 H1 W1 σ δ' a Q:=fun v b c W2 Wt q h=>k v b c W2 Wt (p.aD q) h
theorem s_v (ih:SE C n):SV C (n+1):=by
 intro X c ok m e x σ δ F H W d δ' Q hm s he k
 unfold evV at he
 split at he
 ·rename_i a δ1 b
  refine ih ok hm s b fun v F' H' W' Wt p h=>?_
  obtain ⟨f,p2,o⟩:=p.toV h he
  exact k _ _ _ _ _ p2 o
 ·cases he
theorem mC:∀ {m:Nat} {xs:List Expr},mEs m c [] xs=true→xs=[]
 | 0,xs,h=>by simp [mEs] at h
 | m+1,[],_=>rfl
 | m+1,_::_,h=>by simp [mEs] at h
theorem jz:∀ {m:Nat} {xs:List Expr},mTs m c [] xs=true→xs=[]
 | 0,xs,h=>by simp [mTs] at h
 | m+1,[],_=>rfl
 | m+1,_::_,h=>by simp [mTs] at h
theorem ug:∀ {n:Nat} {δ δ':Dl} {as:List A},aL C n [] δ=some (as,δ')→as=[]∧δ'=δ
 | 0,δ,δ',as,h=>by simp [aL] at h
 | n+1,δ,δ',as,h=>by simp only [aL] at h;cases h;exact ⟨rfl,rfl⟩
def Dr (X:Cx) (H:Hp) (v:V) (a:A):Prop:=∀ cn xs,a=.tmp (.obj cn xs)→∃ (x C dx:Addr) (vs:List V),v=.ref x∧nsIn X.K mainGlobals cn=some (some (.ref C))∧SlX.Slt H x C dx (vs.map some)
def qd (X:Cx):List Expr→List A→TA
 | [],_=>fun _ H Q=>Q [] H
 | x::xs,a::as=>fun σ H Q=>tW X x σ H fun v H1=>((∀ i,a=.tmp (.int i)→v=.int i)∧Dr X H1 v a)∧qd X xs as σ H1 fun vs H2=>Q (v::vs) H2
 | _::_,[]=>fun _ _ _=>False
def SAI (C:Ctx) (n:Nat):Prop:=∀ {X:Cx} {c:Cxt},XOk C X c→∀ {m:Nat} {es:List E} {xs:List Expr} {σ:L2.St} {δ:Dl} {F H:Hp} {W:Fp} {as:List A} {δ':Dl} {Q:List V→Hp→Prop},mEs m c es xs=true→SOk X.K F H σ δ W→aL C n es δ=some (as,δ')→jJ X F H W σ δ' as Q→qd X xs as σ H Q
theorem lM:∀ {xs:List Expr} {as:List A} {H:Hp} {Q:List V→Hp→Prop},qd X xs as σ H Q→bM X xs σ H Q
 | [],_,_,_,h=>h
 | _::_,_::_,_,_,h=>ay h fun _ _ q=>lM q.2
 | _::_,[],_,_,h=>h.elim
theorem SAI.as (h:SAI C n):SAs C n:=by
 intro X c ok m es xs σ δ F H W as δ' Q hm s he k
 exact lM (h ok hm s he k)
theorem DE (j:SE C n) (ih:SAI C n):SAI C (n+1):=by
 intro X c ok m es xs σ δ F H W as δ' Q hm s he k
 unfold aL at he
 unfold mEs at hm
 split at hm
 ·cases hm
 rename_i m1
 split at hm
 ·split at hm
  ·simp only at he
   cases he
   exact k [] F H W No (.refl s) .nil
  ·cases hm
 ·rename_i e es
  split at hm
  ·rename_i x xs
   rw [Bool.and_eq_true] at hm
   simp only at he
   split at he
   ·rename_i a δ1 u
    split at he
    ·rename_i a2 δ2 f
     split at he
     ·rename_i as2 δ3 t
      cases he
      refine j ok hm.1 s u fun v F1 H1 W1 Wt p h=>?_
      have fin:∀ {g:Hp},aC X.K F H W g H1 σ δ2 W1 Wt→AOk X.K g H1 σ v a2 Wt→mX a2=true→((∀ i,a2=.tmp (.int i)→v=.int i)∧Dr X H1 v a2)∧qd X xs as2 σ H1 fun xs w=>Q (v::xs) w:=fun {g} p2 l np=>by
       refine ⟨⟨fun i ei=>?_,fun cn xs ei=>?_⟩,?_⟩
       ·subst ei
        exact (l.look p2.ok rfl).int
       ·subst ei
        obtain ⟨P,R,V,Y,B,G,I,_,_⟩:=(l.look p2.ok rfl).obj
        exact ⟨_,_,_,_,B,G,bW p2.ok.sub I⟩
       refine ih ok hm.2 p2.ok t fun vs J L M Wu q N=>?_
       obtain ⟨dj,p3⟩:=p2.dJ q
       exact k (v::vs) J L M _ p3 (.cons (l.ext (δ':=δ) (Wu:=No) q.ext p2.dj np) N (fun b z y=>dj b z (.inl y)) (fun b z=>.inl z) fun b z=>.inr z)
      unfold settle at f
      split at f
      ·rename_i Z k0 p0
       split at f
       ·rename_i emp
        cases f
        cases es with
        | cons e' es'=>simp at emp
        | nil =>
         cases mC hm.2
         obtain ⟨rfl,rfl⟩:=ug t
         exact ⟨⟨fun i ei=>by simp at ei,fun cn xs ei=>by simp at ei⟩,k [v] F1 H1 W1 Wt p (.cons (W2:=No) h .nil (fun _ _ q=>q) (fun _ q=>q) fun _ q=>q.elim)⟩
       ·split at f
        ·rename_i d δ9 O
         cases f
         obtain ⟨g,p2,o⟩:=p.toV h O
         exact fin p2 (.tmp o) rfl
        ·cases f
      ·rename_i r
       cases f
       refine fin p h ?_
       cases a with
       | tmp d=>rfl
       | bor i q =>
        cases q with
        | nil=>rfl
        | cons k0 q=>exact absurd rfl (r i k0 q)
     ·cases he
    ·cases he
   ·cases he
  ·cases hm
theorem EC (b:SE C n) (ih:CK C n):CK C (n+1):=by
 intro X c ok m es xs pos σ δ F H W a δ' Q hm s he k
 unfold tO at he
 unfold mEs at hm
 split at hm
 ·cases hm
 rename_i m1
 split at hm
 ·cases he
 ·rename_i e es
  split at hm
  ·rename_i x xs
   rw [Bool.and_eq_true] at hm
   cases es with
   | nil =>
    simp only at he
    cases mC hm.2
    exact aw (pe_one aq) (b ok hm.1 s he k)
   | cons i es =>
    cases xs with
    | nil =>
     have q:=hm.2
     unfold mEs at q
     split at q
     ·cases q
     ·simp at q
    | cons x2 xs =>
     simp only at he
     split at he
     ·rename_i a1 δ1 f
      split at he
      ·rename_i d g
       split at he
       ·rename_i et
        refine aw (pe_andT aq aq) (b ok hm.1 s f fun v F1 H1 W1 Wt p h=>⟨true,iD p.ok.sub (h.look p.ok g) et,?_⟩)
        rw [if_pos rfl]
        exact ih ok hm.2 p.ok he (k.after p)
       ·rename_i et
        cases he
        refine aw (pe_andT aq (aq (e:=.BoolOp .And (x2::xs) pos))) (b ok hm.1 s f fun v F1 H1 W1 Wt p h=>⟨false,iD p.ok.sub (h.look p.ok g) et,?_⟩)
        rw [if_neg Bool.false_ne_true]
        exact k _ _ _ _ _ p h
       ·cases he
      ·cases he
     ·cases he
  ·cases hm
theorem FX (b:SE C n) (ih:SOr C n):SOr C (n+1):=by
 intro X c ok m es xs pos σ δ F H W a δ' Q hm s he k
 unfold xp at he
 unfold mEs at hm
 split at hm
 ·cases hm
 rename_i m1
 split at hm
 ·cases he
 ·rename_i e es
  split at hm
  ·rename_i x xs
   rw [Bool.and_eq_true] at hm
   cases es with
   | nil =>
    simp only at he
    cases mC hm.2
    exact aw (pe_one aq) (b ok hm.1 s he k)
   | cons i es =>
    cases xs with
    | nil =>
     have q:=hm.2
     unfold mEs at q
     split at q
     ·cases q
     ·simp at q
    | cons x2 xs =>
     simp only at he
     split at he
     ·rename_i a1 δ1 f
      split at he
      ·rename_i d g
       split at he
       ·rename_i et
        refine aw (pe_orT aq aq) (b ok hm.1 s f fun v F1 H1 W1 Wt p h=>⟨false,iD p.ok.sub (h.look p.ok g) et,?_⟩)
        rw [if_neg Bool.false_ne_true]
        exact ih ok hm.2 p.ok he (k.after p)
       ·rename_i et
        cases he
        refine aw (pe_orT aq (aq (e:=.BoolOp .Or (x2::xs) pos))) (b ok hm.1 s f fun v F1 H1 W1 Wt p h=>⟨true,iD p.ok.sub (h.look p.ok g) et,?_⟩)
        rw [if_pos rfl]
        exact k _ _ _ _ _ p h
       ·cases he
      ·cases he
     ·cases he
  ·cases hm
theorem BA (a:ST C n) (ih:vH C n):vH C (n+1):=by
 intro X c ok m es xs pos σ δ F H W b δ' Q hm s he k
 unfold eK at he
 unfold mTs at hm
 split at hm
 ·cases hm
 rename_i m1
 split at hm
 ·cases he
 ·rename_i e es
  split at hm
  ·rename_i x xs
   rw [Bool.and_eq_true] at hm
   cases es with
   | nil =>
    simp only at he
    cases jz hm.2
    exact iQ (pw_and1 eX) (a ok hm.1 s he k)
   | cons f es =>
    cases xs with
    | nil =>
     have q:=hm.2
     unfold mTs at q
     split at q
     ·cases q
     ·simp at q
    | cons x2 xs =>
     simp only at he
     split at he
     ·rename_i δ1 d
      refine iQ (pw_and eX pw_tWW) (a ok hm.1 s d fun F1 H1 W1 p=>?_)
      rw [if_pos rfl]
      exact ih ok hm.2 p.ok he fun g h W2 q=>k _ _ _ (p.aD q)
     ·rename_i δ1 d
      cases he
      refine iQ (pw_and eX (pw_tWW (x:=.BoolOp .And (x2::xs) pos))) (a ok hm.1 s d fun F1 H1 W1 p=>?_)
      rw [if_neg Bool.false_ne_true]
      exact k _ _ _ p
     ·cases he
  ·cases hm
theorem CM (a:ST C n) (ih:BS C n):BS C (n+1):=by
 intro X c ok m es xs pos σ δ F H W b δ' Q hm s he k
 unfold jw at he
 unfold mTs at hm
 split at hm
 ·cases hm
 rename_i m1
 split at hm
 ·cases he
 ·rename_i e es
  split at hm
  ·rename_i x xs
   rw [Bool.and_eq_true] at hm
   cases es with
   | nil =>
    simp only at he
    cases jz hm.2
    exact iQ (pw_or1 eX) (a ok hm.1 s he k)
   | cons f es =>
    cases xs with
    | nil =>
     have q:=hm.2
     unfold mTs at q
     split at q
     ·cases q
     ·simp at q
    | cons x2 xs =>
     simp only at he
     split at he
     ·rename_i δ1 d
      refine iQ (pw_or eX pw_tWW) (a ok hm.1 s d fun F1 H1 W1 p=>?_)
      rw [if_neg Bool.false_ne_true]
      exact ih ok hm.2 p.ok he fun g h W2 q=>k _ _ _ (p.aD q)
     ·rename_i δ1 d
      cases he
      refine iQ (pw_or eX (pw_tWW (x:=.BoolOp .Or (x2::xs) pos))) (a ok hm.1 s d fun F1 H1 W1 p=>?_)
      rw [if_pos rfl]
      exact k _ _ _ p
     ·cases he
  ·cases hm
theorem qJ {x:Expr} (h:plainT x=true) (env:Env):∀ whole,isTrue x env whole=(do let v ← whole;standAt x.pos;holding [v] (truthy v)):=fun whole=>by
 cases x with
 | UnaryOp op y p=>cases op<;>first | rfl | simp [plainT] at h
 | BoolOp _ _ _=>simp [plainT] at h
 | IfExp _ _ _ _=>simp [plainT] at h
 | Compare _ _ _ _=>simp [plainT] at h
 | _=>rfl
theorem zQ {e:E} {x:Expr} (hm:mE (m+1) c e x=true) (d:plainT x=false):(∃ es,e=.band es)∨(∃ es,e=.bor es)∨(∃ a,e=.bnot a)∨(∃ p q r,e=.ite p q r)∨(∃ l os rs p,x=.Compare l os rs p):=by
  cases e with
  | band es=>exact .inl ⟨_,rfl⟩
  | bor es=>exact .inr (.inl ⟨_,rfl⟩)
  | bnot a=>exact .inr (.inr (.inl ⟨_,rfl⟩))
  | ite p q r=>exact .inr (.inr (.inr (.inl ⟨_,_,_,rfl⟩)))
  | bi b es =>
    unfold mE at hm
    simp only at hm
    split at hm<;>(split at hm<;>first | (simp [plainT] at d;done) | cases hm)
  | ob o cn nm f es =>
    cases o<;>(unfold mE at hm;simp only at hm)<;>first | cases hm | (split at hm<;>first | (simp [plainT] at d;done) | cases hm | exact .inr (.inr (.inr (.inr ⟨_,_,_,_,rfl⟩))))
  | mthM v cn nm f es =>
    unfold mE at hm
    simp only at hm
    split at hm
    · simp [plainT] at d
    · simp [plainT] at d
    · cases hm
  | disS l pre st post =>
    cases l<;>(unfold mE at hm;simp only at hm;split at hm)
    · simp [plainT] at d
    · cases hm
    · simp [plainT] at d
    · cases hm
  | fld a cn nm i =>
    unfold mE at hm
    simp only at hm
    split at hm
    · simp [plainT] at d
    · simp [plainT] at d
    · cases hm
  | _ =>
    unfold mE at hm
    simp only at hm
    first
      | cases hm
      | (split at hm
         · first
             | exact .inr (.inr (.inr (.inr ⟨_,_,_,_,rfl⟩)))
             | (simp [plainT] at d;done)
         · cases hm)
def SCT (C:Ctx) (n:Nat):Prop:=∀ {X:Cx} {c:Cxt},XOk C X c→∀ {m:Nat} {e:E} {l:Expr} {os:List CmpOp} {rs:List Expr} {pos:Pos} {σ:L2.St} {δ:Dl} {F H:Hp} {W:Fp} {a:A} {δ':Dl},mE m c e (.Compare l os rs pos)=true→SOk X.K F H σ δ W→evE C n e δ=some (a,δ') →
 ∃ t,a=.tmp (.bl t)∧∀ {Q:Bool→Hp→Prop},Tells X F H W σ δ' t Q→tWT X (.Compare l os rs pos) σ H Q
theorem FT (d:SAs C n) (g:SE C n):SCT C (n+1):=by
 intro X c ok m e l os rs pos σ δ F H W a δ' hm s he
 cases m with
 | zero=>simp [mE] at hm
 | succ m =>
 cases e with
 | cmp op h i =>
  obtain ⟨_,_,_,t,ex,_,rfl,_⟩:=yH d ok hm s he
  exact ⟨t,rfl,fun {Q} k=>BC d ok hm s he k⟩
 | chain o1 o2 h i j =>
  obtain ⟨_,_,_,_,t,ex,_,rfl,_⟩:=mm d g ok hm s he
  exact ⟨t,rfl,fun {Q} k=>uv d g ok hm s he k⟩
 | kin ne ps h =>
  obtain ⟨_,_,_,_,t,_,_,rfl,_⟩:=xj g ok hm s he
  exact ⟨t,rfl,fun {Q} k=>BF g ok hm s he k⟩
 | bi b es=>cases b<;>simp [mE] at hm
 | ob o cn nm f es =>
  cases o with
  | eqO ne=>simp [mE] at hm
  | cmpO op=>simp [mE] at hm
  | contO ne=>simp [mE] at hm
  | inMix ne=>simp [mE] at hm
  | _=>simp [mE] at hm
 | disS l pre st post=>cases l<;>simp [mE] at hm
 | _=>simp [mE] at hm
theorem s_t (f:SE C n) (g:ST C n) (i:vH C n) (j:BS C n) (l:SCT C n):ST C (n+1):=by
 intro X c ok m e x σ δ F H W b δ' Q hm s he k
 unfold mT at hm
 split at hm
 ·cases hm
 rename_i m1
 split at hm
 ·split at hm
  ·simp only [evT] at he
   exact gI (PW.pt pw_tWW) (i ok hm s he k)
  ·cases hm
 ·split at hm
  ·simp only [evT] at he
   exact gI (PW.pt pw_tWW) (j ok hm s he k)
  ·cases hm
 ·split at hm
  ·simp only [evT] at he
   split at he
   ·rename_i z δ1 a
    cases he
    exact gI (pt_not eX) (g ok hm s a fun F' H' W' p=>k _ _ _ p)
   ·cases he
  ·cases hm
 ·cases hm
 ·rename_i o q r B
  unfold evT at he
  split at he
  ·exact absurd rfl (o _)
  ·exact absurd rfl (q _)
  ·exact absurd rfl (r _)
  ·split at he
   ·rename_i a1 δ1 a
    split at he
    ·rename_i d u
     split at he
     ·rename_i z w
      cases he
      cases y:plainT x with
      | true =>
       exact gI (pt_truth aq (qJ y X.env)) (f ok hm s a fun v F' H' W' Wt p h=>⟨b,iD p.ok.sub (h.look p.ok u) w,k _ _ _ p.drop⟩)
      | false =>
       cases m1 with
       | zero=>simp [mE] at hm
       | succ m1 =>
        rcases zQ hm y with ⟨_,rfl⟩ | ⟨_,rfl⟩ | ⟨_,rfl⟩ | ⟨_,_,_,rfl⟩ | ⟨_,_,_,_,rfl⟩
        ·exact absurd rfl (o _)
        ·exact absurd rfl (q _)
        ·exact absurd rfl (r _)
        ·exact absurd rfl (B _ _ _)
        ·obtain ⟨t,rfl,go⟩:=l ok hm s a
         cases u
         cases w
         exact go k
     ·cases he
    ·cases he
   ·cases he
theorem jO:∀ {n:Nat} {es:List E} {δ δ':Dl} {as:List A},aL C n es δ=some (as,δ')→as.length=es.length
 | 0,es,δ,δ',as,h=>by simp [aL] at h
 | n+1,[],δ,δ',as,h=>by simp only [aL] at h;cases h;rfl
 | n+1,e::es,δ,δ',as,h=>by
  simp only [aL] at h
  split at h
  ·split at h
   ·split at h
    ·rename_i a
     cases h
     rw [List.length_cons,List.length_cons,jO a]
    ·cases h
   ·cases h
  ·cases h
theorem jM:∀ {as:List A} {δ δ':Dl} {ds:List D},Ev.bC δ as=some (ds,δ')→ds.length=as.length
 | [],δ,δ',ds,h=>by simp only [Ev.bC] at h;cases h;rfl
 | a::as,δ,δ',ds,h=>by
  unfold Ev.bC at h
  split at h
  ·split at h
   ·rename_i b
    cases h
    rw [List.length_cons,List.length_cons,jM b]
   ·cases h
  ·cases h
theorem mO:∀ {m:Nat} {es:List E} {xs:List Expr},mEs m c es xs=true→es.length=xs.length
 | 0,es,xs,h=>by simp [mEs] at h
 | m+1,[],[],_=>rfl
 | m+1,[],_::_,h=>by simp [mEs] at h
 | m+1,_::_,[],h=>by simp [mEs] at h
 | m+1,e::es,x::xs,h=>by
  simp only [mEs,Bool.and_eq_true] at h
  rw [List.length_cons,List.length_cons,mO h.2]
theorem E5 (ih:SAs C n):SIt C (n+1):=by
 intro X c ok m t k es x σ δ F H W ds δ' R hm s he q
 unfold cH at he
 split at he
 ·rename_i as δ1 I
  split at he
  ·rename_i vs0 δ2 L
   split at he
   ·rename_i items b
    cases he
    have go:∀ {k':ItK} {ys:List Expr} {m1:Nat},itD k' (frzs vs0)=some ds→mEs m1 c es ys=true→MI X t k' ys x→tWI X t x σ H R:=fun {k' ys m1} b h P=>by
     refine Ep P b (by rw [cY,jM L,jO I,mO h]) (ih ok h s I fun vs F' H' W' Wt p ha=>?_)
     obtain ⟨Q,p2,o⟩:=p.bC ha L
     obtain ⟨M,p3,r⟩:=p2.gL o
     exact ⟨M,p3.ok.sub,r,fun J w=>q _ _ _ J p3 w⟩
    unfold mI at hm
    split at hm
    ·cases hm
    rename_i m1
    split at hm
    ·simp only [Bool.and_eq_true,Bool.not_eq_true'] at hm
     exact go (k':=.val) b hm.1 (.val hm.2)
    ·rename_i cn f
     simp only [Bool.and_eq_true,Bool.not_eq_true'] at hm
     obtain ⟨⟨i,j⟩,d⟩:=hm
     have d:=of_decide_eq_true d
     simp only [itC] at b
     split at b
     ·rename_i cn' xs V
      split at b
      ·rename_i N
       cases b
       rw [Bool.and_eq_true] at N
       obtain ⟨u,B⟩:=N
       have u:=of_decide_eq_true u
       subst u
       obtain ⟨Ca,Y,hn | ⟨Z,room,_⟩⟩:=ok.vn f _ d
       ·rw [hn] at B
        cases B
       obtain ⟨fI,fi,fl,fdI,fdl,_,_,_,_,_,IS,_,_,fdi,FI,bI⟩:=Z.ex
       have FR:FnR X.prog X.w X.K X.mg X.base CX0 1 fi (Ob.t7 X.K Ca):=by have:=FI.raw bI (.nil:Vals [] []);simpa only [List.append_nil] using this
       refine dg (Ob.C6 IS FR (room.mono (by omega)) aq) ?_
       have g:bM X [x] σ H (fun vs H1=>∃ v,vs=[v]∧∃ a dx t ws,v=.ref a∧SlX.Slt H1 a Ca dx [some (.ref t)]∧SqT X.K H1 t ws∧R (Itt X.K t) H1):=by
        refine ih ok i s I fun vs F' H' W' Wt p ha=>?_
        obtain ⟨Q,p2,o⟩:=p.bC ha L
        obtain ⟨M,p3,r⟩:=p2.gL o
        rw [V] at r
        cases r with
        | cons r0 rt =>
         cases rt
         obtain ⟨a,Cb,dx,us,rfl,hn,hs,_,l⟩:=Vw.obj (H:=H') ⟨No,.frz r0⟩
         cases xE hn Y.nsC
         cases l with
         | cons l0 lt =>
          cases lt
          cases l0 with
          | tup O hl=>exact ⟨_,rfl,a,dx,_,_,rfl,bW p3.ok.sub hs,aa p3.ok.sub O,q _ _ _ _ p3 (wQ O hl)⟩
       exact ay g fun v H1 z=>by
        obtain ⟨v1,e,z⟩:=z
        cases e
        exact z
      ·cases b
     ·exact go (k':=.val) b i (.val j)
    ·split at hm
     ·simp only [Bool.and_eq_true] at hm
      obtain ⟨⟨⟨i,j⟩,d⟩,y⟩:=hm
      cases ak i
      exact go (k':=.range) b d (.range (ok.gl j) (ok.blt _ (by decide)) y)
     ·cases hm
    ·split at hm
     ·simp only [Bool.and_eq_true] at hm
      obtain ⟨⟨⟨⟨i,j⟩,d⟩,y⟩,G⟩:=hm
      cases ak i
      exact go (k':=.enum) b d (.enum G (ok.gl j) (ok.blt _ (by decide)) y)
     ·cases hm
    ·split at hm
     ·simp only [Bool.and_eq_true] at hm
      obtain ⟨⟨⟨⟨i,j⟩,d⟩,y⟩,G⟩:=hm
      cases ak i
      exact go (k':=.zip) b d (.zip G (ok.gl j) (ok.blt _ (by decide)) y)
     ·simp only [Bool.and_eq_true] at hm
      obtain ⟨⟨⟨⟨i,j⟩,d⟩,y⟩,G⟩:=hm
      cases ak i
      exact go (k':=.zip) b d (.zip3 G (ok.gl j) (ok.blt _ (by decide)) y)
     ·cases hm
   ·cases he
  ·cases he
 ·cases he
end
end Ev
namespace Ev
open PySem PySem.Spec PyProof.Rows L2
section
variable {C:Ctx} {X:Cx} {c:Cxt} {n m:Nat} {σ:L2.St} {δ δ':Dl} {F H:Hp} {W:Fp} {a:A} {Q:VK}
theorem uE {as:List A} {l h:Option Int} (e:partsOf (none:Option E).isSome (none:Option E).isSome as=some (l,h)):as=[]∧l=none∧h=none:=by
 simp only [Option.isSome_none] at e
 unfold partsOf at e
 split at e<;>first | (cases e;exact ⟨rfl,rfl,rfl⟩) | simp_all
theorem uA {lo:E} {as:List A} {l h:Option Int} (e:partsOf (some lo:Option E).isSome (none:Option E).isSome as=some (l,h)):∃ i,as=[.tmp (.int i)]∧l=some i∧h=none:=by
 simp only [Option.isSome_none,Option.isSome_some] at e
 unfold partsOf at e
 split at e<;>first | (cases e;exact ⟨_,rfl,rfl,rfl⟩) | simp_all
theorem vy {hi:E} {as:List A} {l h:Option Int} (e:partsOf (none:Option E).isSome (some hi:Option E).isSome as=some (l,h)):∃ i,as=[.tmp (.int i)]∧l=none∧h=some i:=by
 simp only [Option.isSome_none,Option.isSome_some] at e
 unfold partsOf at e
 split at e<;>first | (cases e;exact ⟨_,rfl,rfl,rfl⟩) | simp_all
theorem um {lo hi:E} {as:List A} {l h:Option Int} (e:partsOf (some lo:Option E).isSome (some hi:Option E).isSome as=some (l,h)):∃ i j,as=[.tmp (.int i),.tmp (.int j)]∧l=some i∧h=some j:=by
 simp only [Option.isSome_some] at e
 unfold partsOf at e
 split at e<;>first | (cases e;exact ⟨_,_,rfl,rfl,rfl⟩) | simp_all
theorem yu (ih:SAI C n) (ok:XOk C X c) {b:E} {lo hi:Option E} {x:Expr} (hm:mE (m+1) c (.slice b lo hi) x=true) (s:SOk X.K F H σ δ W) (he:evE C (n+1) (.slice b lo hi) δ=some (a,δ')) (k:af X F H W σ δ' a Q):tW X x σ H Q:=by
 unfold mE at hm
 simp only at hm
 split at hm
 ·rename_i l u v p2 pos
  simp only [Bool.and_eq_true,beq_iff_eq] at hm
  obtain ⟨⟨N,I⟩,e⟩:=hm
  unfold evE at he
  simp only at he
  split at he
  ·rename_i y as δ1 b
   split at he
   ·rename_i d J h' O f
    have P:jJ X F H W σ δ1 (y::as) (fun vs B=>∀ x xs,vs=x::xs→Cd X.K x J h' B Q):=by
     split at he
     ·rename_i r G
      cases he
      intro vs F' H' W' Wt p h
      cases h with
      | cons a1 a2 a3 a4 a5 =>
       rintro x xs ex
       cases ex
       exact BO p.ok.sub G (a1.look p.ok O) (k.goes p)
     ·split at he
      ·rename_i d2 dr δ2 R
       split at he
       ·rename_i r G
        cases he
        intro vs F' H' W' Wt p h
        rintro x xs rfl
        obtain ⟨V,q,o⟩:=p.bC h R
        obtain ⟨Y,L,r⟩:=q.gL o
        simp only [frzs] at r
        cases r with
        | cons r1 Z=>exact BO L.ok.sub G ⟨No,.frz r1⟩ (k.goes L)
       ·cases he
      ·cases he
    have g:=ih ok N s b (Q:=fun vs B=>∀ x xs,vs=x::xs→Cd X.K x J h' B Q) P
    cases lo with
    | none =>
     cases u with
     | some _=>simp at I
     | none =>
     cases hi with
     | none =>
      cases v with
      | some _=>simp at e
      | none =>
      obtain ⟨rfl,rfl,rfl⟩:=uE f
      exact aw (pe_slice ng aq po_none po_none) (ay g fun x H1 q=>q.2 x [] rfl)
     | some hi =>
      cases v with
      | none=>simp at e
      | some v =>
      obtain ⟨i,rfl,rfl,rfl⟩:=vy f
      exact aw (pe_slice ng aq po_none (po_some aq)) (ay g fun x H1 q=>ay q.2 fun y M z=>⟨i,z.1.1 i rfl,z.2 x [y] rfl⟩)
    | some lo =>
     cases u with
     | none=>simp at I
     | some u =>
     cases hi with
     | none =>
      cases v with
      | some _=>simp at e
      | none =>
      obtain ⟨i,rfl,rfl,rfl⟩:=uA f
      exact aw (pe_slice ng aq (po_some aq) po_none) (ay g fun x H1 q=>ay q.2 fun y M z=>⟨i,z.1.1 i rfl,z.2 x [y] rfl⟩)
     | some hi =>
      cases v with
      | none=>simp at e
      | some v =>
      obtain ⟨i,j,rfl,rfl,rfl⟩:=um f
      exact aw (pe_slice ng aq (po_some aq) (po_some aq)) (ay g fun x H1 q=>ay q.2 fun y M z=>⟨i,z.1.1 i rfl,ay z.2 fun w B t=>⟨j,t.1.1 j rfl,t.2 x [y,w] rfl⟩⟩)
   ·cases he
  ·cases he
 ·cases hm
theorem bo {f:Nat} {as:List A} {r:A × Dl} (e:aY C f as δ=some r):∃ ds r outs,C.call f ds=some (r,outs):=by
 unfold aY at e
 split at e
 ·split at e
  ·split at e
   ·rename_i a
    exact ⟨_,_,_,a⟩
   ·cases e
  ·cases e
 ·cases e
theorem BK (ih:SAs C n) (ok:XOk C X c) {f:Nat} {es:List E} {x:Expr} (hm:mE (m+1) c (.call f es) x=true) (s:SOk X.K F H σ δ W) (he:evE C (n+1) (.call f es) δ=some (a,δ')) (k:af X F H W σ δ' a Q):tW X x σ H Q:=by
 unfold mE at hm
 simp only at hm
 split at hm
 ·rename_i g p0 xs pos
  rw [Bool.or_eq_true] at hm
  rcases hm with hm | hm
  rotate_left
  ·rw [Bool.and_eq_true,Bool.and_eq_true,Bool.and_eq_true] at hm
   obtain ⟨⟨⟨P,hg⟩,i⟩,hm⟩:=hm
   split at hm
   ·rename_i o Y m0 Z y ys q3
    simp only [Bool.and_eq_true] at hm
    obtain ⟨⟨⟨⟨⟨⟨⟨R,j⟩,l⟩,t⟩,u⟩,w⟩,b⟩,hlen⟩:=hm
    cases ak P
    cases ak t
    unfold evE at he
    simp only at he
    split at he
    ·rename_i as δ1 z
     obtain ⟨ds,r,outs,ec⟩:=bo he
     rcases ok.vm f o (of_decide_eq_true R) with hn | ⟨Ca,kc,it,C0,ways,O,room,B,G⟩
     ·rw [hn] at ec
      cases ec
     ·refine Ob.qN G O (ok.calm i) room (ok.gl hg) (ok.blt _ (by decide)) (ok.gl j) (aU l).1 b u (of_decide_eq_true hlen).2 (ih ok w s z fun vs F' H' W' Wt p h=>?_)
      have cc:=(cL p h he fun v I J W2 Wu q L=>k v I J W2 Wu q L).2
      rwa [B] at cc
    ·cases he
   ·cases hm
  simp only [Bool.and_eq_true] at hm
  obtain ⟨⟨⟨⟨V,M⟩,N⟩,w⟩,b⟩:=hm
  unfold evE at he
  simp only at he
  split at he
  ·rename_i as δ1 z
   obtain ⟨ds,r,outs,ec⟩:=bo he
   obtain ⟨ad,fd,ps,sp,kk,mg,kp,room,d,bd,_,imp⟩:=ok.call.fn f g (of_decide_eq_true V) N _ _ _ ec
   have e:=(aU N).1
   have go:=ih ok w s z (Q:=fun vs H1=>sp (vs++[]) H1 Q E0) fun vs F' H' W' Wt p h=>by
    show sp (vs++[]) H' Q E0
    rw [List.append_nil]
    exact imp _ _ _ _ (cL p h he fun v I J W2 Wu q L=>k v I J W2 Wu q L).2
   cases xs with
   | nil=>exact aw (pe_call0 d room (ok.gl M) mg kp bd .nil pass0 e) go
   | cons y ys=>exact aw (pe_call d room (ok.gl M) mg kp bd .nil pass0 (av b) e (ah _ b) (ao _ _ (aj b))) go
  ·cases he
 ·cases hm
theorem xH (b:Bi) (a:b.pl=true):biS b∈tU∧biS b≠"__name__" ∧ (biS b==("__debug__" : Str))=false∧((∃ id,biV b=.builtin id∧bootBuiltins (biS b)=some (.builtin id))∨∃ id,biV b=.type id∧bootBuiltins (biS b)=some (.type id)):=by
 cases b with
 | len=>exact ⟨by decide,by decide +kernel,by decide +kernel,.inl ⟨_,rfl,by decide +kernel⟩⟩
 | abs=>exact ⟨by decide,by decide +kernel,by decide +kernel,.inl ⟨_,rfl,by decide +kernel⟩⟩
 | min2=>exact ⟨by decide,by decide +kernel,by decide +kernel,.inl ⟨_,rfl,by decide +kernel⟩⟩
 | max2=>exact ⟨by decide,by decide +kernel,by decide +kernel,.inl ⟨_,rfl,by decide +kernel⟩⟩
 | min1=>exact ⟨by decide,by decide +kernel,by decide +kernel,.inl ⟨_,rfl,by decide +kernel⟩⟩
 | max1=>exact ⟨by decide,by decide +kernel,by decide +kernel,.inl ⟨_,rfl,by decide +kernel⟩⟩
 | sum1=>exact ⟨by decide,by decide +kernel,by decide +kernel,.inl ⟨_,rfl,by decide +kernel⟩⟩
 | int1=>exact ⟨by decide,by decide +kernel,by decide +kernel,.inr ⟨_,rfl,by decide +kernel⟩⟩
 | list1=>exact ⟨by decide,by decide +kernel,by decide +kernel,.inr ⟨_,rfl,by decide +kernel⟩⟩
 | tuple1=>exact ⟨by decide,by decide +kernel,by decide +kernel,.inr ⟨_,rfl,by decide +kernel⟩⟩
 | sorted1=>exact ⟨by decide,by decide +kernel,by decide +kernel,.inl ⟨_,rfl,by decide +kernel⟩⟩
 | all1=>exact ⟨by decide,by decide +kernel,by decide +kernel,.inl ⟨_,rfl,by decide +kernel⟩⟩
 | any1=>exact ⟨by decide,by decide +kernel,by decide +kernel,.inl ⟨_,rfl,by decide +kernel⟩⟩
 | divmod=>exact ⟨by decide,by decide +kernel,by decide +kernel,.inl ⟨_,rfl,by decide +kernel⟩⟩
 | lrange=>exact nomatch a
 | trange=>exact nomatch a
 | maxd=>exact nomatch a
 | sset=>exact nomatch a
 | lset=>exact nomatch a
 | step=>exact nomatch a
 | lenr=>exact nomatch a
 | str1=>exact ⟨by decide,by decide +kernel,by decide +kernel,.inr ⟨_,rfl,by decide +kernel⟩⟩
 | join _=>exact nomatch a
 | splt _=>exact nomatch a
 | repl _=>exact nomatch a
inductive RgA:List V→Int→Int→Int→Prop
 | one {j:Int}:RgA [.int j] 0 j 1
 | two {i j:Int}:RgA [.int i,.int j] i j 1
 | three {i j k:Int}:k≠0→k.natAbs<1073741824→RgA [.int i,.int j,.int k] i j k
theorem gC {pins:List (Addr × Obj)} {s:Shared} {y:Expr} {ys:List Expr} {p pos:Pos} {Q:Int→Int→Int→Hp→Prop} (hg:Gl X "range") (hm:X.mg "range" = none) (hn:noStar (y::ys)=true) (I:Inv X pins σ H s)
  (h:bM X (y::ys) σ H fun vs H1=>∃ a b c,RgA vs a b c∧Q a b c H1) :
  wpAny (model X.prog X.w) X.A (eval (.Call (.Name "range" p) (y::ys) [] pos) X.env) (fun x j=>∃ r a b c t u v H',x=.ref r∧IsRange j.heap r a b c t u v∧Inv X pins σ H' j∧Q a b c H') X.xe s:=by
 refine Call_ (ld_blt I hg hm PyProof.Rows.boot_range (PyProof.Rows.callWith_type1 (thn ((av hn).run pos pins s σ H _ I h) fun us s1 ⟨vs,H1,f,r1,k⟩=>?_) (ah _ hn) (ao _ _ (aj hn))))
 obtain ⟨a,b,c,l,q⟩:=k
 cases l with
 | one =>
  cases r1 with
  | cons r d =>
   cases d
   obtain ⟨t,rfl⟩:=r
   exact call_range_1 ⟨_,0,b,1,_,_,_,H1,rfl,IsRange.new _ _ _ _ _ _ _,f.kept fun b u e=>Heap.get?_push_of_some _ e,q⟩
 | two =>
  cases r1 with
  | cons r d =>
   cases d with
   | cons g d =>
    cases d
    obtain ⟨t,rfl⟩:=r
    obtain ⟨t',rfl⟩:=g
    exact call_range_2 ⟨_,a,b,1,_,_,_,H1,rfl,IsRange.new _ _ _ _ _ _ _,f.kept fun b u e=>Heap.get?_push_of_some _ e,q⟩
 | three c0 c1 =>
  cases r1 with
  | cons r d =>
   cases d with
   | cons g d =>
    cases d with
    | cons i d =>
     cases d
     obtain ⟨t,rfl⟩:=r
     obtain ⟨t',rfl⟩:=g
     obtain ⟨m,rfl⟩:=i
     exact call_range_3 c0 ⟨_,a,b,c,_,_,_,H1,rfl,IsRange.new _ _ _ _ _ _ _,f.kept fun b u e=>Heap.get?_push_of_some _ e,q⟩ (.inl (PyProof.noPylong_small (by omega)))
def oJ (a c:Int) (n:Nat):List V:=(List.range n).map fun i=>V.int (a+(i:Nat)*c)
theorem oh {a c:Int} {n:Nat} {acc:Array Value} (h:ItemsOf (fun i v=>∃ t,v=.int (a+i*c) t) acc n):Vals (oJ a c n) acc.toList:=by
 have e:acc.toList.length=n:=by rw [Array.length_toList];exact h.1
 unfold oJ
 rw [← e]
 refine vals_of_get acc.toList _ fun j u b=>?_
 obtain ⟨t,rfl⟩:=h.2 j u (by rw [← b,Array.getElem?_toList])
 exact ⟨t,rfl⟩
theorem lF {K:Frag}:∀ (n:Nat) (a c:Int),RpL K F (oJ a c n) (az a c n)
 | 0,a,c=>.nil
 | n+1,a,c=>by
  have e:oJ a c (n+1)=V.int a::oJ (a+c) c n:=by
   unfold oJ
   rw [List.range_succ_eq_map,List.map_cons,List.map_map]
   congr 1
   ·simp
   ·refine List.map_congr_left fun i _=>?_
    show V.int (a+((i+1:Nat):Int)*c)=V.int (a+c+(i:Nat)*c)
    rw [Int.natCast_succ,Int.add_mul]
    congr 1
    omega
  rw [e]
  exact .cons (.int _) (lF n (a+c) c)
theorem nz (a c:Int) (n:Nat):(oJ a c n).length=n:=by unfold oJ;rw [List.length_map,List.length_range]
theorem jF {K:Frag} {ds items:List D} {vs:List V} (e:aN ds=some items) (d:VwL K F H vs ds) (q:items.length≤cap):∃ a b c,RgA vs a b c∧Builtin.Range.small a b c=true∧Builtin.Range.rangeSize a b c=(items.length:Nat)∧items=az a c items.length:=by
 unfold aN at e
 split at e
 ·rename_i j
  split at e
  ·rename_i cc
   cases e
   obtain ⟨x,rfl,f⟩:=d.one
   cases f.int
   obtain ⟨g,h⟩:=bO cc
   refine ⟨0,j,1,.one,small_one (by decide) (by decide) g h,?_,by rw [aH]⟩
   rw [aH,rangeSize_one]
   split<;>omega
  ·cases e
 ·rename_i i j
  split at e
  ·rename_i cc
   cases e
   obtain ⟨x,y,rfl,f,l⟩:=d.two
   cases f.int
   cases l.int
   simp only [Bool.and_eq_true] at cc
   obtain ⟨g,h⟩:=bO cc.1
   obtain ⟨m,n⟩:=bO cc.2
   refine ⟨i,j,1,.two,small_one g h m n,?_,by rw [aH]⟩
   rw [aH,rangeSize_one]
   split<;>omega
  ·cases e
 ·rename_i i j k
  split at e
  ·rename_i cc
   cases e
   cases d with
   | cons o t =>
    obtain ⟨y,z,rfl,l,p⟩:=t.two
    cases o.int
    cases l.int
    cases p.int
    simp only [Bool.and_eq_true,decide_eq_true_eq] at cc
    refine ⟨i,j,k,.three cc.1.2 (by omega),kT (by simp only [Bool.and_eq_true];exact cc.1.1) cc.1.2,?_,by rw [aH]⟩
    rw [aH]
    have nn:0≤Builtin.Range.rangeSize i j k:=by
     unfold Builtin.Range.rangeSize
     split
     ·split
      ·have:0≤(j-i-1) / k:=Int.ediv_nonneg (by omega) (by omega)
       omega
      ·exact Int.le_refl 0
     ·split
      ·have:0≤(i-j-1) / (-k):=Int.ediv_nonneg (by omega) (by omega)
       omega
      ·exact Int.le_refl 0
    unfold iS
    omega
  ·cases e
 ·cases e
end
end Ev
namespace Ev
open PySem PySem.Spec PyProof.Rows L2
section
variable {K:Frag} {F H:Hp} {σ:L2.St}
end
section
variable {X:Cx}
theorem sT:∀ {kws:List Keyword},PK X kws (bM X (A4 kws))
 | []=>pk_nil
 | ⟨_,_,_⟩::kws=>pk_cons aq sT
theorem gy:∀ {xs ys:List Expr} {σ:L2.St} {H:Hp} {Q:List V→Hp→Prop},bM X (xs++ys) σ H Q→bM X xs σ H fun vs H1=>vs.length=xs.length∧bM X ys σ H1 fun zs a=>zs.length=ys.length∧Q (vs++zs) a
 | [],ys,σ,H,Q,h=>by
  have len:∀ {ys:List Expr} {σ:L2.St} {H:Hp} {Q:List V→Hp→Prop},bM X ys σ H Q→bM X ys σ H fun zs a=>zs.length=ys.length∧Q zs a:=by
   intro ys
   induction ys with
   | nil=>intro σ H Q h;exact ⟨rfl,h⟩
   | cons y ys ih=>intro σ H Q h;exact ay h fun v H1 q=>au (ih q) fun zs a z=>⟨by rw [List.length_cons,List.length_cons,z.1],z.2⟩
  exact ⟨rfl,len h⟩
 | x::xs,ys,σ,H,Q,h=>ay h fun v H1 q=>au (gy q) fun vs a z=>⟨by rw [List.length_cons,List.length_cons,z.1],z.2⟩
end
section
variable {C:Ctx} {n m:Nat} {X:Cx} {c:Cxt} {F H:Hp} {W:Fp} {σ:L2.St} {δ δ':Dl} {a:A} {Q:VK}
end
end Ev
namespace Ev
open PySem PySem.Spec PyProof.Rows L2
def q8 (K:Frag):List V→List V→Hp→VK→Prop:=fun vs zs H Q=>∃ (a:Addr) (ns:List Int) (z:Int),vs=[V.ref a]∧zs=[.int z]∧SqL K H a (ns.map V.int)∧(ns=[]→Q (.int z) H)∧∀ n ms,ns=n::ms→Q (.int (ms.foldl max n)) H
section
variable {X:Cx}
open PySem.W in
theorem rY (c:X.calm=true) (m:X.A.units+60<cLine):CallRK X (.builtin "max") [Str.ofString "default"] (q8 X.K):=by
 intro pins s σ H vs zs us ws Q I r rz h
 obtain ⟨a,ns,z,rfl,rfl,hs,d,f⟩:=h
 obtain rfl:=Vals.ref1 r
 obtain ⟨g,rfl,j⟩:=vals1 rz
 obtain ⟨its,k,l,_⟩:=I.list hs
 have rd:=ints_readAll s.heap k.ints
 have dp:=eT ns
 show wpAny _ _ (call (.builtin "max") [.ref a] [(Str.ofString "default",g)]) _ _ _
 refine max_list_default (I.ok.hd c) l.isList (by simpa using rd) (iw ns) (by omega) (fun e h' tk hk=>?_) (fun y ys i v h' tk bs e hi b hk=>?_)
 ·have e0:ns=[]:=by cases ns with
   | nil=>rfl
   | cons=>simp at e
  exact ⟨.int z,H,I.kept hk,j,d e0⟩
 ·cases ns with
  | nil=>simp at e
  | cons n ms =>
   simp only [List.map_cons,List.cons.injEq] at e
   obtain ⟨rfl,rfl⟩:=e
   rw [maxD_ints] at b
   cases b with
   | int=>exact ⟨.int _,H,I.kept hk,⟨_,rfl⟩,f n ms rfl⟩
end
end Ev
namespace Ev
open PySem PySem.Spec PyProof.Rows L2 StX
section
variable {C:Ctx} {X:Cx} {c:Cxt} {n m:Nat} {σ:L2.St} {δ δ':Dl} {F H:Hp} {W:Fp} {a:A} {Q:VK}
noncomputable def u4 (X:Cx):List Expr→Expr→List Expr→TA
 | [],y,qs=>tStar X.K (tW X y) (bM X qs)
 | p::ps,y,qs=>fun σ H Q=>tW X p σ H fun v H1=>u4 X ps y qs σ H1 fun vs H2=>Q (v::vs) H2
theorem pK {e:Expr} {es:List Expr} (env:Env) (h:noStar [e]=true):starEach (e::es) env=(false,eval e env)::starEach es env:=by
 cases e<;>first | rfl | simp [noStar] at h
theorem my {e:Expr} {es:List Expr} (h:noStar (e::es)=true):noStar [e]=true:=by
 cases e<;>first | rfl | simp [noStar] at h
theorem jX:∀ {ps:List Expr} {y:Expr} {a:List Expr} {p:Pos},noStar ps=true→noStar a=true→PA X (ps++.Starred y p::a) (u4 X ps y a)
 | [],y,a,p,_,b=>pa_star aq (av b)
 | e::ps,y,a,p,c,b=>pa_cons aq (jX (aj c) b) (pK X.env (my c))
theorem nj:∀ {ps:List Expr} {y:Expr} {b:List Expr} {σ:L2.St} {H:Hp} {Q:List V→Hp→Prop},
  bM X ps σ H (fun us H1=>tW X y σ H1 fun v a=>∃ p xs,v=V.ref p∧(SqT X.K a p xs∨SqL X.K a p xs)∧bM X b σ a fun ws c=>Q (us++xs++ws) c)→u4 X ps y b σ H Q
 | [],y,b,σ,H,Q,h=>ay h fun v a ⟨p,xs,e,sq,q⟩=>⟨p,xs,e,sq,au q fun ws c z=>by simpa using z⟩
 | e::ps,y,b,σ,H,Q,h=>ay h fun v H1 q=>nj (au q fun us a z=>ay z fun w c ⟨p,xs,e,sq,q⟩=>⟨p,xs,e,sq,au q fun ws d z=>by simpa using z⟩)
def SVs (C:Ctx) (n:Nat):Prop:=∀ {X:Cx} {c:Cxt},XOk C X c→∀ {m:Nat} {es:List E} {xs:List Expr} {σ:L2.St} {δ:Dl} {F H:Hp} {W:Fp} {ds:List D} {δ':Dl} {Q:List V→Hp→Prop},mEs m c es xs=true→SOk X.K F H σ δ W→wK C n es δ=some (ds,δ') →
 (∀ vs F' H' W',aC X.K F H W F' H' σ δ' W' No→RpL X.K F' vs (frzs ds)→Q vs H')→bM X xs σ H Q
theorem FJ (ih:SAs C n):SVs C (n+1):=by
 intro X c ok m es xs σ δ F H W ds δ' Q hm s he k
 unfold wK at he
 split at he
 ·rename_i as δ1 a
  refine ih ok hm s a fun vs F' H' W' Wt p h=>?_
  obtain ⟨b,p2,o⟩:=p.bC h he
  obtain ⟨d,p3,r⟩:=p2.gL o
  exact k _ _ _ _ p3 r
 ·cases he
theorem tF {d:D} {xs:List D} (h:items d.frz=some xs):d.frz=.tup xs∨d.frz=.lst false xs:=by
 cases d with
 | tup ys=>simp [D.frz,items] at h ⊢;exact h
 | lst o ys=>simp [D.frz,items,bY] at h ⊢;exact h
 | _=>simp [D.frz,items] at h
theorem zO {K:Frag} {F H:Hp} (s:Same F H) {v:V} {d:D} {xs:List D} (r:Rp K F v d) (h:d=.tup xs∨d=.lst false xs):∃ p vs,v=.ref p∧(SqT K H p vs∨SqL K H p vs)∧RpL K F vs xs:=by
 rcases h with rfl | rfl
 ·cases r with
  | tup h l=>exact ⟨_,_,rfl,.inl (aa s h),l⟩
 ·cases r with
  | lst h l=>exact ⟨_,_,rfl,.inr (SqL.of (s _ _ h)),l⟩
theorem sD {pre post:List E} {st:E} {xs:List Expr} (hm:A8 m c pre st post xs=true):∃ m1 ps y p a,xs=ps++.Starred y p::a∧mEs m1 c pre ps=true∧noStar ps=true∧mE m1 c st y=true∧mEs m1 c post a=true∧noStar a=true:=by
 cases m with
 | zero=>simp [A8] at hm
 | succ m =>
  unfold A8 at hm
  split at hm
  ·rename_i y p a e
   simp only [Bool.and_eq_true] at hm
   obtain ⟨⟨⟨⟨b,d⟩,f⟩,g⟩,h⟩:=hm
   refine ⟨m,xs.take pre.length,y,p,a,?_,b,d,f,g,h⟩
   rw [← e,List.take_append_drop]
  ·cases hm
theorem gP (e:SV C n) (b:SVs C n) (ok:XOk C X c) {l:Bool} {pre post:List E} {st:E} {ps g:List Expr} {y:Expr} {m1:Nat} (h:mEs m1 c pre ps=true) (i:mE m1 c st y=true) (j:mEs m1 c post g=true) (s:SOk X.K F H σ δ W) (he:evE C (n+1) (.disS l pre st post) δ=some (a,δ')) {R:List V→Hp→Prop}
  (k:∀ vs ds F' H' W',a=.tmp (BX l ds)→aC X.K F H W F' H' σ δ' W' No→RpL X.K F' vs ds→ds.length≤cap→R vs H'):u4 X ps y g σ H R:=by
 unfold evE at he
 simp only at he
 split at he
 ·rename_i ds δ1 m
  split at he
  ·rename_i d δ2 o
   split at he
   ·rename_i xs q
    split at he
    ·rename_i bs δ3 r
     split at he
     ·rename_i f
      cases he
      have f:=of_decide_eq_true f
      refine nj (b ok h s m fun us F1 H1 W1 p1 r1=>?_)
      refine e ok i p1.ok o fun v x z W2 Wt p2 o2=>?_
      obtain ⟨B,p3,t⟩:=p2.v9 o2
      obtain ⟨p,vs,rfl,sq,u⟩:=zO p3.ok.sub t (tF q)
      refine ⟨p,vs,rfl,sq,?_⟩
      refine b ok j p3.ok r fun ws G I J p4 w=>?_
      have P:=(p1.aD p3).aD p4
      refine k _ _ _ _ _ rfl P (((r1.mono (p3.ext.fsub.trans p4.ext.fsub)).append (u.mono p4.ext.fsub)).append w) ?_
      rw [List.length_append,List.length_append,cY,cY]
      exact f
     ·cases he
    ·cases he
   ·cases he
  ·cases he
 ·cases he
theorem AF (b:SV C n) (d:SVs C n) (ok:XOk C X c) {l:Bool} {pre post:List E} {st:E} {x:Expr} (hm:mE (m+1) c (.disS l pre st post) x=true) (s:SOk X.K F H σ δ W) (he:evE C (n+1) (.disS l pre st post) δ=some (a,δ')) (k:af X F H W σ δ' a Q):tW X x σ H Q:=by
 have:=aA
 unfold mE at hm
 simp only at hm
 split at hm
 ·split at hm
  ·obtain ⟨m1,ps,y,p,t,rfl,f,g,h,i,j⟩:=sD hm
   refine aw (pe_lst (jX g j)) (gP b d ok f h i s he fun vs ds F' H' W' o P r u=>?_)
   subst o
   refine ⟨by rw [r.length];omega,fun q e=>?_⟩
   have fz:fzs ds=true:=r.fz
   exact k _ _ _ _ _ (P.vP (New.list P.ok.sub e)) (.tmp (Ow.list P.ok.sub e r))
  ·cases hm
 ·split at hm
  ·obtain ⟨m1,ps,y,p,t,rfl,f,g,h,i,j⟩:=sD hm
   refine aw (pe_tup (jX g j)) (gP b d ok f h i s he fun vs ds F' H' W' o P r u=>?_)
   subst o
   refine ⟨by rw [r.length];omega,fun q e=>?_⟩
   exact k _ _ _ _ _ (P.vP (New.tuple P.ok.sub e)) (.tmp (Ow.tuple P.ok.sub e r))
  ·cases hm
end
end Ev
namespace Ev
open PySem PySem.Spec PyProof.Rows L2
section
variable {P:Program} {w:World} {A:Around} {E:Value→Shared→Prop} {s:Shared}
theorem hJ {l:Addr} {items:Array Value} (ns:List Int) {Q:Value→Shared→Prop} (hh:A.handled=none) (hl:s.heap.IsList l items) (hit:IntsAre items.toList ns) (hb:ns.length+1<scanBound)
  (h:∀ (h':Heap) (tk c:Nat),SetR w h' s.heap.objs.size (fun j=>decide (j∈ns)) c→c≤ns.length→(∀ b o,s.heap.get? b=some o→h'.get? b=some o)→Q (.ref s.heap.objs.size) { s with heap:=h',toks:=tk }) :
  wpAny (model P w) A (call (.type "set") [.ref l]) Q E s:=by
 have a:items.size=ns.length:=by
  have q:=IntsAre.length hit
  rw [Array.length_toList] at q
  exact q
 obtain ⟨c,tl,Z⟩:=F.called_set.mro
 have I:=F.called_set.made
 have aa:=F.called_set.sub
 refine wpAny_call (codeAny_of_tree ?_)
 show wpAny _ _ (callAny (.type "set") _) _ _ _
 refine wpAny_pure ⟨Code.quiet_builtin _ (by decide +kernel),codeAny_builtin F.entry_type_call ?_⟩
 rw [Around.under_plain (weight_type_call_type "set" [.ref l] []) rfl]
 have h1:=F.called_set.notType
 have h2:=F.called_set.canCreate
 have ae:=F.typeCall_set_1 (.ref l)
 repeat (any_goals (first | assumption | wp_step))
 refine codeAny_mono (code_set_led1 (.ref l) (E:=E) (Q₁:=fun obj s₁=>obj=.ref s.heap.objs.size∧s₁={ s with heap:=s.heap.push { cls:=.type "set",dict:=none,data:=.set #[] 0 (.fresh 0 0 (!w.params.followText "set-order")) } }) ⟨rfl,rfl⟩) fun r s₁ J=>?_
 cases r with
 | error e=>exact J
 | ok fl =>
  cases fl with
  | ret obj =>
   obtain ⟨rfl,rfl⟩:=J
   have hS:(s.heap.push { cls:=.type "set",dict:=none,data:=.set #[] 0 (.fresh 0 0 (!w.params.followText "set-order")) }).get? s.heap.objs.size=some { cls:=.type "set",dict:=none,data:=.set #[] 0 (.fresh 0 0 (!w.params.followText "set-order")) }:=Heap.get?_push_size _ rfl
   have hT:Shared.TypeIs { s with heap:=s.heap.push { cls:=.type "set",dict:=none,data:=.set #[] 0 (.fresh 0 0 (!w.params.followText "set-order")) } } (.ref s.heap.objs.size) "set" := ⟨_,hS,rfl⟩
   have ag:=F.called_set.init.lookup
   have ai:=F.called_set.init.bind (.ref s.heap.objs.size)
   repeat (any_goals (first | assumption | wp_step))
   refine codeAny_mono (codeAny_call_builtin (R:=wants (fun r s₂=>r=.none∧∃ h' tk c,s₂={ s with heap:=h',toks:=tk }∧SetR w h' s.heap.objs.size (fun j=>decide (j∈ns)) c∧c≤ns.length ∧
     (∀ b o,s.heap.get? b=some o→h'.get? b=some o)) E) F.called_set.init.plain F.entry_set_init (check_set_init_1 hT ?_)) fun r₂ s₂ hr₂=>?_
   ·obtain ⟨ol,n,p,nl,u⟩:=hl
    obtain ⟨ab,g,K,d⟩:=ol
    simp only at p u
    subst p;subst u
    have x:(s.heap.push { cls:=.type "set",dict:=none,data:=.set #[] 0 (.fresh 0 0 (!w.params.followText "set-order")) }).get? l=some { cls:=.type "list",dict:=g,data:=.seq items nl,slots:=d }:=Heap.get?_push_of_some _ n
    have ac:=PySem.F.sub_list_set
    have ad:=PySem.F.sub_list_frozenset
    have al:(Value.type "list" == Value.type "dict")=false:=by decide
    have y:(s.heap.push { cls:=.type "set",dict:=none,data:=.set #[] 0 (.fresh 0 0 (!w.params.followText "set-order")) }).IsList l items:=⟨_,x,rfl,nl,rfl⟩
    unfold Builtin.«set.__init__» noKeywords Builtin.Frozenset.updateFrom
    generalize hPI:pyIter=PI
    wp_walk
    subst hPI
    refine wpAny_pyIter_list y ?_
    refine wpAny_bind (wpAny_runValue ?_)
    have z:l<s.heap.objs.size:=Heap.lt_size n
    have L:A.in1.in1.in1.handled=none:=by simp [hh]
    have am:(s.heap.push { cls:=.type "set",dict:=none,data:=.set #[] 0 (.fresh 0 0 (!w.params.followText "set-order")) }).objs.size=s.heap.objs.size+1:=Heap.size_push ..
    have B:l≠(s.heap.push { cls:=.type "set",dict:=none,data:=.set #[] 0 (.fresh 0 0 (!w.params.followText "set-order")) }).objs.size:=by
     rw [Heap.size_push];exact Nat.ne_of_lt (Nat.lt_succ_of_lt z)
    have M:s.heap.objs.size ∉ [(s.heap.push { cls:=.type "set",dict:=none,data:=.set #[] 0 (.fresh 0 0 (!w.params.followText "set-order")) }).objs.size,l]:=by
     rw [Heap.size_push];simp only [List.mem_cons,List.mem_singleton,List.not_mem_nil,or_false,not_or]
     exact ⟨Nat.ne_of_lt (Nat.lt_succ_self _),Nat.ne_of_gt z⟩
    have C:∀ (i:Nat) (v:Value),items[i]?=some v→∃ k t,ns[i]?=some k∧v=.int k t:=fun i v hv=>by
     have hi:i<ns.length:=by rw [← a];exact (Array.getElem?_eq_some_iff.mp hv).1
     obtain ⟨t,e⟩:=PyProof.Rows.IntsAre.int_at hit i v (by rw [Array.getElem?_toList];exact hv)
     refine ⟨ns[i],t,List.getElem?_eq_getElem hi,?_⟩
     rw [e,List.getD_eq_getElem?_getD,List.getElem?_eq_getElem hi]<;>rfl
    refine set_update_ints ((Walks.list L _ l B items).toS) s.heap.objs.size
     M ns a hb C (items.size-0) 0 _ (by omega) (Nat.zero_le _)
     ⟨⟨_,Heap.get?_push_size _ rfl,rfl,rfl⟩,(y.push _)⟩ ?hS0 ?hR
    case hS0 =>
     have G:((s.heap.push { cls:=.type "set",dict:=none,data:=.set #[] 0 (.fresh 0 0 (!w.params.followText "set-order")) }).push { cls:=.type "list_iterator",data:=.fields #[.ref l,.int 0 0] }).get? s.heap.objs.size
       = some { cls:=.type "set",dict:=none,data:=.set #[] 0 (.fresh 0 0 (!w.params.followText "set-order")) }:=Heap.get?_push_of_some _ hS
     exact ⟨0,Nat.le_refl 0,setR_new_at G⟩
    case hR =>
     intro s' c' hm f m
     obtain ⟨h',g2,d',N,O⟩:=s'
     have eg:g2=s.gens:=hm.gens
     have ed:d'=s.drawn:=hm.drawn
     have eo:O=s.os:=hm.os
     subst eg;subst ed;subst eo
     show wpAny _ _ _ _ _ _
     refine wpAny_pure ?_
     show wpAny _ _ (ret Value.none) _ _ _
     rw [a] at f
     refine wpAny_pure ⟨rfl,h',N,c',rfl,m,f,fun b o e=>?_⟩
     have H:b<s.heap.objs.size:=Heap.lt_size e
     have V:b≠s.heap.objs.size:=Nat.ne_of_lt H
     have X:b≠(s.heap.push { cls:=.type "set",dict:=none,data:=.set #[] 0 (.fresh 0 0 (!w.params.followText "set-order")) }).objs.size:=by
      rw [Heap.size_push];exact Nat.ne_of_lt (Nat.lt_succ_of_lt H)
     exact hm.heap b o (by simp only [List.mem_cons,List.mem_singleton,List.not_mem_nil,or_false,not_or];exact ⟨V,X⟩) (Heap.get?_push_of_some _ (Heap.get?_push_of_some _ e))
   ·cases r₂ with
    | error e=>exact hr₂
    | ok fl₂ =>
     cases fl₂ with
     | ret r =>
      obtain ⟨rfl,h',tk,c',rfl,m,f,Y⟩:=hr₂
      repeat (any_goals (first | assumption | wp_step))
      exact h _ _ _ m f Y
     | _=>exact hr₂.elim
  | _=>exact J.elim
end
section
variable {X:Cx}
def qE (K:Frag) (w:World):List V→Hp→VK→Prop:=fun xs H Q=>∃ (l:Addr) (ns:List Int),xs=[V.ref l]∧SqL K H l (ns.map V.int)∧ns.length<64 ∧
 ∀ a c,H a=none→c≤ns.length→Q (.ref a) (upd H a (SetO w a (fun j=>decide (j∈ns)) c))
theorem rC (b:X.calm=true):CallR X (.type "set") (qE X.K X.w):=by
 intro pins s σ H xs us Q I r h
 obtain ⟨l,ns,rfl,d,hf,q⟩:=h
 rw [Vals.ref1 r]
 obtain ⟨its,e,pl,f⟩:=I.list d
 have hn:H s.heap.objs.size=none:=I.hok.fresh (Nat.le_refl _)
 refine hJ (P:=X.prog) (w:=X.w) ns (I.ok.hd b) pl.isList (by simpa using e.ints) (by unfold scanBound;omega) fun h' tk c R a k=>?_
 exact ⟨.ref s.heap.objs.size,upd H s.heap.objs.size (SetO X.w s.heap.objs.size _ c),I.laid (t':=tk) k (Nat.le_refl _) (setO_new R),rfl,q _ c hn a⟩
end
end Ev
namespace Ev
open PySem PySem.Spec PyProof.Rows L2
section
variable {K:Type} [DecidableEq K]
theorem gb (l:List K) (v k:K):(oneMore l v).any (fun y=>decide (y=k))=(l.any (fun y=>decide (y=k))||decide (k=v)):=by
 unfold oneMore
 split
 ·rename_i h
  by_cases e:k=v
  ·subst e
   rw [h]
   rfl
  ·rw [decide_eq_false e,Bool.or_false]
 ·rw [List.any_append]
  congr 1
  simp only [List.any_cons,List.any_nil,Bool.or_false]
  exact decide_eq_decide.mpr ⟨Eq.symm,Eq.symm⟩
theorem dQ (l:List K) (v:K):(oneMore l v).length=if l.any (fun y=>decide (y=v)) then l.length else l.length+1:=by
 unfold oneMore
 split<;>simp
theorem dA (l:List K) (k:K):bf (l++[k])=oneMore (bf l) k:=by
 unfold bf
 rw [List.foldl_append]
 rfl
theorem oE:∀ (l acc:List K),(l.foldl oneMore acc).length≤acc.length+l.length
 | [],acc=>Nat.le_refl _
 | k::l,acc=>by
  have h:=oE l (oneMore acc k)
  rw [dQ] at h
  simp only [List.foldl_cons,List.length_cons]
  split at h<;>omega
theorem cZ (l:List K):(bf l).length≤l.length:=by
 have:=oE l []
 unfold bf
 simpa using this
end
section
variable {prog:Program} {w:World} {A:Around} {R:Result→Shared→Prop} {I:Addr} {fp wr:List Addr} {G:Array GenState→Array GenState→Prop} {n:Nat} {Pv:Nat→Value→Prop} {St:Nat→Shared→Prop}
variable {K:Type} [DecidableEq K] {knd:KeyKind prog w K}
theorem upd_loop (j:WalksS prog w A.in1 I fp wr G n Pv St) (S:Addr) (l:S ∉ fp) (ks:List K) (hn:ks.length=n)
  (m:∀ (i:Nat) (v:Value),Pv i v→∃ k,ks[i]?=some k∧knd.is k v=true∧v.scannable=true) (g:n+1<scanBound) :
  ∀ (k i:Nat) (s:Shared),n-i=k→i≤n→St i s →
   s.heap.SetOf knd S (fun k'=>(bf (ks.take i)).any (fun y=>decide (y=k'))) (bf (ks.take i)).length →
   (∀ a,Moved (S::wr) G s a→a.heap.SetOf knd S (fun k'=>(bf ks).any (fun y=>decide (y=k'))) (bf ks).length→R (.ok (.ret .none)) a) →
   codeAny (model prog w) A (.builtin "set.update.loop" ⟨[.ref S,.ref I],[]⟩) R s:=by
 have p:S ∉ wr:=fun h=>l (j.sub _ h)
 have c:∀ b∈wr,b∈S::wr:=fun b g=>List.mem_cons_of_mem _ g
 intro k
 induction k with
 | zero =>
  intro i s hk hi d H hR
  have J:i=n:=by omega
  subst J
  rw [List.take_of_length_le (by omega)] at H
  refine codeAny_builtin F.entry_set_update_loop ?_
  rw [Around.under_plainId F.plain_set_update_loop _]
  show wpAny _ A.in1 (pyNext (.ref I) >>= _) _ _ s
  refine wpAny_bind (j.done s _ _ d fun a hm=>?_)
  show wpAny _ A.in1 (ret Value.none) _ _ a
  exact wpAny_pure (hR a (hm.mono c) (by
   obtain ⟨o,es,ep,t,L,rest⟩:=H
   exact ⟨o,es,ep,t,hm.heap S _ p L,rest⟩))
 | succ k ih =>
  intro i s hk hi d H hR
  have q:i<n:=by omega
  refine codeAny_builtin F.entry_set_update_loop ?_
  rw [Around.under_plainId F.plain_set_update_loop _]
  show wpAny _ A.in1 (pyNext (.ref I) >>= _) _ _ s
  refine wpAny_bind (j.item i s _ _ q d fun v a V r hm=>?_)
  obtain ⟨key,u,x,M⟩:=m i v V
  have N:a.heap.SetOf knd S (fun k'=>(bf (ks.take i)).any (fun y=>decide (y=k'))) (bf (ks.take i)).length:=by
   obtain ⟨o,es,ep,tb,L,rest⟩:=H
   exact ⟨o,es,ep,tb,hm.heap S _ p L,rest⟩
  have tk:ks.take (i+1)=ks.take i++[key]:=by
   rw [List.take_add_one,u]
   rfl
  show wpAny _ A.in1 (holding [v] (setAdd S v) >>= _) _ _ a
  refine wpAny_bind (wpAny_holding ?_)
  unfold setAdd
  refine wpAny_holding ?_
  refine wpAny_bind (knd.pyHash (k:=key) x ?_)
  have f:(bf (ks.take i)).length+1<scanBound:=by
   have:=cZ (ks.take i)
   rw [List.length_take] at this
   omega
  refine wpAny_setAddHashed_of (knd:=knd) (s:={ a with toks:=a.toks+1 }) x M N f fun h' z O=>?_
  have P:h'.SetOf knd S (fun k'=>(bf (ks.take (i+1))).any (fun y=>decide (y=k'))) (bf (ks.take (i+1))).length :=
   SetOf_congr O (fun k'=>by rw [tk,dA,gb]) (by rw [tk,dA,dQ])
  refine wpAny_pure ⟨plainId_quiet F.plain_set_update_loop _,ih (i+1) _ (by omega) q (j.frame _ a _ _ r (Nat.le_succ _) fun b g o e=>?_) P fun Q B C=>?_⟩
  ·rw [z.2 b (fun h:b=S=>l (by rw [← h];exact g))];exact e
  ·refine hR Q (Moved.trans j.gtrans ((hm.mono c).then_heap (Nat.le_succ _) fun b o g e=>?_) B) C
   rw [z.2 b (fun h:b=S=>g (by rw [h];exact List.mem_cons_self))];exact e
end
section
variable {prog:Program} {w:World} {A:Around} {E:Value→Shared→Prop} {s:Shared} {K:Type} [DecidableEq K] {knd:KeyKind prog w K}
theorem eP {l:Addr} {items:Array Value} (ks:List K) {Q:Value→Shared→Prop} (hh:A.handled=none) (hl:s.heap.IsList l items) (hlen:ks.length=items.size)
  (g:∀ (i:Nat) (v:Value),items[i]?=some v→∃ k,ks[i]?=some k∧knd.is k v=true∧v.scannable=true) (z:items.size+1<scanBound)
  (h:∀ (h':Heap) (tk:Nat),h'.SetOf knd s.heap.objs.size (fun k'=>(bf ks).any (fun y=>decide (y=k'))) (bf ks).length →
   (∀ b o,b<s.heap.objs.size→s.heap.get? b=some o→h'.get? b=some o)→Q (.ref s.heap.objs.size) { s with heap:=h',toks:=tk }) :
  wpAny (model prog w) A (call (.type "set") [.ref l]) Q E s:=by
 obtain ⟨c,tl,P⟩:=F.called_set.mro
 have B:=F.called_set.made
 have V:=F.called_set.sub
 refine wpAny_call (codeAny_of_tree ?_)
 show wpAny _ _ (callAny (.type "set") _) _ _ _
 refine wpAny_pure ⟨Code.quiet_builtin _ (by decide +kernel),codeAny_builtin F.entry_type_call ?_⟩
 rw [Around.under_plain (weight_type_call_type "set" [.ref l] []) rfl]
 have h1:=F.called_set.notType
 have h2:=F.called_set.canCreate
 have ac:=F.typeCall_set_1 (.ref l)
 repeat (any_goals (first | assumption | wp_step))
 refine codeAny_mono (code_set_new_1 (.ref l) (E:=E) (Q₁:=fun obj X=>∃ led:Bool,obj=.ref s.heap.objs.size∧X={ s with heap:=s.heap.push { cls:=.type "set",dict:=none,data:=.set #[] 0 (.fresh 0 0 led) } }) fun led=>⟨led,rfl,rfl⟩) fun r X C=>?_
 cases r with
 | error e=>exact C
 | ok fl =>
  cases fl with
  | ret obj =>
   obtain ⟨led,rfl,rfl⟩:=C
   have Y:(s.heap.push { cls:=.type "set",dict:=none,data:=.set #[] 0 (.fresh 0 0 led) }).get? s.heap.objs.size=some { cls:=.type "set",dict:=none,data:=.set #[] 0 (.fresh 0 0 led) }:=Heap.get?_push_size _ rfl
   have hT:Shared.TypeIs { s with heap:=s.heap.push { cls:=.type "set",dict:=none,data:=.set #[] 0 (.fresh 0 0 led) } } (.ref s.heap.objs.size) "set" := ⟨_,Y,rfl⟩
   have ad:=F.called_set.init.lookup
   have ae:=F.called_set.init.bind (.ref s.heap.objs.size)
   repeat (any_goals (first | assumption | wp_step))
   refine codeAny_mono (codeAny_call_builtin (R:=wants (fun r s₂=>r=.none∧∃ h' tk,s₂={ s with heap:=h',toks:=tk } ∧
     h'.SetOf knd s.heap.objs.size (fun k'=>(bf ks).any (fun y=>decide (y=k'))) (bf ks).length ∧
     (∀ b o,b<s.heap.objs.size→s.heap.get? b=some o→h'.get? b=some o)) E) F.called_set.init.plain F.entry_set_init (check_set_init_1 hT ?_)) fun r₂ s₂ hr₂=>?_
   ·obtain ⟨ol,j,m,nl,n⟩:=hl
    obtain ⟨Z,d,G,a⟩:=ol
    simp only at m n
    subst m;subst n
    have p:(s.heap.push { cls:=.type "set",dict:=none,data:=.set #[] 0 (.fresh 0 0 led) }).get? l=some { cls:=.type "list",dict:=d,data:=.seq items nl,slots:=a }:=Heap.get?_push_of_some _ j
    have aa:=PySem.F.sub_list_set
    have ab:=PySem.F.sub_list_frozenset
    have ag:(Value.type "list" == Value.type "dict")=false:=by decide
    have q:(s.heap.push { cls:=.type "set",dict:=none,data:=.set #[] 0 (.fresh 0 0 led) }).IsList l items:=⟨_,p,rfl,nl,rfl⟩
    unfold Builtin.«set.__init__» noKeywords Builtin.Frozenset.updateFrom
    generalize hPI:pyIter=PI
    wp_walk
    subst hPI
    refine wpAny_pyIter_list q ?_
    refine wpAny_bind (wpAny_runValue ?_)
    have t:l<s.heap.objs.size:=Heap.lt_size j
    have H:A.in1.in1.in1.handled=none:=by simp [hh]
    have u:l≠(s.heap.push { cls:=.type "set",dict:=none,data:=.set #[] 0 (.fresh 0 0 led) }).objs.size:=by
     rw [Heap.size_push];exact Nat.ne_of_lt (Nat.lt_succ_of_lt t)
    have I:s.heap.objs.size ∉ [(s.heap.push { cls:=.type "set",dict:=none,data:=.set #[] 0 (.fresh 0 0 led) }).objs.size,l]:=by
     rw [Heap.size_push];simp only [List.mem_cons,List.mem_singleton,List.not_mem_nil,or_false,not_or]
     exact ⟨Nat.ne_of_lt (Nat.lt_succ_self _),Nat.ne_of_gt t⟩
    refine upd_loop (knd:=knd) ((Walks.list H _ l u items).toS) s.heap.objs.size
     I ks hlen g z (items.size-0) 0 _ (by omega) (Nat.zero_le _)
     ⟨⟨_,Heap.get?_push_size _ rfl,rfl,rfl⟩,(q.push _)⟩ ?hS0 ?hR
    case hS0 =>
     have x:((s.heap.push { cls:=.type "set",dict:=none,data:=.set #[] 0 (.fresh 0 0 led) }).push { cls:=.type "list_iterator",data:=.fields #[.ref l,.int 0 0] }).get? s.heap.objs.size
       = some { cls:=.type "set",dict:=none,data:=.set #[] 0 (.fresh 0 0 led) }:=Heap.get?_push_of_some _ Y
     exact SetOf_congr ((setObjOf_fresh (knd:=knd) led).setOf x (by unfold scanBound;omega)) (fun _=>rfl) rfl
    case hR =>
     intro s' hm f
     obtain ⟨h',g',d',J,L⟩:=s'
     have eg:g'=s.gens:=hm.gens
     have ed:d'=s.drawn:=hm.drawn
     have eo:L=s.os:=hm.os
     subst eg;subst ed;subst eo
     show wpAny _ _ _ _ _ _
     refine wpAny_pure ?_
     show wpAny _ _ (ret Value.none) _ _ _
     refine wpAny_pure ⟨rfl,h',J,rfl,f,fun b o z e=>?_⟩
     have M:b≠s.heap.objs.size:=Nat.ne_of_lt z
     have N:b≠(s.heap.push { cls:=.type "set",dict:=none,data:=.set #[] 0 (.fresh 0 0 led) }).objs.size:=by
      rw [Heap.size_push];exact Nat.ne_of_lt (Nat.lt_succ_of_lt z)
     exact hm.heap b o (by simp only [List.mem_cons,List.mem_singleton,List.not_mem_nil,or_false,not_or];exact ⟨M,N⟩) (Heap.get?_push_of_some _ (Heap.get?_push_of_some _ e))
   ·cases r₂ with
    | error e=>exact hr₂
    | ok fl₂ =>
     cases fl₂ with
     | ret r =>
      obtain ⟨rfl,h',tk,rfl,f,O⟩:=hr₂
      repeat (any_goals (first | assumption | wp_step))
      exact h _ _ f O
     | _=>exact hr₂.elim
  | _=>exact C.elim
end
theorem jv:∀ {xs:List V} {us:List Value},Vals xs us→∀ (i:Nat) (v:Value),us[i]?=some v→∃ x,xs[i]?=some x∧RelV x v
 | _,_,.nil,i,v,h=>by simp at h
 | _,_,.cons r t,0,v,h=>by
  simp only [List.getElem?_cons_zero,Option.some.injEq] at h ⊢
  subst h
  exact ⟨_,rfl,r⟩
 | _,_,.cons r t,i+1,v,h=>by
  simp only [List.getElem?_cons_succ] at h ⊢
  exact jv t i v h
def vL (K:Frag) (ta:TE):TE:=fun σ H Q=>ta σ H fun x H1=>∃ l,x=V.ref l∧((∃ ns:List Int,SqL K H1 l (ns.map V.int)∧ns.length<64∧Q (.int (bf ns).length) H1)∨∃ ss:List Str,SqL K H1 l (ss.map V.str)∧ss.length<64∧Q (.int (bf ss).length) H1)
theorem pD {X:Cx} {a:Expr} {ta:TE} {p p2 q pos:Pos} (F:X.calm=true) (hg:Gl X "len") (hm:X.mg "len" = none) (j:Gl X "set") (m:X.mg "set" = none) (ha:PE X a ta)
  (na:starEach [a] X.env=(false,eval a X.env)::starEach [] X.env:=by rfl):PE X (.Call (.Name "len" p) [.Call (.Name "set" p2) [a] [] q] [] pos) (vL X.K ta):=by
 refine ⟨fun pins s σ H Q I h=>?_⟩
 refine Call_ (ld_blt I hg hm PySem.boot_len ?_)
 refine PyProof.Rows.callWith_builtin1 (PyProof.Rows.args_cons ?_ rfl) rfl rfl
 refine Call_ (ld_blt I j m PyProof.Rows.boot_set ?_)
 refine PyProof.Rows.callWith_type1 (PyProof.Rows.args_cons (thn (ha.run pins s σ H _ I h) fun v s1 ⟨x,H1,f,r1,d⟩=>PyProof.Rows.args_nil ?_) na) na rfl
 obtain ⟨l,rfl,d⟩:=d
 cases r1
 rcases d with ⟨ns,n,G,d⟩ | ⟨ss,n,G,d⟩
 ·obtain ⟨its,r,pl,J⟩:=f.list n
  have g:ns.length=its.toArray.size:=by rw [List.size_toArray,← r.length,List.length_map]
  refine eP (knd:=intKind X.prog X.w) ns (f.ok.hd F) pl.isList g (fun i v u=>?_) (by rw [← g];unfold scanBound;omega) fun h' tk y hk=>?_
  ·obtain ⟨x,c,z⟩:=jv r i v (by simpa using u)
   rw [List.getElem?_map] at c
   cases hn:ns[i]? with
   | none=>rw [hn] at c;cases c
   | some k =>
    rw [hn] at c
    cases c
    obtain ⟨t,rfl⟩:=z
    exact ⟨k,rfl,intKind_is _ _ _ _,rfl⟩
  ·refine PyProof.Rows.args_nil ?_
   obtain ⟨o,es,ep,t,B,hex,hd,_,_,_,hf,hn⟩:=y
   have C:Inv X pins σ H1 { s1 with heap:=h',toks:=tk }:=f.kept fun b o e=>hk b o (Heap.lt_size e) e
   have L:=cZ ns
   exact call_len_set B hex hd hf (by rw [hn]<;>omega) ⟨.int (bf ns).length,H1,C.tok _,⟨_,by rw [hn]⟩,d⟩
 ·obtain ⟨its,r,pl,J⟩:=f.list n
  have g:ss.length=its.toArray.size:=by rw [List.size_toArray,← r.length,List.length_map]
  refine eP (knd:=strKind X.prog X.w) ss (f.ok.hd F) pl.isList g (fun i v u=>?_) (by rw [← g];unfold scanBound;omega) fun h' tk y hk=>?_
  ·obtain ⟨x,c,z⟩:=jv r i v (by simpa using u)
   rw [List.getElem?_map] at c
   cases hn:ss[i]? with
   | none=>rw [hn] at c;cases c
   | some k =>
    rw [hn] at c
    cases c
    obtain ⟨t,rfl⟩:=z
    exact ⟨k,rfl,strKind_is _ _ _ _,rfl⟩
  ·refine PyProof.Rows.args_nil ?_
   obtain ⟨o,es,ep,t,B,hex,hd,_,_,_,hf,hn⟩:=y
   have C:Inv X pins σ H1 { s1 with heap:=h',toks:=tk }:=f.kept fun b o e=>hk b o (Heap.lt_size e) e
   have L:=cZ ss
   exact call_len_set B hex hd hf (by rw [hn]<;>omega) ⟨.int (bf ss).length,H1,C.tok _,⟨_,by rw [hn]⟩,d⟩
end Ev
namespace Ev.Sb
open PySem PySem.Spec PyProof.Rows L2 Ev
section
variable {P:Program} {w:World} {A:Around} {E:Value→Shared→Prop} {s:Shared} {K:Type} [DecidableEq K] (knd:KeyKind P w K)
def ie (h:Heap) (a:Addr) (S:K→Bool) (n:Nat):Prop :=
 ∃ o es ep t,h.get? a=some o∧o.ExactSet∧o.data=.set es ep t∧ElemsOf knd es.toList∧(∀ k,S k=true ↔ ∃ e∈es.toList,knd.is k e.2=true) ∧
  es.size<scanBound∧t.fits es.size=true∧es.size=n∧Ris t.place.toList∧(w.params.followText "set-order" = true∨t.led=true)
variable {knd}
theorem ie.at {h h':Heap} {a:Addr} {S:K→Bool} {n:Nat} (R:ie knd h a S n) (k:∀ o,h.get? a=some o→h'.get? a=some o):ie knd h' a S n:=by
 obtain ⟨o,es,ep,t,b,r⟩:=R
 exact ⟨o,es,ep,t,k o b,r⟩
theorem ie.congr {h:Heap} {a:Addr} {S b:K→Bool} {n c:Nat} (R:ie knd h a S n) (e:∀ k,b k=S k) (en:c=n):ie knd h a b c:=by
 have q:b=S:=funext e
 rw [q,en];exact R
theorem eC {g:Bool→Sem Unit} (hg:∀ (b:Bool) (v:Shared) (Q':Unit→Shared→Prop),Q' () v→wpAny (model P w) A (g b) Q' E v) {a:Addr}
  {o:Obj} {es:Array (Int × Value)} {ep:Nat} {t:SetTable} (x:s.heap.get? a=some o) (hex:o.ExactSet) (hd:o.data=.set es ep t)
  {c:Array (Int × Value)} {t2:SetTable} {y:K→Bool} (g1:ElemsOf knd c.toList) (m1:∀ k,y k=true ↔ ∃ e∈c.toList,knd.is k e.2=true)
  (f:c.size<scanBound) (r:t2.fits c.size=true) (C:Ris t2.place.toList) (B:w.params.followText "set-order" = true∨t2.led=true) {d:Bool} {R:Option Bool→Shared→Prop}
  (hR:∀ h',Heap.SameBut a s.heap h'→ie knd h' a y c.size→R (some true) { s with heap:=h' }) :
  wpAny (model P w) A (do
    storeSet a c t2
    if (!d&&t2.tooFull)=true then do
      g (relayAll t2 c (SetTable.grown c.size)).2.2
      storeSet a (relayAll t2 c (SetTable.grown c.size)).1 (relayAll t2 c (SetTable.grown c.size)).2.1
      pure (some true)
     else pure (some true)) R E s:=by
 refine wpAny_bind (wpAny_storeSet_of x hd ?_ (fits_of_scanBound f))
 have h:=store_at (es':=c) (t':=t2) x hd
 have m:=Heap.SameBut.update s.heap a (Obj.putSet c t2)
 split
 ·have pm:=relayAll_perm t2 c (SetTable.grown c.size)
  have i:=relayAll_fits t2 c (SetTable.grown c.size)
  have j:=relayAll_ris t2 c (SetTable.grown c.size)
  have l:=relayAll_led t2 c (SetTable.grown c.size)
  generalize relayAll t2 c (SetTable.grown c.size)=Z at pm i j l ⊢
  obtain ⟨es2,t3,gave⟩:=Z
  dsimp only at pm i j l ⊢
  have n:es2.size=c.size:=by rw [← Array.length_toList,pm.length_eq,Array.length_toList]
  have p:es2.size<scanBound:=by rw [n];exact f
  refine wpAny_bind (hg _ _ _ ?_)
  refine wpAny_bind (wpAny_storeSet_of h rfl ?_ (fits_of_scanBound p))
  have u:=store_at (es':=es2) (t':=t3) h rfl
  refine wpAny_pure (hR _ (m.trans (Heap.SameBut.update _ a _)) ?_)
  exact ⟨_,es2,_,t3,u,hex,rfl,g1.perm pm,fun k=>(m1 k).trans ⟨fun ⟨e,he,q⟩=>⟨e,pm.mem_iff.mpr he,q⟩,fun ⟨e,he,q⟩=>⟨e,pm.mem_iff.mp he,q⟩⟩,p,i,n,j,
   B.imp id fun z=>by rw [l];exact z⟩
 ·exact wpAny_pure (hR _ m ⟨_,c,_,t2,h,hex,rfl,g1,m1,f,r,rfl,C,B⟩)
theorem ub {a:Addr} {S:K→Bool} {n:Nat} {k:K} {x:Value} {Q:Bool→Shared→Prop} (f:knd.is k x=true) (u:x.scannable=true) (R:ie knd s.heap a S n) (room:n+1<scanBound)
  (I:∀ h',Heap.SameBut a s.heap h'→ie knd h' a (fun k'=>S k'||decide (k'=k)) (if S k=true then n else n+1)→Q (!S k) { s with heap:=h' }) :
  wpAny (model P w) A (setAddHashed a x (knd.hash k)) Q E s:=by
 obtain ⟨o,es,ep,t,B,hex,hd,p,hm,J,hf,hn,L,M⟩:=R
 unfold setAddHashed setAddHashedIn
 refine wpAny_holding (wpAny_bind (wpAny_setState_of B hd hf ?_))
 dsimp only
 rw [byScan_of u J p]
 simp only [↓reduceIte]
 unfold setAddByScan
 refine wpAny_bind ?_
 refine wpAny_bind (wpAny_rule ?_)
 refine wpAny_bind (wpAny_setScan_of f B hd hf p ?_)
 cases hfi:List.findIdx? (fun e=>knd.is k e.2) es.toList with
 | some j =>
  dsimp only
  obtain ⟨N,O,_⟩:=List.findIdx?_eq_some_iff_getElem.mp hfi
  have g:S k=true:=(hm k).2 ⟨es.toList[j],List.getElem_mem N,O⟩
  refine wpAny_pure (wpAny_pure ?_)
  have q:=I s.heap (Heap.SameBut.refl a s.heap) ⟨o,es,ep,t,B,hex,hd,p,fun i=>by
   rw [Bool.or_eq_true,decide_eq_true_eq,← hm i]
   exact ⟨fun z=>z.elim id (fun e=>e▸g),.inl⟩,J,hf,by rw [if_pos g];exact hn,L,M⟩
  rw [g] at q
  exact q
 | none =>
  dsimp only
  have g:S k=false:=by
   cases hk:S k with
   | false=>rfl
   | true =>
    obtain ⟨e,he,V⟩:=(hm k).mp hk
    have c:=List.findIdx?_eq_none_iff.mp hfi e he
    rw [V] at c
    cases c
  have H:∀ (b:Bool) {C:Shared} {Q':Unit→Shared→Prop},Q' () C→wpAny (model P w) A (match b with | true=>rule "set.scan.the-table-gave-way" | false=>pure ()) Q' E C :=
   fun b C Q' q=>by cases b<;>first | exact wpAny_pure q | exact wpAny_rule q
  have pm:=layNew_perm t es (knd.hash k) x
  have d:=layNew_fits t es (knd.hash k) x
  have h:=layNew_ris t es (knd.hash k) x L
  have v:=layNew_led t es (knd.hash k) x
  generalize layNew t es (knd.hash k) x=Z at pm d h v ⊢
  obtain ⟨l,t1,y,gave⟩:=Z
  dsimp only at pm d h v ⊢
  rw [Array.toList_push] at pm
  have g1:ElemsOf knd l.toList:=(p.push f u).perm pm
  have m1:∀ k',(S k'||decide (k'=k))=true ↔ ∃ e∈l.toList,knd.is k' e.2=true:=mem_push_iff f hm pm
  have F:l.size=n+1:=by rw [← Array.length_toList,pm.length_eq,List.length_append,Array.length_toList,hn];rfl
  have G:l.size<scanBound:=by rw [F];exact room
  have m:w.params.followText "set-order" = true∨t1.led=true:=M.imp id fun z=>by rw [v];exact z
  have fin:∀ h',Heap.SameBut a s.heap h'→ie knd h' a (fun j=>S j||decide (j=k)) l.size→Q true { s with heap:=h' }:=fun h' sb r=>by
   have q:=I h' sb
   rw [g] at q
   rw [F] at r
   exact q r
  refine wpAny_bind (H _ ?_)
  split
  ·refine wpAny_bind ?_
   rw [hashByValue_scannable 8 u]
   refine wpAny_pure ?_
   refine eC ?_ B hex hd g1 m1 G ?_ ?_ ?_ ?_
   ·intro b C Q' q;cases b<;>first | exact wpAny_pure q | exact wpAny_rule q
   ·first | (split<;>first | exact d | exact SetTable.fits_plain_off d) | exact d
   ·first | (split<;>exact h) | exact h
   ·first | (split<;>exact m) | exact m
   ·intro h' sb r;dsimp only;exact wpAny_pure (fin h' sb r)
  ·refine wpAny_bind (wpAny_pure ?_)
   simp only [↓reduceIte]
   refine eC ?_ B hex hd g1 m1 G d h m ?_
   ·intro b C Q' q;cases b<;>first | exact wpAny_pure q | exact wpAny_rule q
   ·intro h' sb r;dsimp only;exact wpAny_pure (fin h' sb r)
theorem vj {h:Heap} {a:Addr} (b:h.get? a=some { cls:=.type "set",dict:=none,data:=.set #[] 0 (.fresh 0 0 (!w.params.followText "set-order")) }):ie knd h a (fun _=>false) 0 :=
 ⟨_,#[],0,_,b,⟨rfl,rfl,rfl⟩,rfl,(fun e he=>by simp at he),(fun k=>by simp),(by decide),(by rfl),rfl,List.Pairwise.nil,by
  show _∨(!w.params.followText "set-order")=true
  cases w.params.followText "set-order"
  ·exact .inr rfl
  ·exact .inl rfl⟩
end
section
variable {prog:Program} {w:World} {A:Around} {R:Result→Shared→Prop} {I:Addr} {fp wr:List Addr} {G:Array GenState→Array GenState→Prop} {n:Nat} {Pv:Nat→Value→Prop} {St:Nat→Shared→Prop}
variable {K:Type} [DecidableEq K] {knd:KeyKind prog w K}
theorem ql (j:WalksS prog w A.in1 I fp wr G n Pv St) (S:Addr) (l:S ∉ fp) (ks:List K) (hn:ks.length=n)
  (m:∀ (i:Nat) (v:Value),Pv i v→∃ k,ks[i]?=some k∧knd.is k v=true∧v.scannable=true) (g:n+1<scanBound) :
  ∀ (k i:Nat) (s:Shared),n-i=k→i≤n→St i s →
   ie knd s.heap S (fun k'=>(bf (ks.take i)).any (fun y=>decide (y=k'))) (bf (ks.take i)).length →
   (∀ a,Moved (S::wr) G s a→ie knd a.heap S (fun k'=>(bf ks).any (fun y=>decide (y=k'))) (bf ks).length→R (.ok (.ret .none)) a) →
   codeAny (model prog w) A (.builtin "set.update.loop" ⟨[.ref S,.ref I],[]⟩) R s:=by
 have p:S ∉ wr:=fun h=>l (j.sub _ h)
 have c:∀ b∈wr,b∈S::wr:=fun b g=>List.mem_cons_of_mem _ g
 intro k
 induction k with
 | zero =>
  intro i s hk hi d H hR
  have J:i=n:=by omega
  subst J
  rw [List.take_of_length_le (by omega)] at H
  refine codeAny_builtin F.entry_set_update_loop ?_
  rw [Around.under_plainId F.plain_set_update_loop _]
  show wpAny _ A.in1 (pyNext (.ref I) >>= _) _ _ s
  refine wpAny_bind (j.done s _ _ d fun a hm=>?_)
  show wpAny _ A.in1 (ret Value.none) _ _ a
  exact wpAny_pure (hR a (hm.mono c) (by
   obtain ⟨o,es,ep,t,L,rest⟩:=H
   exact ⟨o,es,ep,t,hm.heap S _ p L,rest⟩))
 | succ k ih =>
  intro i s hk hi d H hR
  have q:i<n:=by omega
  refine codeAny_builtin F.entry_set_update_loop ?_
  rw [Around.under_plainId F.plain_set_update_loop _]
  show wpAny _ A.in1 (pyNext (.ref I) >>= _) _ _ s
  refine wpAny_bind (j.item i s _ _ q d fun v a V r hm=>?_)
  obtain ⟨key,u,x,M⟩:=m i v V
  have N:ie knd a.heap S (fun k'=>(bf (ks.take i)).any (fun y=>decide (y=k'))) (bf (ks.take i)).length:=by
   obtain ⟨o,es,ep,tb,L,rest⟩:=H
   exact ⟨o,es,ep,tb,hm.heap S _ p L,rest⟩
  have tk:ks.take (i+1)=ks.take i++[key]:=by
   rw [List.take_add_one,u]
   rfl
  show wpAny _ A.in1 (holding [v] (setAdd S v) >>= _) _ _ a
  refine wpAny_bind (wpAny_holding ?_)
  unfold setAdd
  refine wpAny_holding ?_
  refine wpAny_bind (knd.pyHash (k:=key) x ?_)
  have f:(bf (ks.take i)).length+1<scanBound:=by
   have:=cZ (ks.take i)
   rw [List.length_take] at this
   omega
  refine ub (knd:=knd) (s:={ a with toks:=a.toks+1 }) x M N f fun h' z O=>?_
  have P:ie knd h' S (fun k'=>(bf (ks.take (i+1))).any (fun y=>decide (y=k'))) (bf (ks.take (i+1))).length :=
   O.congr (fun k'=>by rw [tk,dA,gb]) (by rw [tk,dA,dQ])
  refine wpAny_pure ⟨plainId_quiet F.plain_set_update_loop _,ih (i+1) _ (by omega) q (j.frame _ a _ _ r (Nat.le_succ _) fun b g o e=>?_) P fun Q B C=>?_⟩
  ·rw [z.2 b (fun h:b=S=>l (by rw [← h];exact g))];exact e
  ·refine hR Q (Moved.trans j.gtrans ((hm.mono c).then_heap (Nat.le_succ _) fun b o g e=>?_) B) C
   rw [z.2 b (fun h:b=S=>g (by rw [h];exact List.mem_cons_self))];exact e
end
section
variable {prog:Program} {w:World} {A:Around} {E:Value→Shared→Prop} {s:Shared} {K:Type} [DecidableEq K] {knd:KeyKind prog w K}
theorem ig {l:Addr} {items:Array Value} (ks:List K) {Q:Value→Shared→Prop} (hh:A.handled=none) (hl:s.heap.IsList l items) (hlen:ks.length=items.size)
  (g:∀ (i:Nat) (v:Value),items[i]?=some v→∃ k,ks[i]?=some k∧knd.is k v=true∧v.scannable=true) (z:items.size+1<scanBound)
  (h:∀ (h':Heap) (tk:Nat),ie knd h' s.heap.objs.size (fun k'=>(bf ks).any (fun y=>decide (y=k'))) (bf ks).length →
   (∀ b o,b<s.heap.objs.size→s.heap.get? b=some o→h'.get? b=some o)→Q (.ref s.heap.objs.size) { s with heap:=h',toks:=tk }) :
  wpAny (model prog w) A (call (.type "set") [.ref l]) Q E s:=by
 obtain ⟨c,tl,P⟩:=F.called_set.mro
 have B:=F.called_set.made
 have V:=F.called_set.sub
 refine wpAny_call (codeAny_of_tree ?_)
 show wpAny _ _ (callAny (.type "set") _) _ _ _
 refine wpAny_pure ⟨Code.quiet_builtin _ (by decide +kernel),codeAny_builtin F.entry_type_call ?_⟩
 rw [Around.under_plain (weight_type_call_type "set" [.ref l] []) rfl]
 have h1:=F.called_set.notType
 have h2:=F.called_set.canCreate
 have ac:=F.typeCall_set_1 (.ref l)
 repeat (any_goals (first | assumption | wp_step))
 refine codeAny_mono (code_set_led1 (.ref l) (E:=E) (Q₁:=fun obj X=>obj=.ref s.heap.objs.size∧X={ s with heap:=s.heap.push { cls:=.type "set",dict:=none,data:=.set #[] 0 (.fresh 0 0 (!w.params.followText "set-order")) } }) ⟨rfl,rfl⟩) fun r X C=>?_
 cases r with
 | error e=>exact C
 | ok fl =>
  cases fl with
  | ret obj =>
   obtain ⟨rfl,rfl⟩:=C
   have Y:(s.heap.push { cls:=.type "set",dict:=none,data:=.set #[] 0 (.fresh 0 0 (!w.params.followText "set-order")) }).get? s.heap.objs.size=some { cls:=.type "set",dict:=none,data:=.set #[] 0 (.fresh 0 0 (!w.params.followText "set-order")) }:=Heap.get?_push_size _ rfl
   have hT:Shared.TypeIs { s with heap:=s.heap.push { cls:=.type "set",dict:=none,data:=.set #[] 0 (.fresh 0 0 (!w.params.followText "set-order")) } } (.ref s.heap.objs.size) "set" := ⟨_,Y,rfl⟩
   have ad:=F.called_set.init.lookup
   have ae:=F.called_set.init.bind (.ref s.heap.objs.size)
   repeat (any_goals (first | assumption | wp_step))
   refine codeAny_mono (codeAny_call_builtin (R:=wants (fun r s₂=>r=.none∧∃ h' tk,s₂={ s with heap:=h',toks:=tk } ∧
     ie knd h' s.heap.objs.size (fun k'=>(bf ks).any (fun y=>decide (y=k'))) (bf ks).length ∧
     (∀ b o,b<s.heap.objs.size→s.heap.get? b=some o→h'.get? b=some o)) E) F.called_set.init.plain F.entry_set_init (check_set_init_1 hT ?_)) fun r₂ s₂ hr₂=>?_
   ·obtain ⟨ol,j,m,nl,n⟩:=hl
    obtain ⟨Z,d,G,a⟩:=ol
    simp only at m n
    subst m;subst n
    have p:(s.heap.push { cls:=.type "set",dict:=none,data:=.set #[] 0 (.fresh 0 0 (!w.params.followText "set-order")) }).get? l=some { cls:=.type "list",dict:=d,data:=.seq items nl,slots:=a }:=Heap.get?_push_of_some _ j
    have aa:=PySem.F.sub_list_set
    have ab:=PySem.F.sub_list_frozenset
    have ag:(Value.type "list" == Value.type "dict")=false:=by decide
    have q:(s.heap.push { cls:=.type "set",dict:=none,data:=.set #[] 0 (.fresh 0 0 (!w.params.followText "set-order")) }).IsList l items:=⟨_,p,rfl,nl,rfl⟩
    unfold Builtin.«set.__init__» noKeywords Builtin.Frozenset.updateFrom
    generalize hPI:pyIter=PI
    wp_walk
    subst hPI
    refine wpAny_pyIter_list q ?_
    refine wpAny_bind (wpAny_runValue ?_)
    have t:l<s.heap.objs.size:=Heap.lt_size j
    have H:A.in1.in1.in1.handled=none:=by simp [hh]
    have u:l≠(s.heap.push { cls:=.type "set",dict:=none,data:=.set #[] 0 (.fresh 0 0 (!w.params.followText "set-order")) }).objs.size:=by
     rw [Heap.size_push];exact Nat.ne_of_lt (Nat.lt_succ_of_lt t)
    have I:s.heap.objs.size ∉ [(s.heap.push { cls:=.type "set",dict:=none,data:=.set #[] 0 (.fresh 0 0 (!w.params.followText "set-order")) }).objs.size,l]:=by
     rw [Heap.size_push];simp only [List.mem_cons,List.mem_singleton,List.not_mem_nil,or_false,not_or]
     exact ⟨Nat.ne_of_lt (Nat.lt_succ_self _),Nat.ne_of_gt t⟩
    refine ql (knd:=knd) ((Walks.list H _ l u items).toS) s.heap.objs.size
     I ks hlen g z (items.size-0) 0 _ (by omega) (Nat.zero_le _)
     ⟨⟨_,Heap.get?_push_size _ rfl,rfl,rfl⟩,(q.push _)⟩ ?hS0 ?hR
    case hS0 =>
     have x:((s.heap.push { cls:=.type "set",dict:=none,data:=.set #[] 0 (.fresh 0 0 (!w.params.followText "set-order")) }).push { cls:=.type "list_iterator",data:=.fields #[.ref l,.int 0 0] }).get? s.heap.objs.size
       = some { cls:=.type "set",dict:=none,data:=.set #[] 0 (.fresh 0 0 (!w.params.followText "set-order")) }:=Heap.get?_push_of_some _ Y
     exact (vj x).congr (fun _=>rfl) rfl
    case hR =>
     intro s' hm f
     obtain ⟨h',g',d',J,L⟩:=s'
     have eg:g'=s.gens:=hm.gens
     have ed:d'=s.drawn:=hm.drawn
     have eo:L=s.os:=hm.os
     subst eg;subst ed;subst eo
     show wpAny _ _ _ _ _ _
     refine wpAny_pure ?_
     show wpAny _ _ (ret Value.none) _ _ _
     refine wpAny_pure ⟨rfl,h',J,rfl,f,fun b o z e=>?_⟩
     have M:b≠s.heap.objs.size:=Nat.ne_of_lt z
     have N:b≠(s.heap.push { cls:=.type "set",dict:=none,data:=.set #[] 0 (.fresh 0 0 (!w.params.followText "set-order")) }).objs.size:=by
      rw [Heap.size_push];exact Nat.ne_of_lt (Nat.lt_succ_of_lt z)
     exact hm.heap b o (by simp only [List.mem_cons,List.mem_singleton,List.not_mem_nil,or_false,not_or];exact ⟨M,N⟩) (Heap.get?_push_of_some _ (Heap.get?_push_of_some _ e))
   ·cases r₂ with
    | error e=>exact hr₂
    | ok fl₂ =>
     cases fl₂ with
     | ret r =>
      obtain ⟨rfl,h',tk,rfl,f,O⟩:=hr₂
      repeat (any_goals (first | assumption | wp_step))
      exact h _ _ f O
     | _=>exact hr₂.elim
  | _=>exact C.elim
end
end Ev.Sb
namespace Ev.Sb
open PySem PySem.Spec PyProof.Rows L2 Ev
theorem qt:∀ (L zs:List Str),L.Nodup→(∀ x∈L,x∈zs)→zs.length=L.length→zs.Perm L
 | [],zs,_,_,h=>by
  rw [List.length_eq_zero_iff.mp h]
 | x::L,zs,nd,sub,h=>by
  obtain ⟨c,d⟩:=List.nodup_cons.mp nd
  have a:=sub x (by simp)
  refine (List.perm_cons_erase a).trans (List.Perm.cons x (qt L _ d (fun y b=>?_) ?_))
  ·have ne:y≠x:=fun e=>c (e▸b)
   exact (List.mem_erase_of_ne ne).mpr (sub y (by simp [b]))
  ·rw [List.length_erase_of_mem a,h]
   rfl
theorem jl {K:Type} [DecidableEq K] {l:List K} (k:K) (h:l.Nodup):(oneMore l k).Nodup:=by
 unfold oneMore
 split
 ·exact h
 ·rename_i c
  refine List.nodup_append.mpr ⟨h,by simp,fun a ha b d e=>c ?_⟩
  rw [List.mem_singleton.mp d] at e
  subst e
  exact List.any_eq_true.mpr ⟨a,ha,by simp⟩
theorem o9 {K:Type} [DecidableEq K] (l:List K):(bf l).Nodup:=by
 have go:∀ (l acc:List K),acc.Nodup→(l.foldl oneMore acc).Nodup:=fun l=>by
  induction l with
  | nil=>intro acc h;exact h
  | cons a l ih=>intro acc h;exact ih _ (jl a h)
 exact go l [] .nil
section
variable {P:Program} {w:World} {A:Around} {E:Value→Shared→Prop} {s:Shared}
theorem lD {a:Addr} {S:Str→Bool} {L:List Str} {Q:Value→Shared→Prop} (R:ie (PySem.strKind P w) s.heap a S L.length) (nd:L.Nodup) (C:∀ k,S k=true ↔ k∈L) (F:A.handled=none) (n:L.length<64)
  (G:∀ h p (out:Array Value) (c:Nat) (ys:List Str),(∀ b o,s.heap.get? b=some o→h.heap.get? b=some o)→h.gens=s.gens→h.os=s.os→s.heap.objs.size≤p →
   h.heap.get? p=some (seqObj "list" out c)→StrsAre out.toList ys→ys.Perm L→sortedS ys=true→Q (.ref p) h) :
  wpAny (model P w) A (call (.builtin "sorted") [.ref a]) Q E s:=by
 obtain ⟨o,es,ep,t,H,hex,hd,g,hm,I,hf,hn,J,K⟩:=R
 refine Calls.call_function_entry kind_sorted plain_sorted entry_sorted (args_sorted1 _) ?_
 unfold Builtin.«sorted»
 refine wpAny_bind (m:=checkCount "sorted" 1 1 _) (wpAny_pure ?_)
 refine wpAny_bind (collect_set (A:=A.in1) F ⟨o,H,hex.1,hd⟩ hf I J K fun s1 vs k1 M g1 o1 pm=>?_)
 have d:vs.length=L.length:=by rw [pm.length_eq,List.length_map,Array.length_toList];exact hn
 have i:∀ v∈vs,∃ x t,v=Value.str x t:=fun v l=>by
  obtain ⟨e,he,q⟩:=List.mem_map.mp (pm.mem_iff.mp l)
  obtain ⟨⟨k,B,_⟩,_⟩:=g e he
  rw [q] at B
  cases v with
  | str x t=>exact ⟨x,t,rfl⟩
  | _=>simp [PySem.strKind,Value.isStrOf] at B
 have r:StrsAre vs (vs.map strOf):=strsAre_map vs i
 have N:(vs.map strOf).Perm L:=qt L _ nd (fun x O=>by
  obtain ⟨e,he,q⟩:=(hm x).mp ((C x).mpr O)
  have l:e.2∈vs:=pm.mem_iff.mpr (List.mem_map.mpr ⟨e,he,rfl⟩)
  refine List.mem_map.mpr ⟨e.2,l,?_⟩
  obtain ⟨y,t,V⟩:=i _ l
  rw [V] at q ⊢
  have:(y==x)=true:=by simpa [PySem.strKind,Value.isStrOf] using q
  exact eq_of_beq this) (by rw [List.length_map,d])
 refine wpAny_bind (wpAny_newList ?_ (by rw [d,sizeLine_eq];omega))
 have f:(s1.heap.push (seqObj "list" vs.toArray 0)).get? s1.heap.objs.size=some (seqObj "list" vs.toArray 0):=Heap.get?_push_size _ rfl
 refine wpAny_bind (wpAny_holding (wpAny_call_entry slot_list_sort ⟨_,f,rfl⟩ entry_list_sort
  (list_sort_treeK strKind_oneLt f r.keysOf (fun v₁ v₂ rest e=>keyKind_strs (by rw [← e];exact r)) (by rw [d];exact n) fun z X hs=>⟨_,rfl,?_⟩) (args_list_sort _)))
 obtain ⟨ys,Y,Z,y3⟩:=sorted_out_str r X hs
 obtain ⟨c,hc⟩:=sortedHeap_at (vs:=vs) (out:=(arrOf z).map (·.2)) f
 refine wpAny_pure ⟨_,rfl,G _ s1.heap.objs.size _ c ys (fun b u e=>?_) g1 o1 M hc Y (Z.trans N) y3⟩
 have q:=k1 b u e
 have j:=Heap.lt_size q
 show (sortedHeap (s1.heap.push (seqObj "list" vs.toArray 0)) s1.heap.objs.size vs _).get? b=some u
 rw [sortedHeap_old (Nat.ne_of_lt j) (by rw [size_push'];exact Nat.lt_succ_of_lt j)]
 exact Heap.get?_push_of_some _ q
end
def ud (P:Program) (w:World) (a:Addr) (S:Str→Bool) (n:Nat):HO:=.ext fun h=>ie (PySem.strKind P w) h a S n
theorem vO {w:World} {P:Program} {H:Hp} {h:Heap} {a:Addr} {S:Str→Bool} {n:Nat} (R:ie (PySem.strKind P w) h a S n):ObjOk P w H h a (ud P w a S n):=by
 have ⟨o,_,_,_,b,_⟩:=R
 exact ⟨R,⟨o,b⟩,fun c d p k=>p.at k⟩
section
variable {X:Cx}
def qm (K:Frag) (P:Program) (w:World):List V→Hp→VK→Prop:=fun xs H Q=>∃ (l:Addr) (ss:List Str),xs=[V.ref l]∧SqL K H l (ss.map V.str)∧ss.length<64 ∧
 ∀ a,H a=none→Q (.ref a) (upd H a (ud P w a (fun k'=>(bf ss).any (fun y=>decide (y=k'))) (bf ss).length))
theorem sk (d:X.calm=true):CallR X (.type "set") (qm X.K X.prog X.w):=by
 intro pins s σ H xs us Q I r h
 obtain ⟨l,ss,rfl,f,hf,q⟩:=h
 rw [Vals.ref1 r]
 obtain ⟨its,c,pl,m⟩:=I.list f
 have hn:H s.heap.objs.size=none:=I.hok.fresh (Nat.le_refl _)
 have ln:=c.length
 rw [List.length_map] at ln
 refine ig (knd:=PySem.strKind X.prog X.w) ss (I.ok.hd d) pl.isList (by simpa using ln) (fun i v g=>?_) (by unfold scanBound;simp;omega) fun h' tk R k=>?_
 ·obtain ⟨x,a,j⟩:=jv c i v (by simpa using g)
  rw [List.getElem?_map] at a
  cases hs:ss[i]? with
  | none=>rw [hs] at a;cases a
  | some z =>
   rw [hs] at a
   cases a
   obtain ⟨t,rfl⟩:=j
   exact ⟨z,rfl,strKind_is X.prog X.w z t,rfl⟩
 ·exact ⟨.ref s.heap.objs.size,upd H s.heap.objs.size (ud X.prog X.w s.heap.objs.size _ _),I.laid (t':=tk) (fun b o e=>k b o (Heap.lt_size e) e) (Nat.le_refl _) (vO R),rfl,q _ hn⟩
def dX (P:Program) (w:World):List V→Hp→VK→Prop:=fun xs H Q=>∃ (a:Addr) (S:Str→Bool) (L:List Str),xs=[V.ref a]∧H a=some (ud P w a S L.length)∧L.Nodup∧(∀ k,S k=true ↔ k∈L)∧L.length<64 ∧
 ∀ (ys:List Str) (p:Addr),ys.Perm L→sortedS ys=true→H p=none→Q (.ref p) (upd H p (.lst (ys.map V.str)))
theorem jA (i:X.calm=true):CallR X (.builtin "sorted") (dX X.prog X.w):=by
 intro pins s σ H vs us Q I r h
 obtain ⟨a,S,L,rfl,ha,nd,j,d,q⟩:=h
 have R:ie (PySem.strKind X.prog X.w) s.heap a S L.length:=(I.hok a _ ha).1
 rw [Vals.ref1 r]
 refine lD R nd j (I.ok.hd i) d fun b p out c ys k g o f hg hi pm l=>?_
 have hlen:(ys.map V.str).length≤sizeLine:=by rw [List.length_map,pm.length_eq,sizeLine_eq];omega
 have hn:H p=none:=I.hok.fresh f
 have J:Inv X pins σ (upd H p (.lst (ys.map V.str))) { s with heap:=b.heap,gens:=b.gens,drawn:=b.drawn,toks:=b.toks } :=
  I.call (ch:=[]) (Un.laid k f hn) (I.hok.laid k f ⟨hlen,out.toList,c,vals_of_strs hi,hg⟩) (by rw [g];exact I.bare) (fun _ z=>nomatch z)
 have e:b={ s with heap:=b.heap,gens:=b.gens,drawn:=b.drawn,toks:=b.toks }:=by
  cases b
  cases s
  cases o
  rfl
 exact ⟨.ref p,_,by rw [e];exact J,rfl,q ys p pm l hn⟩
end
end Ev.Sb
namespace Ev.Sn
open PySem PySem.Spec PyProof.Rows L2
inductive wJ:NestedKey→Prop where
 | num (i:Int):wJ (.num i)
 | tup {ks:List NestedKey}:(∀ k∈ks,wJ k)→wJ (.tup ks)
section
variable {P:Program} {w:World} {A:Around} {E:Value→Shared→Prop} {s:Shared}
def tQ (P:Program) (w:World) (f:Nat→Value→Sem Bool) (b:Bool) (n:Nat) (s:Shared) (v:Value):Prop:=∀ (A:Around) (E:Value→Shared→Prop) (Q:Bool→Shared→Prop),Q b s→wpAny (model P w) A (f n v) Q E s
theorem pE {n:Nat} {a:Addr} {o:Obj} {vs:Array Value} {m:Nat} (f:s.heap.get? a=some o) (g:o.cls=.type "tuple") (hd:o.data=.seq vs m) (i:∀ v∈vs.toList,tQ P w ofAClassStatement false n s v):tQ P w ofAClassStatement false (n+1) s (.ref a):=fun A E Q h=>by
 have j:s.TypeIs (.ref a) "tuple" := ⟨o,f,g⟩
 unfold ofAClassStatement
 refine wpAny_bind (wpAny_typeOf j ?_)
 dsimp only
 have e:(("tuple" : String)=="tuple")=true:=by decide
 simp only [e,if_true,Bool.not_true,Bool.false_eq_true,if_false]
 try refine wpAny_bind (wpAny_pure ?_)
 try simp only [Bool.not_true,Bool.false_eq_true,if_false]
 show wpAny _ _ (seqItems? (.ref a) >>= _) _ _ s
 refine wpAny_bind (wpAny_seqItems f hd ?_)
 dsimp only
 refine wpAny_bind ?_
 show wpAny _ _ (forIn vs _ _) _ _ s
 rw [← Array.forIn_toList]
 refine wpAny_forIn_list _ (fun rest r b=>r.1=none∧b=s∧∀ v∈rest,tQ P w ofAClassStatement false n s v) _ ?_ ?_ _ _ ⟨rfl,rfl,i⟩
 ·rintro v rest r b ⟨c,rfl,hall⟩
  refine wpAny_bind (hall v List.mem_cons_self _ _ _ ?_)
  simp only [Bool.false_eq_true,if_false]
  exact wpAny_pure ⟨rfl,rfl,fun u d=>hall u (List.mem_cons_of_mem _ d)⟩
 ·rintro ⟨r1,k⟩ b ⟨c,rfl,_⟩
  simp only at c
  subst c
  exact wpAny_pure h
theorem pZ {n:Nat} {a:Addr} {o:Obj} {vs:Array Value} {m:Nat} (e:s.heap.get? a=some o) (f:o.cls=.type "tuple") (hd:o.data=.seq vs m) (g:∀ v∈vs.toList,tQ P w hashByValue true n s v):tQ P w hashByValue true (n+1) s (.ref a):=fun A E Q h=>by
 have i:s.TypeIs (.ref a) "tuple" := ⟨o,e,f⟩
 unfold hashByValue
 refine wpAny_bind (wpAny_specialOf i F.slot_tuple_hash.lookup ?_)
 show wpAny _ _ (seqItems? (.ref a) >>= _) _ _ s
 refine wpAny_bind (wpAny_seqItems e hd ?_)
 refine wpAny_bind ?_
 show wpAny _ _ (forIn vs _ _) _ _ s
 rw [← Array.forIn_toList]
 refine wpAny_forIn_list _ (fun rest r b=>r.1=none∧b=s∧∀ v∈rest,tQ P w hashByValue true n s v) _ ?_ ?_ _ _ ⟨rfl,rfl,g⟩
 ·rintro v rest r b ⟨c,rfl,hall⟩
  refine wpAny_bind (hall v List.mem_cons_self _ _ _ ?_)
  simp only [Bool.not_true,Bool.false_eq_true,if_false]
  exact wpAny_pure ⟨rfl,rfl,fun u d=>hall u (List.mem_cons_of_mem _ d)⟩
 ·rintro ⟨r1,j⟩ b ⟨c,rfl,_⟩
  simp only at c
  subst c
  exact wpAny_pure h
theorem dU {n:Nat} {v:Value} (h:∀ a,v≠.ref a):ofAClassStatement n v=pure false:=by
 cases v<;>first
  | (cases n<;>rfl)
  | exact absurd rfl (h _)
mutual
theorem eW:∀ (k:NestedKey) (v:Value) (n:Nat) (s:Shared),NestedIs s.heap k v→k.depth≤n→tQ P w ofAClassStatement false n s v
 | .none,_,n,s,x,_=>by cases x;intro A E Q h;rw [dU (by intro a e;cases e)];exact wpAny_pure h
 | .num i,_,n,s,x,_=>by cases x<;>(intro A E Q h;rw [dU (by intro a e;cases e)];exact wpAny_pure h)
 | .text y,_,n,s,x,_=>by cases x;intro A E Q h;rw [dU (by intro a e;cases e)];exact wpAny_pure h
 | .tup ks,_,n,s,x,hn=>by
  cases x with
  | tup hg b hd hk =>
   simp only [NestedKey.depth] at hn
   cases n with
   | zero=>omega
   | succ n=>exact pE hg b hd (fS ks _ n s hk (by omega))
theorem fS:∀ (ks:List NestedKey) (vs:List Value) (n:Nat) (s:Shared),NestedAll s.heap ks vs→NestedKey.depthAll ks≤n→∀ v∈vs,tQ P w ofAClassStatement false n s v
 | [],_,n,s,x,_,v,a=>by cases x;cases a
 | k::ks,_,n,s,x,hn,v,a=>by
  cases x with
  | cons b x2 =>
   simp only [NestedKey.depthAll] at hn
   rcases List.mem_cons.mp a with e | a
   ·rw [e];exact eW k _ n s b (by omega)
   ·exact fS ks _ n s x2 (by omega) v a
end
mutual
theorem gB:∀ (k:NestedKey) (v:Value) (n:Nat) (s:Shared),NestedIs s.heap k v→k.depth≤n→wJ k→tQ P w hashByValue true n s v
 | .none,_,n,s,x,_,z=>nomatch z
 | .num i,_,n,s,x,_,_=>by cases x<;>(intro A E Q h;cases n<;>exact wpAny_pure h)
 | .text y,_,n,s,x,_,z=>nomatch z
 | .tup ks,_,n,s,x,hn,z=>by
  cases x with
  | tup hg a hd hk =>
   simp only [NestedKey.depth] at hn
   cases n with
   | zero=>omega
   | succ n =>
    have b:∀ k∈ks,wJ k:=by cases z with | tup q=>exact q
    exact pZ hg a hd (iu ks _ n s hk (by omega) b)
theorem iu:∀ (ks:List NestedKey) (vs:List Value) (n:Nat) (s:Shared),NestedAll s.heap ks vs→NestedKey.depthAll ks≤n→(∀ k∈ks,wJ k)→∀ v∈vs,tQ P w hashByValue true n s v
 | [],_,n,s,x,_,_,v,a=>by cases x;cases a
 | k::ks,_,n,s,x,hn,z,v,a=>by
  cases x with
  | cons b x2 =>
   simp only [NestedKey.depthAll] at hn
   rcases List.mem_cons.mp a with e | a
   ·rw [e];exact gB k _ n s b (by omega) (z _ List.mem_cons_self)
   ·exact iu ks _ n s x2 (by omega) (fun k hk=>z k (List.mem_cons_of_mem _ hk)) v a
end
end
end Ev.Sn
namespace Ev.Sn
open PySem PySem.Spec PyProof.Rows L2
def IsK (h:Heap) (k:NestedKey) (b:Addr):Prop:=NestedIs h k (.ref b)∧k.depth≤8∧wJ k
theorem IsK.move {h h':Heap} {k:NestedKey} {b:Addr} (x:IsK h k b) (hk:∀ c o vs n,h.get? c=some o→o.data=.seq vs n→h'.get? c=some o):IsK h' k b:=⟨NestedIs.at hk _ _ x.1,x.2⟩
theorem IsK.keep {h h':Heap} {k:NestedKey} {b:Addr} (x:IsK h k b) (hk:∀ c o,h.get? c=some o→h'.get? c=some o):IsK h' k b:=x.move fun c o _ _ e _=>hk c o e
theorem IsK.other {h h':Heap} {k:NestedKey} {a b:Addr} {o:Obj} {es:Array (Int × Value)} {ep:Nat} {t:SetTable} (x:IsK h k b) (f:h.get? a=some o) (hd:o.data=.set es ep t) (hs:Heap.SameBut a h h'):IsK h' k b :=
 x.move fun c q vs n e d=>(hs.2 c fun ec=>by
  subst ec
  cases f.symm.trans e
  rw [hd] at d
  cases d).trans e
section
variable {α:Type}
theorem sY (f:α→Int × Value) (L:List α) (es:Array (Int × Value)) (order:Array Nat) (c:es.toList=L.map f) (b:order.toList.Perm (List.range L.length)) :
  ∃ L2:List α,(order.filterMap (es[·]?)).toList=L2.map f∧L2.Perm L∧(L2.map fun x=>(f x).1)=order.toList.map fun i=>(es.map (·.1)).getD i 0:=by
 have at_:∀ i:Nat,es[i]?=(L[i]?).map f:=fun i=>by rw [← Array.getElem?_toList,c,List.getElem?_map]
 have all:(List.range L.length).filterMap (fun i=>L[i]?)=L:=by
  have key:∀ n,n≤L.length→(List.range n).filterMap (fun i=>L[i]?)=L.take n:=fun n=>by
   induction n with
   | zero=>exact fun _=>rfl
   | succ n ih =>
    intro hn
    have one:[n].filterMap (fun i=>L[i]?)=L[n]?.toList:=by
     rw [List.filterMap_cons_some (List.getElem?_eq_getElem hn),List.getElem?_eq_getElem hn]
     rfl
    rw [List.range_succ,List.filterMap_append,ih (by omega),one,List.take_add_one]
  rw [key _ (Nat.le_refl _),List.take_length]
 refine ⟨order.toList.filterMap fun i=>L[i]?,?_,?_,?_⟩
 ·rw [Array.toList_filterMap,List.map_filterMap]
  exact congrArg (fun g=>List.filterMap g order.toList) (funext at_)
 ·have:=b.filterMap fun i=>L[i]?
  rw [all] at this
  exact this
 ·have a:∀ i∈order.toList,i<L.length:=fun i hi=>List.mem_range.mp (b.mem_iff.mp hi)
  generalize order.toList=l at a
  induction l with
  | nil=>rfl
  | cons i l ih =>
   have hi:=a i List.mem_cons_self
   have e:(es.map (·.1)).getD i 0=(f L[i]).1:=by
    have d:(es.map (·.1))[i]?=some (f L[i]).1:=by rw [Array.getElem?_map,at_,List.getElem?_eq_getElem hi];rfl
    simp [Array.getD_eq_getD_getElem?,d]
   rw [List.filterMap_cons_some (List.getElem?_eq_getElem hi),List.map_cons,List.map_cons,e,ih fun j h=>a j (List.mem_cons_of_mem _ h)]
end
abbrev lK (m:Nat) (h:Int) (c:Nat):SetTable.Probe:=nth m (runAt m (SetTable.bits h % (m+1)) (SetTable.bits h)) c
theorem kW (m:Nat) (h:Int) (c q:Nat):nth m (lK m h c) q=lK m h (c+q):=(nth_add m c _ q).symm
theorem mv (m:Nat) (h:Int):∀ c,(lK m h c).dummy=none:=by
 have key:∀ (n:Nat) (p:SetTable.Probe),p.dummy=none→(nth m p n).dummy=none:=fun n=>by
  induction n with
  | zero=>exact fun _ z=>z
  | succ n ih =>
   intro p z
   refine ih _ ?_
   unfold adv
   split<;>exact z
 exact fun c=>key c _ rfl
abbrev ui (w:World) (p:Addr × NestedKey):Int × Value:=(p.2.hash w,.ref p.1)
abbrev hsK (w:World) (L:List (Addr × NestedKey)):List Int:=L.map fun p=>(ui w p).1
structure oX (w:World) (h:Heap) (a:Addr) (L:List (Addr × NestedKey)) (es:Array (Int × Value)) (ep:Nat) (t:SetTable):Prop where
 obj:∃ o,h.get? a=some o∧o.ExactSet∧o.data=.set es ep t
 rows:es.toList=L.map (ui w)
 tab:TabOk t (hsK w L)
 nodup:(L.map Prod.snd).Nodup
 keys:∀ p∈L,IsK h p.2 p.1
 pln:t.plain=true
 ledg:w.params.followText "set-order" = true∨t.led=true
 roomy:L.length*5<t.mask*3
section
variable {P:Program} {w:World} {A:Around} {E:Value→Shared→Prop} {s:Shared}
variable {a:Addr} {L:List (Addr × NestedKey)} {es:Array (Int × Value)} {ep:Nat} {t:SetTable}
theorem cq (a:es.toList=L.map (ui w)):es.size=L.length:=by
 rw [← Array.length_toList,a,List.length_map]
theorem r8 (a:es.toList=L.map (ui w)) (i:Nat):es[i]?=(L[i]?).map (ui w):=by rw [← Array.getElem?_toList,a,List.getElem?_map]
theorem fits_of {n:Nat} (hs:t.place.size=n) (hd:t.dummies=#[]) (hm:n≤t.mask):t.fits n=true:=by
 unfold SetTable.fits SetTable.fill
 rw [hd,Bool.and_eq_true,beq_iff_eq,decide_eq_true_eq]
 exact ⟨hs,by rw [hs];exact hm⟩
theorem oX.few (R:oX w s.heap a L es ep t):L.length≤76:=by
 have h:=R.roomy
 rcases R.tab.mok with e | e | e<;>omega
theorem oX.xQ (R:oX w s.heap a L es ep t):t.place.size=L.length:=by
 have h:=R.tab.sz
 rwa [List.length_map] at h
theorem oX.fits (R:oX w s.heap a L es ep t):t.fits es.size=true:=by
 have h:=R.roomy
 exact fits_of (by rw [cq R.rows];exact R.xQ) R.tab.dm (by rw [cq R.rows];omega)
theorem AU {k:NestedKey} {b:Addr} {Q:Bool→Shared→Prop} (hk:IsK s.heap k b) {ys:List Value} (e:∀ y∈ys,∃ j c,y=Value.ref c∧IsK s.heap j c) (h:Q false s):wpAny (model P w) A (searchCouldBeSeen (.ref b) ys) Q E s:=by
 unfold searchCouldBeSeen
 refine wpAny_bind (wpAny_forIn_list _ (fun rest r a=>r.1=none∧a=s∧∀ y∈rest,∃ j c,y=Value.ref c∧IsK s.heap j c) _ ?_ ?_ _ _ ⟨rfl,rfl,e⟩)
 ·rintro y rest r a ⟨_,rfl,all⟩
  obtain ⟨j,c,rfl,d⟩:=all y List.mem_cons_self
  have tl:∀ u∈rest,∃ j c,u=Value.ref c∧IsK a.heap j c:=fun u f=>all u (List.mem_cons_of_mem _ f)
  dsimp only
  by_cases same:(b==c||(carriedByValue (.ref b)&&carriedByValue (.ref c)))=true
  ·exact wp_if_pos same (wpAny_pure ⟨rfl,rfl,tl⟩)
  ·refine wp_if_neg same (wpAny_bind ((nestedKind P w).quiet ⟨hk.1,hk.2.1⟩ ?_))
   simp only [Bool.not_true,Bool.false_eq_true,if_false]
   refine wpAny_bind ((nestedKind P w).quiet ⟨d.1,d.2.1⟩ ?_)
   simp only [Bool.not_true,Bool.false_eq_true,if_false]
   refine wpAny_bind (eW _ _ 8 _ hk.1 hk.2.1 _ _ _ ?_)
   simp only [Bool.false_eq_true,if_false]
   refine wpAny_bind (eW _ _ 8 _ d.1 d.2.1 _ _ _ ?_)
   simp only [Bool.false_eq_true,if_false]
   exact wpAny_pure ⟨rfl,rfl,tl⟩
 ·rintro ⟨r1,i⟩ a ⟨g,rfl,_⟩
  cases (show r1=none from g)
  exact wpAny_pure h
theorem j8 (R:oX w s.heap a L es ep t) {x:Addr} {k:NestedKey} (u:IsK s.heap k x) (B:A.units+8<cLine) {N:Nat} (hN:N<10*SetTable.turns t.mask) (free:way t.mask (k.hash w) N ∉ t.place.toList)
  (b:∀ c,c<N→way t.mask (k.hash w) c∈t.place.toList) {Q:SetFound→Shared→Prop} (yes:k∈L.map Prod.snd→Q (.there none) s) (no:k ∉ L.map Prod.snd→Q (.free (way t.mask (k.hash w) N) false) s) :
  ∀ (f c:Nat) (st:Option SetTable.Probe),st.getD (t.probeStart (k.hash w))=lK t.mask (k.hash w) c→c≤N→N-c<f →
   (∀ (i:Nat) p,L[i]?=some p→p.2=k→∃ d,c≤d∧d<N∧t.place.toList[i]?=some (way t.mask (k.hash w) d))→wpAny (model P w) A (setSearchFrom a (.ref x) (k.hash w) true f st) Q E s
 | 0,_,_,_,_,lt,_=>absurd lt (Nat.not_lt_zero _)
 | f+1,c,st,e0,cN,lt,later=>by
  obtain ⟨o,C,hex,hd⟩:=R.obj
  have gw:¬ t.gaveWay=true:=by
   unfold SetTable.gaveWay
   rw [mask_odd R.tab.mok]
   decide
  rw [setSearchFrom_succ]
  refine wpAny_bind (wpAny_setState_of C hd R.fits ?_)
  dsimp only
  refine wp_if_neg gw ?_
  try refine wpAny_bind (wpAny_pure ?_)
  have F:∀ (i:Nat) p,L[i]?=some p→(fun i=>(es[i]?.map (·.1)).getD 0) i=p.2.hash w:=fun i p n=>by
   show (es[i]?.map (·.1)).getD 0=_
   rw [r8 R.rows,n]
   rfl
  have l:∀ q,(nth t.mask (lK t.mask (k.hash w) c) q).j=way t.mask (k.hash w) (c+q):=fun q=>congrArg SetTable.Probe.j (kW ..)
  have sub:∀ d,c≤d→c+(d-c)=d:=fun d h=>by omega
  rcases go_spec t R.tab.ris R.tab.dm (fun i=>(es[i]?.map (·.1)).getD 0) (k.hash w) (10*SetTable.turns t.mask) (N-c) _ (mv t.mask (k.hash w) c) (by omega) (fun q H=>by rw [l];exact b _ (by omega)) (by rw [l,sub N cN];exact free) with ⟨q,i,H,hi,M,fresh,m⟩ | ⟨fresh,m⟩
  ·rw [l] at hi
   have pr:t.probe (fun i=>(es[i]?.map (·.1)).getD 0) (k.hash w) (st.getD (t.probeStart (k.hash w)))=some (.candidate (way t.mask (k.hash w) (c+q)) i (lK t.mask (k.hash w) (c+(q+1)))):=by
    rw [e0,← l,← kW]
    exact m
   rw [pr]
   dsimp only
   have I:i<L.length:=by
    have:=(List.getElem?_eq_some_iff.mp hi).1
    rw [Array.length_toList,R.xQ] at this
    exact this
   obtain ⟨p,n⟩:∃ p,L[i]?=some p:=⟨_,List.getElem?_eq_getElem I⟩
   have pm:p∈L:=List.mem_of_getElem? n
   have ei:es[i]?=some (ui w p):=by rw [r8 R.rows,n];rfl
   have behind:wpAny (model P w) A (searchRest a (.ref x) (k.hash w) true f es t (way t.mask (k.hash w) (c+q)) i (lK t.mask (k.hash w) (c+(q+1)))) Q E s:=by
    unfold searchRest
    rw [ei]
    dsimp only
    refine wpAny_bind (wpAny_holding ((nestedKind P w).eqBool B (x:=p.2) (y:=k) ⟨(R.keys p pm).1,(R.keys p pm).2.1⟩ ⟨u.1,u.2.1⟩ ?_))
    refine wpAny_bind (wpAny_setState_of C hd R.fits ?_)
    dsimp only
    by_cases eq:p.2=k
    ·exact wp_if_pos (by simp [eq]) (wpAny_pure (yes (List.mem_map.mpr ⟨p,pm,eq⟩)))
    ·refine wp_if_neg (by simp [eq]) ?_
     try refine wpAny_bind (wpAny_pure ?_)
     rw [sameMem]
     dsimp only
     have live:t.slot (way t.mask (k.hash w) (c+q))=.live i:=slot_live R.tab.ris hi
     simp only [if_true,live,ei]
     refine wpAny_bind (wpAny_isSame_ref_self (wpAny_bind (wpAny_pure ?_)))
     simp only [if_true]
     refine wp_if_neg (by simp [eq]) (j8 R u B hN free b yes no f (c+(q+1)) _ rfl (by omega) (by omega) fun g p0 h0 k0=>?_)
     obtain ⟨d,d1,d2,d3⟩:=later g p0 h0 k0
     refine ⟨d,?_,d2,d3⟩
     rcases Nat.lt_trichotomy d (c+q) with z | z | z
     ·exact absurd ((F g p0 h0).trans (by rw [k0])) (fresh (d-c) g (by omega) (by rw [l,sub d d1];exact d3))
     ·rw [z] at d3
      have l0:=slot_live R.tab.ris d3
      rw [live] at l0
      injection l0 with l0
      rw [← l0,n] at h0
      cases h0
      exact absurd k0 eq
     ·omega
   by_cases G:t.led=true
   ·refine wp_if_neg (by simp [G]) ?_
    try refine wpAny_bind (wpAny_pure ?_)
    exact behind
   ·refine wp_if_pos (by simp [G]) (wpAny_bind (AU u (fun y J=>?_) ?_))
    ·obtain ⟨e,he,rfl⟩:=List.mem_map.mp J
     have r:e∈es.toList:=by
      have:=(show e∈es∧e.1=k.hash w by simpa using he).1
      simpa using this
     rw [R.rows] at r
     obtain ⟨p2,v,rfl⟩:=List.mem_map.mp r
     exact ⟨p2.2,p2.1,rfl,R.keys p2 v⟩
    ·refine wp_if_neg (by decide) ?_
     try refine wpAny_bind (wpAny_pure ?_)
     exact behind
  ·have pr:t.probe (fun i=>(es[i]?.map (·.1)).getD 0) (k.hash w) (st.getD (t.probeStart (k.hash w)))=some (.empty (way t.mask (k.hash w) N) none):=by
    rw [e0,← sub N cN,← l]
    exact m
   rw [pr]
   dsimp only
   refine wpAny_pure (no fun hm=>?_)
   obtain ⟨p0,m0,k0⟩:=List.mem_map.mp hm
   obtain ⟨g,l0,K⟩:=List.getElem_of_mem m0
   have h0:L[g]?=some p0:=by rw [List.getElem?_eq_getElem l0,K]
   obtain ⟨d,d1,d2,d3⟩:=later g p0 h0 k0
   exact absurd ((F g p0 h0).trans (by rw [k0])) (fresh (d-c) g (by omega) (by rw [l,sub d d1];exact d3))
theorem look (R:oX w s.heap a L es ep t) {x:Addr} {k:NestedKey} (h:IsK s.heap k x) (j:A.units+8<cLine) {Q:SetFound→Shared→Prop} (yes:k∈L.map Prod.snd→Q (.there none) s)
  (no:∀ N,k ∉ L.map Prod.snd→way t.mask (k.hash w) N ∉ t.place.toList→(∀ c,c<N→way t.mask (k.hash w) c∈t.place.toList)→Q (.free (way t.mask (k.hash w) N) false) s) :
  wpAny (model P w) A (setSearch a (.ref x) (k.hash w) true) Q E s:=by
 have few:=R.few
 have n:=R.roomy
 obtain ⟨N,l,b,d⟩:=R.tab.first (by rw [List.length_map];omega) (k.hash w)
 have big:N<100000:=by
  have:SetTable.turns t.mask≤142:=by
   unfold SetTable.turns
   rcases R.tab.mok with e | e | e<;>omega
  omega
 unfold setSearch
 refine j8 R h j l b d yes (fun hn=>no N hn b d) 100000 0 none rfl (Nat.zero_le _) (by omega) fun i p f hk=>?_
 have il:i<t.place.toList.length:=by
  have:=(List.getElem?_eq_some_iff.mp f).1
  rw [Array.length_toList,R.xQ]
  exact this
 have g:=List.getElem?_eq_getElem il
 obtain ⟨c,m,e⟩:=R.tab.before b (i:=i) (by rw [List.getElem?_map,f,← hk];rfl) g
 exact ⟨c,Nat.zero_le _,m,by rw [g,e]⟩
theorem anew {o:Obj} (c:s.heap.get? a=some o) (hex:o.ExactSet) (hd:o.data=.set es ep t) (i:es.toList=L.map (ui w)) (d:t.place.size=L.length) (f:t.dummies=#[]) (g:L.length≤t.mask)
  (nd:(L.map Prod.snd).Nodup) (ks:∀ p∈L,IsK s.heap p.2 p.1) (pl:t.plain=true) (ld:w.params.followText "set-order" = true∨t.led=true) {wanted M:Nat} (hw:SetTable.sizeAbove wanted-1=M) (j:MaskOk M)
  (l:SetTable.sizeAbove wanted≤128) (hn:L.length*5<M*3) {Q:Unit→Shared→Prop} (m:∀ h' L' es' h t',Heap.SameBut a s.heap h'→oX w h' a L' es' h t'→L'.Perm L→Q () { s with heap:=h' }) :
  wpAny (model P w) A (setRelay a wanted) Q E s:=by
 have sz:es.size=L.length:=cq i
 have few:L.length≤76:=by rcases j with e | e | e<;>omega
 obtain ⟨t',order,e,k,T,em,n,r,x⟩:=relaid_ok t (hs:=es.map (·.1)) (wanted:=wanted) hw j (by rw [Array.size_map,sz];omega)
 rw [Array.size_map,sz] at k
 obtain ⟨L2,r1,b,u⟩:=sY (ui w) L es order i k
 have v:TabOk t' (hsK w L2):=by
  have:hsK w L2=_:=u
  rw [this]
  exact T
 have s2:(order.filterMap (es[·]?)).size=es.size:=by rw [cq r1,b.length_eq,sz]
 rw [setRelay_eq]
 refine wpAny_bind (wpAny_setState_of c hd (fits_of (by rw [sz];exact d) f (by rw [sz];exact g)) ?_)
 dsimp only
 refine wp_if_neg (by rw [sizeLine_eq];omega) ?_
 try refine wpAny_bind (wpAny_pure ?_)
 rw [e]
 dsimp only
 refine wpAny_bind (wp_if_neg (by rw [s2];simp) ?_)
 try refine wpAny_bind (wpAny_pure ?_)
 refine wpAny_pure ?_
 dsimp only
 have sb:Heap.SameBut a s.heap (s.heap.update a (Obj.putSet (order.filterMap (es[·]?)) t')):=Heap.SameBut.update ..
 refine wpAny_storeSet_of c hd (m _ L2 (order.filterMap (es[·]?)) (ep+1) t' sb ?_ b) (by rw [s2,sz,sizeLine_eq];omega)
 exact { obj:=⟨_,store_at c hd,⟨hex.1,hex.2.1,hex.2.2⟩,rfl⟩,rows:=r1,tab:=v,nodup:=(b.map Prod.snd).nodup_iff.mpr nd,keys:=fun p q=>(ks p (b.mem_iff.mp q)).other c hd sb,pln:=r.trans pl,ledg:=by rw [n];exact ld,roomy:=by rw [b.length_eq,em];exact hn }
theorem zS (R:oX w s.heap a L es ep t) {x:Addr} {k:NestedKey} (f:IsK s.heap k x) (Z:A.units+8<cLine) (room:L.length+1≤76) {Q:Bool→Shared→Prop}
  (C:∀ b h' L' es' F t',Heap.SameBut a s.heap h'→oX w h' a L' es' F t'→(k∈L.map Prod.snd→L'=L)→(k ∉ L.map Prod.snd→L'.Perm ((x,k)::L))→Q b { s with heap:=h' }) :
  wpAny (model P w) A (setAddHashed a (.ref x) (k.hash w)) Q E s:=by
 obtain ⟨o,j,hex,hd⟩:=R.obj
 have sz:=cq R.rows
 have rm:=R.roomy
 unfold setAddHashed
 refine wpAny_holding ?_
 rw [show (100000:Nat)=99999+1 from rfl,setAddHashedIn_succ]
 refine wpAny_bind (wpAny_setState_of j hd R.fits ?_)
 dsimp only
 refine wp_if_neg (by simp [byScan,Value.scannable]) ?_
 try refine wpAny_bind (wpAny_pure ?_)
 refine wpAny_bind (look R f Z (fun hm=>wpAny_pure (C false s.heap L es ep t (Heap.SameBut.refl a s.heap) R (fun _=>rfl) fun z=>absurd hm z)) fun N hm hK hb=>?_)
 dsimp only
 refine wpAny_bind (wpAny_setState_of j hd R.fits ?_)
 dsimp only
 obtain ⟨G,X,u,v,H,Y,_,_,l⟩:=R.tab.put hK hb
 rw [List.length_map] at X l
 have c:(t.put (way t.mask (k.hash w) N)).1.plain=true:=Y.trans R.pln
 generalize t.put (way t.mask (k.hash w) N)=pt at G u v H Y l c ⊢
 obtain ⟨t1,p⟩:=pt
 dsimp only at G u v H l c ⊢
 subst G
 first
  | refine wpAny_bind (wp_if_pos c (gB _ _ 8 _ f.1 f.2.1 f.2.2 _ _ _ ?_))
  | refine wp_if_pos c (wpAny_bind (gB _ _ 8 _ f.1 f.2.1 f.2.2 _ _ _ ?_))
 simp only [if_true]
 generalize SetTable.below t.place (way t.mask (k.hash w) N)=p at X u ⊢
 have pm:=put_perm L p (x,k)
 have r1:(SetTable.insertAt es p (k.hash w,Value.ref x)).toList=(L.take p++(x,k)::L.drop p).map (ui w):=by
  rw [SetTable.toList_insertAt,R.rows,List.map_append,List.map_cons,List.map_take,List.map_drop]
 have y:TabOk t1 (hsK w (L.take p++(x,k)::L.drop p)):=by
  have:hsK w (L.take p++(x,k)::L.drop p)=(hsK w L).take p++k.hash w::(hsK w L).drop p:=by
   unfold hsK
   rw [List.map_append,List.map_cons,List.map_take,List.map_drop]
  rw [this]
  exact u
 generalize L.take p++(x,k)::L.drop p=m at pm r1 y
 have len:m.length=L.length+1:=pm.length_eq
 have n:(m.map Prod.snd).Nodup:=(pm.map Prod.snd).nodup_iff.mpr (List.nodup_cons.mpr ⟨hm,R.nodup⟩)
 generalize SetTable.insertAt es p (k.hash w,Value.ref x)=d at r1 ⊢
 have I:d.size=L.length+1:=(cq r1).trans len
 refine wpAny_bind (wpAny_storeSet_of j hd ?_ (by rw [I,sizeLine_eq];omega))
 have sb:Heap.SameBut a s.heap (s.heap.update a (Obj.putSet d t1)):=Heap.SameBut.update ..
 have g:=store_at (es':=d) (t':=t1) j hd
 generalize s.heap.update a (Obj.putSet d t1)=B at sb g ⊢
 have q:∀ p∈m,IsK B p.2 p.1:=fun p J=>by
  rcases List.mem_cons.mp (pm.mem_iff.mp J) with rfl | J
  ·exact f.other j hd sb
  ·exact (R.keys p J).other j hd sb
 have r:w.params.followText "set-order" = true∨t1.led=true:=by rw [H];exact R.ledg
 by_cases hf:t1.tooFull=true
 ·first
   | refine wpAny_bind (wp_if_pos (by simp [hf]) ?_)
   | refine wp_if_pos (by simp [hf]) (wpAny_bind ?_)
  have full:(L.length+1)*5 ≥ t.mask*3:=by
   have h:=hf
   unfold SetTable.tooFull at h
   rw [decide_eq_true_eq,l,v] at h
   exact h
  rw [sz]
  have two:(t.mask=7∧L.length=4)∨(t.mask=31∧L.length=18):=by
   rcases R.tab.mok with e | e | e
   ·exact .inl ⟨e,by omega⟩
   ·exact .inr ⟨e,by omega⟩
   ·exfalso;omega
  have go:∀ M,SetTable.sizeAbove (SetTable.grown (L.length+1))-1=M→MaskOk M→SetTable.sizeAbove (SetTable.grown (L.length+1))≤128→(L.length+1)*5<M*3 →
    wpAny (model P w) A (setRelay a (SetTable.grown (L.length+1))) (fun _ s'=>wpAny (model P w) A (pure true) Q E s') E { s with heap:=B }:=fun M m1 m2 m3 m4 =>
   anew (s:={ s with heap:=B }) g ⟨hex.1,hex.2.1,hex.2.2⟩ rfl r1 (by have h:=y.sz;rwa [List.length_map] at h) y.dm (by rw [len,v];rcases two with ⟨e,i⟩ | ⟨e,i⟩<;>omega) n q c r m1 m2 m3 (by rw [len];exact m4)
    fun h2 L2 es2 K t2 O R2 V=>wpAny_pure (C true h2 L2 es2 K t2 (sb.trans O) R2 (fun z=>absurd z hm) fun _=>V.trans pm)
  rcases two with ⟨_,i⟩ | ⟨_,i⟩
  ·exact go 31 (by rw [i,size_20]) (.inr (.inl rfl)) (by rw [i,size_20];decide) (by omega)
  ·exact go 127 (by rw [i,size_76]) (.inr (.inr rfl)) (by rw [i,size_76];decide) (by omega)
 ·first
   | refine wp_if_neg (by simp [hf]) ?_
   | refine wpAny_bind (wp_if_neg (by simp [hf]) (wpAny_pure ?_))
  have free:m.length*5<t1.mask*3:=by
   have h:=hf
   unfold SetTable.tooFull at h
   rw [decide_eq_true_eq,l] at h
   rw [len]
   omega
  exact wpAny_pure (C true B m d (ep+1) t1 sb { obj:=⟨_,g,⟨hex.1,hex.2.1,hex.2.2⟩,rfl⟩,rows:=r1,tab:=y,nodup:=n,keys:=q,pln:=c,ledg:=r,roomy:=free } (fun z=>absurd z hm) fun _=>pm)
end
end Ev.Sn
namespace Ev.Sn
open PySem PySem.Spec PyProof.Rows L2
section
variable {K:Type} [DecidableEq K]
theorem qg {l:List K} {k:K} (h:k∈l):oneMore l k=l:=by
 unfold oneMore
 rw [if_pos (List.any_eq_true.mpr ⟨k,h,decide_eq_true rfl⟩)]
theorem mw {l:List K} {k:K} (h:k ∉ l):oneMore l k=l++[k]:=by
 unfold oneMore
 rw [if_neg]
 intro c
 obtain ⟨y,a,e⟩:=List.any_eq_true.mp c
 exact h (of_decide_eq_true e▸a)
theorem ya {d:Type} [DecidableEq d] {f:K→d} (hf:∀ a b,f a=f b→a=b) (l:List K):bf (l.map f)=(bf l).map f:=by
 unfold bf
 have:∀ (l acc:List K),(l.map f).foldl oneMore (acc.map f)=(l.foldl oneMore acc).map f:=fun l=>by
  induction l with
  | nil=>exact fun _=>rfl
  | cons k l ih =>
   intro acc
   have e:oneMore (acc.map f) (f k)=(oneMore acc k).map f:=by
    by_cases h:k∈acc
    ·rw [qg h,qg (List.mem_map.mpr ⟨k,h,rfl⟩)]
    ·rw [mw h,mw (fun c=>by
      obtain ⟨y,g,e⟩:=List.mem_map.mp c
      exact h (hf _ _ e▸g)),List.map_append]
     rfl
   rw [List.map_cons,List.foldl_cons,List.foldl_cons,e,ih]
 exact this l []
end
section
variable {P:Program} {w:World} {A:Around} {E:Value→Shared→Prop} {s:Shared}
structure Laid (w:World) (h0 h:Heap) (S:Addr) (ks:List (Addr × NestedKey)) (i:Nat) (L:List (Addr × NestedKey)) (es:Array (Int × Value)) (ep:Nat) (t:SetTable):Prop where
 set:oX w h S L es ep t
 pm:(L.map Prod.snd).Perm (bf ((ks.take i).map Prod.snd))
 old:∀ p∈L,IsK h0 p.2 p.1
theorem Laid.size {h0 h:Heap} {S:Addr} {ks:List (Addr × NestedKey)} {i:Nat} {L:List (Addr × NestedKey)} {es:Array (Int × Value)} {ep:Nat} {t:SetTable} (R:Laid w h0 h S ks i L es ep t):L.length=(bf ((ks.take i).map Prod.snd)).length:=by
 have:=R.pm.length_eq
 rwa [List.length_map] at this
theorem Laid.move {h0 h h':Heap} {S:Addr} {ks:List (Addr × NestedKey)} {i:Nat} {L:List (Addr × NestedKey)} {es:Array (Int × Value)} {ep:Nat} {t:SetTable} (R:Laid w h0 h S ks i L es ep t) (a:∀ o,h.get? S=some o→h'.get? S=some o) (hk:∀ b o,h0.get? b=some o→h'.get? b=some o):Laid w h0 h' S ks i L es ep t:=by
 obtain ⟨o,c,r⟩:=R.set.obj
 exact ⟨{ R.set with obj:=⟨o,a o c,r⟩,keys:=fun p d=>(R.old p d).keep hk },R.pm,R.old⟩
theorem Gg:w.params.followText "set-order" = true∨(SetTable.fresh 0 0 (!w.params.followText "set-order")).led=true:=by
 show _∨(!w.params.followText "set-order")=true
 cases w.params.followText "set-order" <;> simp
theorem blank {h0 h:Heap} {S:Addr} {ks:List (Addr × NestedKey)} (a:h.get? S=some { cls:=.type "set",dict:=none,data:=.set #[] 0 (.fresh 0 0 (!w.params.followText "set-order")) }):Laid w h0 h S ks 0 [] #[] 0 (.fresh 0 0 (!w.params.followText "set-order")) where
 set:={ obj:=⟨_,a,⟨rfl,rfl,rfl⟩,rfl⟩,rows:=rfl,tab:=⟨List.Pairwise.nil,rfl,rfl,.inl rfl,fun x b=>(by cases b),fun i h j hi=>(by simp at hi)⟩,nodup:=List.nodup_nil,keys:=(fun _ z=>nomatch z),pln:=rfl,ledg:=Gg,roomy:=(show 0*5<7*3 by omega) }
 pm:=.refl _
 old:=fun _ z=>nomatch z
theorem sO {I:Addr} {fp wr:List Addr} {G:Array GenState→Array GenState→Prop} {n:Nat} {Pv:Nat→Value→Prop} {St:Nat→Shared→Prop} {R:Result→Shared→Prop} (m:WalksS P w A.in1 I fp wr G n Pv St) (S:Addr) (r:S ∉ fp)
  (ks:List (Addr × NestedKey)) (hn:n=ks.length) (few:ks.length≤76) (u:∀ i v,Pv i v→∃ p,ks[i]?=some p∧v=.ref p.1) (h0:Heap) (hk:∀ p∈ks,IsK h0 p.2 p.1) (hS0:h0.get? S=none) (J:∀ b∈wr,h0.get? b=none) (X:A.in1.units+8<cLine) :
  ∀ (d i:Nat) (s:Shared),n-i=d→i≤n→St i s→(∀ b o,h0.get? b=some o→s.heap.get? b=some o)→(∃ L es ep t,Laid w h0 s.heap S ks i L es ep t) →
   (∀ a L es ep t,Moved (S::wr) G s a→Laid w h0 a.heap S ks n L es ep t→(∀ b o,h0.get? b=some o→a.heap.get? b=some o)→R (.ok (.ret .none)) a)→codeAny (model P w) A (.builtin "set.update.loop" ⟨[.ref S,.ref I],[]⟩) R s:=by
 have f:S ∉ wr:=fun h=>r (m.sub _ h)
 have more:∀ b∈wr,b∈S::wr:=fun b g=>List.mem_cons_of_mem _ g
 have on:∀ {s a:Shared},Moved wr G s a→(∀ b o,h0.get? b=some o→s.heap.get? b=some o)→∀ b o,h0.get? b=some o→a.heap.get? b=some o:=fun hm up b o e=>hm.heap b o (fun g=>nomatch (J b g).symm.trans e) (up b o e)
 intro d
 induction d with
 | zero =>
  intro i s hd hi st up ⟨L,es,ep,t,lay⟩ done
  obtain rfl:i=n:=by omega
  refine codeAny_builtin F.entry_set_update_loop ?_
  rw [Around.under_plainId F.plain_set_update_loop _]
  show wpAny _ A.in1 (pyNext (.ref I) >>= _) _ _ s
  refine wpAny_bind (m.done s _ _ st fun a hm=>?_)
  show wpAny _ A.in1 (ret Value.none) _ _ a
  exact wpAny_pure (done a L es ep t (hm.mono more) (lay.move (fun o e=>hm.heap S o f e) (on hm up)) (on hm up))
 | succ d ih =>
  intro i s hd hi st up ⟨L,es,ep,t,lay⟩ done
  have lt:i<n:=by omega
  refine codeAny_builtin F.entry_set_update_loop ?_
  rw [Around.under_plainId F.plain_set_update_loop _]
  show wpAny _ A.in1 (pyNext (.ref I) >>= _) _ _ s
  refine wpAny_bind (m.item i s _ _ lt st fun v a hP K hm=>?_)
  obtain ⟨p,Y,rfl⟩:=u i v hP
  have j:=on hm up
  have x:=lay.move (fun o e=>hm.heap S o f e) j
  have Z:=hk p (List.mem_of_getElem? Y)
  have l:IsK a.heap p.2 p.1:=Z.keep j
  have tk:(ks.take (i+1)).map Prod.snd=(ks.take i).map Prod.snd++[p.2]:=by
   rw [List.take_add_one,Y,List.map_append]
   rfl
  have y:L.length+1≤76:=by
   have h1:=lay.size
   have h2:=cZ ((ks.take i).map Prod.snd)
   rw [List.length_map,List.length_take] at h2
   omega
  show wpAny _ A.in1 (holding [Value.ref p.1] (setAdd S (.ref p.1)) >>= _) _ _ a
  refine wpAny_bind (wpAny_holding ?_)
  unfold setAdd
  refine wpAny_holding (wpAny_bind ((nestedKind P w).pyHash (k:=p.2) X ⟨l.1,l.2.1⟩ ?_))
  refine zS (s:={ a with toks:=a.toks+p.2.draws }) x.set l X y fun b h' L' es' M t' sb R2 c1 c2=>?_
  have N:(L'.map Prod.snd).Perm (bf ((ks.take (i+1)).map Prod.snd)):=by
   rw [tk,dA]
   by_cases c:p.2∈L.map Prod.snd
   ·rw [c1 c,qg (lay.pm.mem_iff.mp c)]
    exact lay.pm
   ·rw [mw fun z=>c (lay.pm.mem_iff.mpr z)]
    exact ((c2 c).map Prod.snd).trans ((lay.pm.cons p.2).trans (List.perm_append_singleton p.2 _).symm)
  have B:∀ q∈L',IsK h0 q.2 q.1:=fun q C=>by
   by_cases c:p.2∈L.map Prod.snd
   ·rw [c1 c] at C
    exact lay.old q C
   ·rcases List.mem_cons.mp ((c2 c).mem_iff.mp C) with rfl | C
    ·exact Z
    ·exact lay.old q C
  have O:∀ b o,h0.get? b=some o→h'.get? b=some o:=fun b o e=>(sb.2 b (fun z=>by rw [z,hS0] at e;cases e)).trans (j b o e)
  refine wpAny_pure ⟨plainId_quiet F.plain_set_update_loop _,ih (i+1) _ (by omega) lt (m.frame _ a _ _ K (Nat.le_add_right _ _) fun b g o e=>?_) O ⟨L',es',M,t',R2,N,B⟩ fun s2 L2 es2 Q t2 m2 H V=>?_⟩
  ·rw [sb.2 b fun z:b=S=>r (z▸g)]
   exact e
  ·refine done s2 L2 es2 Q t2 (Moved.trans m.gtrans ((hm.mono more).then_heap (Nat.le_add_right _ _) fun b o g e=>?_) m2) H V
   rw [sb.2 b fun z:b=S=>g (z▸List.mem_cons_self)]
   exact e
abbrev cK (w:World):Obj:={ cls:=.type "set",dict:=none,data:=.set #[] 0 (.fresh 0 0 (!w.params.followText "set-order")) }
theorem qU {l:Addr} {items:Array Value} (ks:List (Addr × NestedKey)) {Q:Value→Shared→Prop} (hh:A.handled=none) (hl:s.heap.IsList l items) (hit:items.toList=ks.map fun p=>Value.ref p.1)
  (hk:∀ p∈ks,IsK s.heap p.2 p.1) (few:ks.length≤76) (hu:A.units+11<cLine)
  (h:∀ (h':Heap) (tk:Nat) L es ep t,Laid w s.heap h' s.heap.objs.size ks ks.length L es ep t→(∀ b o,s.heap.get? b=some o→h'.get? b=some o)→Q (.ref s.heap.objs.size) { s with heap:=h',toks:=tk }) :
  wpAny (model P w) A (call (.type "set") [.ref l]) Q E s:=by
 have f:items.size=ks.length:=by rw [← Array.length_toList,hit,List.length_map]
 have out:∀ b,s.heap.objs.size≤b→s.heap.get? b=none:=fun b z=>by
  cases q:s.heap.get? b with
  | none=>rfl
  | some o=>exact absurd (Heap.lt_size q) (Nat.not_lt.mpr z)
 obtain ⟨c,tl,M⟩:=F.called_set.mro
 have B:=F.called_set.made
 have N:=F.called_set.sub
 refine wpAny_call (codeAny_of_tree ?_)
 show wpAny _ _ (callAny (.type "set") _) _ _ _
 refine wpAny_pure ⟨Code.quiet_builtin _ (by decide +kernel),codeAny_builtin F.entry_type_call ?_⟩
 rw [Around.under_plain (weight_type_call_type "set" [.ref l] []) rfl]
 have h1:=F.called_set.notType
 have h2:=F.called_set.canCreate
 have aa:=F.typeCall_set_1 (.ref l)
 repeat (any_goals (first | assumption | wp_step))
 refine codeAny_mono (code_set_led1 (.ref l) (E:=E) (Q₁:=fun obj O=>obj=.ref s.heap.objs.size∧O={ s with heap:=s.heap.push (cK w) }) ⟨rfl,rfl⟩) fun r O C=>?_
 cases r with
 | error e=>exact C
 | ok fl =>
  cases fl with
  | ret obj =>
   obtain ⟨rfl,rfl⟩:=C
   have V:(s.heap.push (cK w)).get? s.heap.objs.size=some (cK w):=Heap.get?_push_size _ rfl
   have hT:Shared.TypeIs { s with heap:=s.heap.push (cK w) } (.ref s.heap.objs.size) "set" := ⟨_,V,rfl⟩
   have ab:=F.called_set.init.lookup
   have ac:=F.called_set.init.bind (.ref s.heap.objs.size)
   repeat (any_goals (first | assumption | wp_step))
   refine codeAny_mono (codeAny_call_builtin (R:=wants (fun r s₂=>r=.none∧∃ h' tk L es ep t,s₂={ s with heap:=h',toks:=tk }∧Laid w s.heap h' s.heap.objs.size ks ks.length L es ep t ∧
     (∀ b o,s.heap.get? b=some o→h'.get? b=some o)) E) F.called_set.init.plain F.entry_set_init (check_set_init_1 hT ?_)) fun r₂ s₂ hr₂=>?_
   ·obtain ⟨ol,g,j,nl,k⟩:=hl
    obtain ⟨X,d,G,a⟩:=ol
    simp only at j k
    subst j;subst k
    have m:(s.heap.push (cK w)).get? l=some { cls:=.type "list",dict:=d,data:=.seq items nl,slots:=a }:=Heap.get?_push_of_some _ g
    have Y:=F.sub_list_set
    have Z:=F.sub_list_frozenset
    have ad:(Value.type "list" == Value.type "dict")=false:=by decide
    have n:(s.heap.push (cK w)).IsList l items:=⟨_,m,rfl,nl,rfl⟩
    unfold Builtin.«set.__init__» noKeywords Builtin.Frozenset.updateFrom
    generalize hPI:pyIter=PI
    wp_walk
    subst hPI
    refine wpAny_pyIter_list n ?_
    refine wpAny_bind (wpAny_runValue ?_)
    have u:l<s.heap.objs.size:=Heap.lt_size g
    have H:A.in1.in1.in1.handled=none:=by simp [hh]
    have x:l≠(s.heap.push (cK w)).objs.size:=by
     rw [Heap.size_push];exact Nat.ne_of_lt (Nat.lt_succ_of_lt u)
    have I:s.heap.objs.size ∉ [(s.heap.push (cK w)).objs.size,l]:=by
     rw [Heap.size_push];simp only [List.mem_cons,List.mem_singleton,List.not_mem_nil,or_false,not_or]
     exact ⟨Nat.ne_of_lt (Nat.lt_succ_self _),Nat.ne_of_gt u⟩
    have y:∀ (i:Nat) (v:Value),items[i]?=some v→∃ p,ks[i]?=some p∧v=.ref p.1:=fun i v hv=>by
     have q:items.toList[i]?=some v:=by rw [Array.getElem?_toList];exact hv
     rw [hit,List.getElem?_map] at q
     obtain ⟨p,hp,e⟩:=Option.map_eq_some_iff.mp q
     exact ⟨p,hp,e.symm⟩
    refine sO ((Walks.list H _ l x items).toS) s.heap.objs.size
     I ks f few y s.heap hk (out _ (Nat.le_refl _)) (fun b z=>out b (by
      rw [List.mem_singleton.mp z,Heap.size_push]
      exact Nat.le_succ _)) (by show A.units+3+8<cLine;omega) (items.size-0) 0 _ (by omega) (Nat.zero_le _)
     ⟨⟨_,Heap.get?_push_size _ rfl,rfl,rfl⟩,(n.push _)⟩ (fun b o e=>Heap.get?_push_of_some _ (Heap.get?_push_of_some _ e)) ?hS0 ?hR
    case hS0=>exact ⟨[],#[],0,_,blank (Heap.get?_push_of_some _ V)⟩
    case hR =>
     intro s' L es ep t hm lay up
     obtain ⟨h',g2,d',J,K⟩:=s'
     have eg:g2=s.gens:=hm.gens
     have ed:d'=s.drawn:=hm.drawn
     have eo:K=s.os:=hm.os
     subst eg;subst ed;subst eo
     show wpAny _ _ _ _ _ _
     refine wpAny_pure ?_
     show wpAny _ _ (ret Value.none) _ _ _
     rw [f] at lay
     exact wpAny_pure ⟨rfl,h',J,L,es,ep,t,rfl,lay,up⟩
   ·cases r₂ with
    | error e=>exact hr₂
    | ok fl₂ =>
     cases fl₂ with
     | ret r =>
      obtain ⟨rfl,h',tk,L,es,ep,t,rfl,lay,up⟩:=hr₂
      repeat (any_goals (first | assumption | wp_step))
      exact h _ _ _ _ _ _ lay up
     | _=>exact hr₂.elim
  | _=>exact C.elim
end
def xD (r:List Int):NestedKey:=.tup (r.map .num)
def tX (z:List (List Int)):NestedKey:=.tup (z.map xD)
theorem gE:∀ {a b:List Int},a.map NestedKey.num=b.map NestedKey.num→a=b
 | [],[],_=>rfl
 | [],_::_,e=>nomatch e
 | _::_,[],e=>nomatch e
 | x::a,y::b,e=>by
  simp only [List.map_cons,List.cons.injEq,NestedKey.num.injEq] at e
  rw [e.1,gE e.2]
theorem uJ (a b:List Int) (e:xD a=xD b):a=b:=by
 unfold xD at e
 rw [NestedKey.tup.injEq] at e
 exact gE e
theorem v7:∀ (a b:List (List Int)),tX a=tX b→a=b:=fun a b e=>by
 unfold tX at e
 rw [NestedKey.tup.injEq] at e
 induction a generalizing b with
 | nil =>
  cases b with
  | nil=>rfl
  | cons _ _=>cases e
 | cons x a ih =>
  cases b with
  | nil=>cases e
  | cons y b =>
   rw [List.map_cons,List.map_cons,List.cons.injEq] at e
   rw [uJ _ _ e.1,ih b e.2]
theorem ip:∀ r:List Int,NestedKey.depthAll (r.map .num)≤1
 | []=>by simp [NestedKey.depthAll]
 | x::r=>by
  have:=ip r
  simp only [List.map_cons,NestedKey.depthAll,NestedKey.depth]
  omega
theorem i7:∀ z:List (List Int),NestedKey.depthAll (z.map xD)≤2
 | []=>by simp [NestedKey.depthAll]
 | r::z=>by
  have a:=i7 z
  have b:=ip r
  simp only [List.map_cons,NestedKey.depthAll,xD,NestedKey.depth]
  omega
theorem BN (z:List (List Int)):wJ (tX z):=.tup fun k hk=>by
 obtain ⟨r,_,rfl⟩:=List.mem_map.mp hk
 exact .tup fun j a=>by
  obtain ⟨i,_,rfl⟩:=List.mem_map.mp a
  exact .num i
def dN (K:Frag) (H:Hp) (b:Addr) (z:List (List Int)):Prop:=∃ rs:List (Addr × List Int),SqT K H b (rs.map fun p=>V.ref p.1)∧rs.map Prod.snd=z∧∀ p∈rs,SqT K H p.1 (p.2.map V.int)
section
variable {X:Cx} {pins:List (Addr × Obj)} {σ:L2.St} {H:Hp} {s:Shared}
theorem n6 {h:Heap}:∀ {r:List Int} {us:List Value},Vals (r.map V.int) us→NestedAll h (r.map .num) us
 | [],_,.nil=>.nil
 | x::r,_,.cons e t=>by
  obtain ⟨tk,rfl⟩:=e
  exact .cons (.int x tk) (n6 t)
theorem nf (I:Inv X pins σ H s):∀ {rs:List (Addr × List Int)} {us:List Value},(∀ p∈rs,SqT X.K H p.1 (p.2.map V.int))→Vals (rs.map fun p=>V.ref p.1) us→NestedAll s.heap ((rs.map Prod.snd).map xD) us
 | [],_,_,.nil=>.nil
 | p::rs,_,q,.cons e t=>by
  cases e
  obtain ⟨its,r,⟨o,a,b,n,hd⟩,_⟩:=I.tuple (q p List.mem_cons_self)
  exact .cons (.tup a b hd (by simpa using n6 r)) (nf I (fun x c=>q x (List.mem_cons_of_mem _ c)) t)
theorem dN.raw (I:Inv X pins σ H s) {b:Addr} {z:List (List Int)} (h:dN X.K H b z):IsK s.heap (tX z) b:=by
 obtain ⟨rs,a,rfl,c⟩:=h
 obtain ⟨its,r,⟨o,d,e,n,hd⟩,_⟩:=I.tuple a
 have:=i7 (rs.map Prod.snd)
 exact ⟨.tup d e hd (by simpa using nf I c r),by simp only [tX,NestedKey.depth];omega,BN _⟩
def vb (K:Frag) (ta:TE):TE:=fun σ H Q=>ta σ H fun x H1=>∃ (l:Addr) (zs:List (Addr × List (List Int))),x=V.ref l∧SqL K H1 l (zs.map fun p=>V.ref p.1)∧(∀ p∈zs,dN K H1 p.1 p.2)∧zs.length≤76∧Q (.int (bf (zs.map Prod.snd)).length) H1
theorem n0:∀ {zs:List (Addr × List (List Int))} {us:List Value},Vals (zs.map fun p=>V.ref p.1) us→us=zs.map fun p=>Value.ref p.1
 | [],_,.nil=>rfl
 | p::zs,_,.cons e t=>by
  cases e
  rw [n0 t]
  rfl
theorem pA {a:Expr} {ta:TE} {p p2 q pos:Pos} (m:X.calm=true) (J:X.A.units+64<cLine) (hg:Gl X "len") (hm:X.mg "len" = none) (f:Gl X "set") (g:X.mg "set" = none) (ha:PE X a ta)
  (na:starEach [a] X.env=(false,eval a X.env)::starEach [] X.env:=by rfl):PE X (.Call (.Name "len" p) [.Call (.Name "set" p2) [a] [] q] [] pos) (vb X.K ta):=by
 refine ⟨fun pins s σ H Q I h=>?_⟩
 refine Call_ (ld_blt I hg hm PySem.boot_len ?_)
 refine PyProof.Rows.callWith_builtin1 (PyProof.Rows.args_cons ?_ rfl) rfl rfl
 refine Call_ (ld_blt I f g PyProof.Rows.boot_set ?_)
 refine PyProof.Rows.callWith_type1 (PyProof.Rows.args_cons (thn (ha.run pins s σ H _ I h) fun v s1 ⟨x,H1,d,r1,i⟩=>PyProof.Rows.args_nil ?_) na) na rfl
 obtain ⟨l,zs,rfl,n,u,few,i⟩:=i
 cases r1
 obtain ⟨its,r,pl,_⟩:=d.list n
 have c:(zs.map fun p=>(p.1,tX p.2)).length=zs.length:=List.length_map ..
 refine qU (zs.map fun p=>(p.1,tX p.2)) (d.ok.hd m) pl.isList (by rw [List.map_map];exact n0 r) (fun p y=>?_) (by rw [c];exact few) (by omega) fun h' tk L es ep t lay up=>?_
 ·obtain ⟨z,j,rfl⟩:=List.mem_map.mp y
  exact (u z j).raw d
 ·refine PyProof.Rows.args_nil ?_
  obtain ⟨o,B,hex,hd⟩:=lay.set.obj
  have C:Inv X pins σ H1 { s1 with heap:=h',toks:=tk }:=d.kept fun b o e=>up b o e
  have k:es.size=(bf (zs.map Prod.snd)).length:=by
   rw [cq lay.set.rows,lay.size,List.take_of_length_le (Nat.le_refl _),List.map_map]
   have:(zs.map (Prod.snd∘fun p=>(p.1,tX p.2)))=(zs.map Prod.snd).map tX:=by rw [List.map_map];rfl
   rw [this,ya v7,List.length_map]
  have F:=cZ (zs.map Prod.snd)
  rw [List.length_map] at F
  have G:=(show oX X.w ({ s1 with heap:=h',toks:=tk }:Shared).heap _ L es ep t from lay.set).fits
  exact call_len_set B hex hd G (by rw [k];omega) ⟨.int (bf (zs.map Prod.snd)).length,H1,C.tok _,⟨_,by rw [k]⟩,i⟩
end
end Ev.Sn
namespace Ev
open PySem PySem.Spec PyProof.Rows L2
def df (p:Nat × Nat):Prop:=p.1<64∧p.2<64
theorem qD {p q:Nat × Nat} (a:df p) (b:df q) (h:jT p=jT q):p=q:=by
 obtain ⟨x,y⟩:=p
 obtain ⟨u,v⟩:=q
 simp only [df,jT] at *
 have:x=u:=by omega
 have:y=v:=by omega
 subst x y
 rfl
theorem jW {p:Nat × Nat} (sp:df p):∀ {l:List (Nat × Nat)},(∀ q∈l,df q)→∀ {x},x∈wX p l ↔ x=p∨x∈l
 | [],_,x=>by simp [wX]
 | q::l,h,x=>by
  unfold wX
  split
  ·simp
  ·split
   ·rename_i e
    have e:=Nat.eq_of_beq_eq_true e
    have:=qD sp (h q (by simp)) e
    subst this
    simp
   ·simp only [List.mem_cons,jW sp (l:=l) (fun r a=>h r (by simp [a]))]
    constructor
    ·rintro (h | h | h)<;>simp [h]
    ·rintro (h | h | h)<;>simp [h]
theorem eN:∀ {l:List (Nat × Nat)},(∀ q∈l,df q)→∀ {x},x∈ik l ↔ x∈l
 | [],_,x=>by simp [ik]
 | p::l,h,x=>by
  have ih:=fun {x}=>eN (l:=l) (fun r a=>h r (by simp [a])) (x:=x)
  unfold ik
  rw [jW (h p (by simp)) (fun q b=>h q (List.mem_cons_of_mem _ (ih.mp b))),ih,List.mem_cons]
theorem qn {p:Nat × Nat} (sp:df p):∀ {l:List (Nat × Nat)},(∀ q∈l,df q)→l.Pairwise (fun a b=>jT a<jT b)→(wX p l).Pairwise (fun a b=>jT a<jT b)
 | [],_,_=>by simp [wX]
 | q::l,h,w=>by
  have e:=List.pairwise_cons.mp w
  unfold wX
  split
  ·rename_i lt
   have lt:=Nat.blt_eq.mp lt
   refine List.pairwise_cons.mpr ⟨fun r d=>?_,w⟩
   rcases List.mem_cons.mp d with rfl | d
   ·exact lt
   ·exact Nat.lt_trans lt (e.1 r d)
  ·rename_i nl
   split
   ·exact w
   ·rename_i ne
    refine List.pairwise_cons.mpr ⟨fun r d=>?_,qn sp (fun r d=>h r (by simp [d])) e.2⟩
    rcases (jW sp (fun r d=>h r (by simp [d]))).mp d with rfl | d
    ·have a:¬ jT r<jT q:=fun c=>nl (Nat.blt_eq.mpr c)
     have b:¬ jT r=jT q:=fun c=>ne (by rw [c];exact Nat.beq_refl _)
     omega
    ·exact e.1 r d
theorem oF:∀ {l:List (Nat × Nat)},(∀ q∈l,df q)→(ik l).Pairwise (fun a b=>jT a<jT b)
 | [],_=>.nil
 | p::l,h=>qn (h p (by simp)) (fun q d=>h q (List.mem_cons_of_mem _ ((eN fun r c=>h r (by simp [c])).mp d))) (oF fun r c=>h r (by simp [c]))
theorem lQ {α:Type} {f:α→Int}:∀ {a b:List α},a.Pairwise (fun x y=>f x<f y)→b.Pairwise (fun x y=>f x<f y)→(∀ x,x∈a ↔ x∈b)→a=b
 | [],[],_,_,_=>rfl
 | [],y::b,_,_,h=>absurd ((h y).mpr (by simp)) (by simp)
 | x::a,[],_,_,h=>absurd ((h x).mp (by simp)) (by simp)
 | x::a,y::b,p,q,h=>by
  have d:=List.pairwise_cons.mp p
  have g:=List.pairwise_cons.mp q
  have e:x=y:=by
   rcases List.mem_cons.mp ((h x).mp (by simp)) with e | e
   ·exact e
   ·rcases List.mem_cons.mp ((h y).mpr (by simp)) with i | i
    ·exact i.symm
    ·have:=g.1 x e
     have:=d.1 y i
     omega
  subst e
  congr 1
  refine lQ d.2 g.2 fun z=>⟨fun c=>?_,fun c=>?_⟩
  ·rcases List.mem_cons.mp ((h z).mp (by simp [c])) with e | e
   ·subst e;have:=d.1 z c;omega
   ·exact e
  ·rcases List.mem_cons.mp ((h z).mpr (by simp [c])) with e | e
   ·subst e;have:=g.1 z c;omega
   ·exact e
def gD (p:Nat × Nat):List Int:=[(p.1:Int),(p.2:Int)]
theorem dE (p:Nat × Nat):TS.code 64 (gD p)=(jT p:Nat):=by
 unfold gD jT
 rw [code_pair]
 omega
theorem ou:∀ {ds:List D} {ps:List (Nat × Nat)},pairsOf ds=some ps→(∀ q∈ps,df q)∧ds=ps.map pairD
 | [],ps,e=>by cases e;exact ⟨fun q h=>(by cases h),rfl⟩
 | d::ds,ps,e=>by
  unfold pairsOf at e
  split at e
  ·rename_i h;cases h
  ·rename_i x y ds' h
   cases h
   split at e
   ·rename_i c
    rw [Bool.and_eq_true,Nat.blt_eq,Nat.blt_eq] at c
    rw [Option.map_eq_some_iff] at e
    obtain ⟨i,g,rfl⟩:=e
    obtain ⟨a,b⟩:=ou g
    refine ⟨fun q f=>?_,by rw [b];rfl⟩
    rcases List.mem_cons.mp f with rfl | f
    ·exact c
    ·exact a q f
   ·cases e
  ·cases e
theorem th {ps:List (Nat × Nat)} {L:List (List Int)} (h:∀ q∈ps,df q) (nd:L.Nodup) (g:L.Pairwise fun a b=>TS.code 64 a≤TS.code 64 b) (hm:∀ x,x∈L ↔ x∈ps.map gD):L=(ik ps).map gD:=by
 have ci:∀ a∈L,∀ b∈L,TS.code 64 a=TS.code 64 b→a=b:=fun a ha b d e=>by
  obtain ⟨p,c,rfl⟩:=List.mem_map.mp ((hm a).mp ha)
  obtain ⟨q,i,rfl⟩:=List.mem_map.mp ((hm b).mp d)
  rw [dE,dE] at e
  rw [qD (h p c) (h q i) (by omega)]
 refine lQ (f:=TS.code 64) ?_ ?_ fun x=>?_
 ·have:=g.and nd
  refine List.Pairwise.imp_of_mem ?_ this
  intro a b ha d ⟨j,k⟩
  rcases Int.lt_or_eq_of_le j with h | h
  ·exact h
  ·exact absurd (ci a ha b d h) k
 ·rw [List.pairwise_map]
  refine (oF h).imp fun {a b} hab=>?_
  rw [dE,dE]
  omega
 ·rw [hm,List.mem_map,List.mem_map]
  constructor
  ·rintro ⟨p,c,rfl⟩
   exact ⟨p,(eN h).mpr c,rfl⟩
  ·rintro ⟨p,c,rfl⟩
   exact ⟨p,(eN h).mp c,rfl⟩
theorem oA:∀ ps:List (Nat × Nat),fzs (ps.map pairD)=true
 | []=>rfl
 | p::ps=>by
  simp only [List.map_cons,fzs,oA ps]
  rfl
section
variable {K:Frag} {X:Cx} {F H:Hp}
theorem nH:∀ {ps:List (Nat × Nat)} {vs:List V},RpL K F vs (ps.map pairD)→∃ ks:List (Addr × List Int),vs=ks.map (fun p=>V.ref p.1)∧ks.map Prod.snd=ps.map gD∧∀ p∈ks,SqT K F p.1 (p.2.map V.int)
 | [],_,h=>by cases h;exact ⟨[],rfl,rfl,fun p q=>by cases q⟩
 | p::ps,_,h=>by
  cases h with
  | cons r t =>
   obtain ⟨ks,c,d,e⟩:=nH t
   change Rp K F _ (.tup [.int p.1,.int p.2]) at r
   cases r with
   | tup q l =>
    rename_i a ws
    obtain ⟨rfl,_⟩:=l.ints (ns:=gD p) rfl
    refine ⟨(a,gD p)::ks,by rw [c];rfl,by rw [List.map_cons,d];rfl,fun x b=>?_⟩
    rcases List.mem_cons.mp b with rfl | b
    ·exact q
    ·exact e x b
theorem oj:∀ {L:List (Addr × List Int)} {a:List (Nat × Nat)},(∀ p∈L,SqT K F p.1 (p.2.map V.int))→L.map Prod.snd=a.map gD→RpL K F (L.map fun p=>V.ref p.1) (a.map pairD)
 | [],[],_,_=>.nil
 | [],q::a,_,e=>by simp at e
 | p::L,[],_,e=>by simp at e
 | p::L,q::a,h,e=>by
  simp only [List.map_cons,List.cons.injEq] at e
  refine .cons ?_ (oj (fun x b=>h x (by simp [b])) e.2)
  have:=h p (by simp)
  rw [e.1] at this
  exact .tup this (dz [(q.1:Int),(q.2:Int)])
theorem New.rh {a:Addr} {o:HO} (s:Same F H) (h:H a=none):New F H F (upd H a o) No where
 sub:=fun b o' e=>by
  have q:=s b o' e
  rw [upd_ne (ne_of_none q h)]
  exact q
 lt:=fun _ q=>q.elim
 ext:=⟨fun _ _ e=>e,fun _ _ e=>.inl e,fun b o' e _=>by rw [upd_ne (ne_of_none e h)];exact e,fun b e=>by
  by_cases c:b=a
  ·rw [c];exact h
  ·rw [upd_ne c] at e;exact e,fun b e=>e.elim⟩
theorem Goes.rh {d:D} {Q:VK} {a:Addr} {o:HO} (g:Goes X F H d Q) (s:Same F H) (h:H a=none):Goes X F (upd H a o) d Q :=
 fun v b c e f nw=>g v b c e f ⟨nw.sub,nw.lt,(New.rh s h).ext.trans nw.ext⟩
end
theorem vg {ds:List D} {d:D} (e:biD .sset ds=some d):∃ o xs,ds=[.lst o xs]∧xs.length≤60∧((∃ ps,pairsOf xs=some ps∧d=.lst true ((ik ps).map pairD))∨(∃ ns,intsOf xs=some ns∧d=.lst true ((hO ns).map D.int))∨∃ ss,strsOf xs=some ss∧d=.lst true ((tm (bf ss)).map D.str)):=by
 rcases ds with _ | ⟨x,_ | ⟨y,t⟩⟩
 ·simp [biD] at e
 ·cases x with
  | lst o xs =>
   have e:(match pairsOf xs with
    | some ps=>if Nat.ble xs.length 60 then some (D.lst true ((ik ps).map pairD)) else none
    | none=>match intsOf xs with
     | some ns=>if Nat.ble xs.length 60 then some (D.lst true ((hO ns).map D.int)) else none
     | none=>match strsOf xs with
      | some ss=>if Nat.ble xs.length 60 then some (D.lst true ((tm (bf ss)).map .str)) else none
      | none=>none)=some d:=e
   split at e
   ·rename_i ps h
    split at e
    ·rename_i c
     cases e
     exact ⟨o,xs,rfl,Nat.ble_eq.mp c,.inl ⟨ps,h,rfl⟩⟩
    ·cases e
   ·split at e
    ·rename_i ns h
     split at e
     ·rename_i c
      cases e
      exact ⟨o,xs,rfl,Nat.ble_eq.mp c,.inr (.inl ⟨ns,h,rfl⟩)⟩
     ·cases e
    ·split at e
     ·rename_i ss h
      split at e
      ·rename_i c
       cases e
       exact ⟨o,xs,rfl,Nat.ble_eq.mp c,.inr (.inr ⟨ss,h,rfl⟩)⟩
      ·cases e
     ·cases e
  | _=>simp [biD] at e
 ·cases x<;>simp [biD] at e
theorem jE {k:Int}:∀ {l:List Int} {x:Int},x∈wy k l ↔ x=k∨x∈l
 | [],x=>by simp [wy]
 | q::l,x=>by
  unfold wy
  split
  ·simp
  ·split
   ·rename_i h
    have h:=of_decide_eq_true h
    subst h
    simp
   ·rw [List.mem_cons,jE,List.mem_cons]
    constructor
    ·rintro (h | h | h)
     ·exact .inr (.inl h)
     ·exact .inl h
     ·exact .inr (.inr h)
    ·rintro (h | h | h)
     ·exact .inr (.inl h)
     ·exact .inl h
     ·exact .inr (.inr h)
theorem kO:∀ {l:List Int} {x:Int},x∈hO l ↔ x∈l
 | [],x=>by simp [hO]
 | k::l,x=>by
  unfold hO
  rw [jE,kO,List.mem_cons]
theorem qk {k:Int}:∀ {l:List Int},l.Pairwise (·<·)→(wy k l).Pairwise (·<·)
 | [],_=>by simp [wy]
 | q::l,h=>by
  unfold wy
  have h':=List.pairwise_cons.mp h
  split
  ·rename_i c
   have c:=of_decide_eq_true c
   refine List.pairwise_cons.mpr ⟨fun x a=>?_,h⟩
   rcases List.mem_cons.mp a with rfl | a
   ·exact c
   ·exact Int.lt_trans c (h'.1 x a)
  ·split
   ·exact h
   ·rename_i c1 c2
    have c1:¬ k<q:=by simpa using c1
    have c2:¬ k=q:=by simpa using c2
    refine List.pairwise_cons.mpr ⟨fun x a=>?_,qk h'.2⟩
    rcases jE.mp a with rfl | a
    ·omega
    ·exact h'.1 x a
theorem mR:∀ {l:List Int},(hO l).Pairwise (·<·)
 | []=>by simp [hO]
 | k::l=>qk mR
theorem iM:∀ {l:List Int},gh l=true ↔ l.Nodup
 | []=>by simp [gh]
 | k::l=>by
  unfold gh
  rw [Bool.and_eq_true,iM,List.nodup_cons]
  simp
theorem kB {K:Type} [DecidableEq K]:∀ (l acc:List K),(acc++l).Nodup→l.foldl oneMore acc=acc++l
 | [],acc,_=>by simp
 | k::l,acc,h=>by
  have e:oneMore acc k=acc++[k]:=by
   unfold oneMore
   rw [if_neg]
   intro a
   obtain ⟨y,b,e⟩:=List.any_eq_true.mp a
   have e:=of_decide_eq_true e
   subst e
   exact (List.nodup_append.mp h).2.2 y b y (by simp) rfl
  rw [List.foldl_cons,e,kB l _ (by simpa using h)]
  simp
theorem iZ:∀ {xs:List D} {ns:List Int},intsOf xs=some ns→xs.length=ns.length
 | [],ns,h=>by cases h;rfl
 | x::xs,ns,h=>by
  cases x with
  | int i =>
   have h:(intsOf xs).map (i::·)=some ns:=h
   cases a:intsOf xs with
   | none=>rw [a] at h;cases h
   | some ms =>
    rw [a] at h
    cases h
    simp only [List.length_cons,iZ a]
  | _=>cases h
theorem jB:∀ {xs:List D} {ns:List Str},strsOf xs=some ns→xs.length=ns.length
 | [],ns,h=>by cases h;rfl
 | x::xs,ns,h=>by
  cases x with
  | str i =>
   have h:(strsOf xs).map (i::·)=some ns:=h
   cases a:strsOf xs with
   | none=>rw [a] at h;cases h
   | some ms =>
    rw [a] at h
    cases h
    simp only [List.length_cons,jB a]
  | _=>cases h
theorem tE {d:D} {r:List Int} (e:qi d=some r):D.fz d=true:=by
 cases d with
 | tup xs=>exact (show D.fz (.tup xs)=fzs xs from by simp only [D.fz]).trans (cR e)
 | _=>cases e
theorem jj:∀ {ds:List D} {z:List (List Int)},di ds=some z→fzs ds=true
 | [],_,_=>rfl
 | d::ds,z,e=>by
  unfold di at e
  split at e
  ·rename_i r h
   obtain ⟨b,a,rfl⟩:=Option.map_eq_some_iff.mp e
   simp only [fzs,tE h,jj a,Bool.and_self]
  ·cases e
theorem r9 {d:D} {r:List (List Int)} (e:tG d=some r):D.fz d=true:=by
 cases d with
 | tup xs=>exact (show D.fz (.tup xs)=fzs xs from by simp only [D.fz]).trans (jj e)
 | _=>cases e
theorem iA:∀ {ds:List D} {z:List (List (List Int))},cA ds=some z→fzs ds=true
 | [],_,_=>rfl
 | d::ds,z,e=>by
  unfold cA at e
  split at e
  ·rename_i r h
   obtain ⟨b,a,rfl⟩:=Option.map_eq_some_iff.mp e
   simp only [fzs,r9 h,iA a,Bool.and_self]
  ·cases e
theorem Sn.dN.move {K:Frag} {F F':Hp} (s:Same F F') {b:Addr} {z:List (List Int)} (h:Sn.dN K F b z):Sn.dN K F' b z:=by
 obtain ⟨rs,a,c,d⟩:=h
 exact ⟨rs,aa s a,c,fun p e=>aa s (d p e)⟩
theorem iN {K:Frag} {F:Hp}:∀ {ds:List D} {z:List (List Int)} {vs:List V},RpL K F vs ds→di ds=some z→∃ rs:List (Addr × List Int),vs=rs.map (fun p=>V.ref p.1)∧rs.map Prod.snd=z∧∀ p∈rs,SqT K F p.1 (p.2.map V.int)
 | [],z,_,h,e=>by
  cases h
  cases e
  exact ⟨[],rfl,rfl,fun p q=>by cases q⟩
 | d::ds,z,_,h,e=>by
  unfold di at e
  split at e
  ·rename_i r c
   obtain ⟨g,f,rfl⟩:=Option.map_eq_some_iff.mp e
   cases h with
   | cons q t =>
    obtain ⟨rs,k1,k2,k3⟩:=iN t f
    cases d with
    | tup xs =>
     cases q with
     | tup q l =>
      rename_i a ws
      obtain ⟨rfl,_⟩:=l.ints (ns:=r) c
      refine ⟨(a,r)::rs,by rw [k1];rfl,by rw [List.map_cons,k2],fun x b=>?_⟩
      rcases List.mem_cons.mp b with rfl | b
      ·exact q
      ·exact k3 x b
    | _=>cases c
  ·cases e
theorem iq {K:Frag} {F:Hp}:∀ {ds:List D} {z:List (List (List Int))} {vs:List V},RpL K F vs ds→cA ds=some z→∃ ks:List (Addr × List (List Int)),vs=ks.map (fun p=>V.ref p.1)∧ks.map Prod.snd=z∧∀ p∈ks,Sn.dN K F p.1 p.2
 | [],z,_,h,e=>by
  cases h
  cases e
  exact ⟨[],rfl,rfl,fun p q=>by cases q⟩
 | d::ds,z,_,h,e=>by
  unfold cA at e
  split at e
  ·rename_i r c
   obtain ⟨i,f,rfl⟩:=Option.map_eq_some_iff.mp e
   cases h with
   | cons q t =>
    obtain ⟨ks,k1,k2,k3⟩:=iq t f
    cases d with
    | tup xs =>
     cases q with
     | tup q l =>
      rename_i a ws
      obtain ⟨rs,rfl,g,m3⟩:=iN l c
      refine ⟨(a,r)::ks,by rw [k1];rfl,by rw [List.map_cons,k2],fun x b=>?_⟩
      rcases List.mem_cons.mp b with rfl | b
      ·exact ⟨rs,q,g,m3⟩
      ·exact k3 x b
    | _=>cases c
  ·cases e
theorem uf {ds:List D} {d:D} (e:biD .lset ds=some d):∃ o xs,ds=[.lst o xs]∧((xs.length≤60∧((∃ ns,intsOf xs=some ns∧d=.int (bf ns).length)∨∃ ss,strsOf xs=some ss∧d=.int (bf ss).length))∨(xs.length≤76∧∃ zs,cA xs=some zs∧d=.int (bf zs).length)):=by
 rcases ds with _ | ⟨x,_ | ⟨y,t⟩⟩
 ·simp [biD] at e
 ·cases x with
  | lst o xs =>
   have e:(match intsOf xs with
    | some ns=>if gh ns&&Nat.ble xs.length 60 then some (D.int xs.length) else if Nat.ble xs.length 60 then some (D.int (bf ns).length) else none
    | none=>match strsOf xs with
     | some ss=>if Nat.ble xs.length 60 then some (D.int (bf ss).length) else none
     | none=>match cA xs with
      | some zs=>if Nat.ble xs.length 76 then some (D.int (bf zs).length) else none
      | none=>none)=some d:=e
   split at e
   ·rename_i ns h
    split at e
    ·rename_i c
     cases e
     rw [Bool.and_eq_true] at c
     have ln:xs.length=ns.length:=iZ h
     have a:bf ns=ns:=kB ns [] (by simpa using iM.mp c.1)
     exact ⟨o,xs,rfl,.inl ⟨Nat.ble_eq.mp c.2,.inl ⟨ns,h,by rw [a,ln]⟩⟩⟩
    ·split at e
     ·rename_i c
      cases e
      exact ⟨o,xs,rfl,.inl ⟨Nat.ble_eq.mp c,.inl ⟨ns,h,rfl⟩⟩⟩
     ·cases e
   ·split at e
    ·rename_i ss h
     split at e
     ·rename_i c
      cases e
      exact ⟨o,xs,rfl,.inl ⟨Nat.ble_eq.mp c,.inr ⟨ss,h,rfl⟩⟩⟩
     ·cases e
    ·split at e
     ·rename_i zs h
      split at e
      ·rename_i c
       cases e
       exact ⟨o,xs,rfl,.inr ⟨Nat.ble_eq.mp c,zs,h,rfl⟩⟩
      ·cases e
     ·cases e
  | _=>simp [biD] at e
 ·cases x<;>simp [biD] at e
section
variable {C:Ctx} {X:Cx} {c:Cxt} {n m:Nat} {σ:L2.St} {δ δ':Dl} {F H:Hp} {W:Fp} {a:A} {Q:VK}
theorem zY (ih:SAs C n) (ok:XOk C X c) (a:c.cm=true) {es:List E} {y:Expr} {p0 p1 p2 pos:Pos} {as:List A} {ds:List D} {d:D} (gl:glB c "sorted" = true) (I:glB c "set" = true) (J:mEs m c es [y]=true) (t:noStar [y]=true) (s:SOk X.K F H σ δ W)
  (M:aL C n es δ=some (as,δ')) (N:looks δ' as=some ds) (Y:biD .sset ds=some d) (k:af X F H W σ δ' (.tmp d) Q):tW X (.Call (.Name "sorted" p0) [.Call (.Name "set" p1) [y] [] p2] [] pos) σ H Q:=by
 obtain ⟨o,xs,rfl,Z,hd⟩:=vg Y
 rcases hd with ⟨ps,ep,rfl⟩ | ⟨ns,ep,rfl⟩ | ⟨ss,ep,rfl⟩
 ·have go:=ih ok J s M (Q:=fun vs H1=>rSetOfT X.K X.prog X.w vs H1 fun x g=>rSortedT X.K X.prog X.w [x] g Q) fun vs F' H' W' Wt p h=>by
   have B:=h.looks p.ok N
   obtain ⟨x,rfl,u⟩:=B.one
   obtain ⟨l,vs,rfl,G,ln,r⟩:=u.lst p.ok.sub
   obtain ⟨sm,rfl⟩:=ou ep
   obtain ⟨ks,rfl,k2,k3⟩:=nH (r (oA ps))
   have kl:ks.length≤60:=by
    rw [List.length_map] at ln
    omega
   refine ⟨l,ks,rfl,SqL.of G,fun q i=>aa p.ok.sub (k3 q i),by omega,fun b L v sub all=>?_⟩
   have s2:Same F' (upd H' b (SetTO X.prog X.w b L)):=(New.rh p.ok.sub v).sub
   refine ⟨b,L,2,64,rfl,upd_same ..,fun q i=>aa s2 (k3 q (sub q i)),by omega,fun q i=>?_,fun L' cc pm nd ln O hc=>?_⟩
   ·have:q.2∈ps.map gD:=by rw [← k2];exact List.mem_map.mpr ⟨q,sub q i,rfl⟩
    obtain ⟨w,hw,e⟩:=List.mem_map.mp this
    rw [← e]
    refine ⟨rfl,fun z hz=>?_⟩
    have:=sm w hw
    simp only [df] at this
    simp only [gD,List.mem_cons,List.not_mem_nil,or_false] at hz
    omega
   ·have P:L'.map Prod.snd=(ik ps).map gD:=th sm nd (List.pairwise_map.mpr O) fun x=>by
     rw [← k2]
     constructor
     ·intro u
      obtain ⟨q,i,rfl⟩:=List.mem_map.mp u
      exact List.mem_map.mpr ⟨q,sub q (pm.subset i),rfl⟩
     ·intro u
      obtain ⟨q,i,rfl⟩:=List.mem_map.mp u
      obtain ⟨q',R,e⟩:=List.mem_map.mp (all q i)
      exact List.mem_map.mpr ⟨q',pm.symm.subset R,e⟩
    exact ((k.goes p).rh p.ok.sub v).list s2 hc (oj (fun q i=>k3 q (sub q (pm.subset i))) P)
  have hu:=ok.units
  have inner:tW X (.Call (.Name "set" p1) [y] [] p2) σ H (fun x g=>rSortedT X.K X.prog X.w [x] g Q) :=
   aw (pe_callTy (cr_setOfT (ok.calm a) (by omega)) (ok.gl I) (ok.blt _ (by decide)) (by decide +kernel) (av t) (by decide) (by decide +kernel) (ah _ t) (ao _ _ (aj t))) go
  exact aw (pe_callB (cr_sortedT (ok.calm a)) (ok.gl gl) (ok.blt _ (by decide)) (by decide +kernel) (av (es:=[.Call (.Name "set" p1) [y] [] p2]) rfl) (by decide) (by decide +kernel) (ah _ rfl) (ao _ _ rfl)) inner
 ·have go:=ih ok J s M (Q:=fun vs H1=>qE X.K X.w vs H1 fun x g=>rSortedSet X.w [x] g Q) fun vs F' H' W' Wt p h=>by
   have B:=h.looks p.ok N
   obtain ⟨x,rfl,u⟩:=B.one
   obtain ⟨l,vs,rfl,G,ln,r⟩:=u.lst p.ok.sub
   obtain ⟨rfl,rfl⟩:=(r (cR ep)).ints ep
   rw [List.length_map] at Z
   refine ⟨l,ns,rfl,SqL.of G,by omega,fun b cc v ab=>?_⟩
   have s2:Same F' (upd H' b (SetO X.w b (fun j=>decide (j∈ns)) cc)):=(New.rh p.ok.sub v).sub
   refine ⟨b,_,cc,rfl,upd_same ..,by omega,fun L' pp O mem ac V=>?_⟩
   have P:L'=hO ns:=lQ (f:=fun z:Int=>z) O mR fun z=>by
    rw [mem,kO,decide_eq_true_iff]
   subst P
   exact ((k.goes p).rh p.ok.sub v).list s2 V (dz _)
  have inner:tW X (.Call (.Name "set" p1) [y] [] p2) σ H (fun x g=>rSortedSet X.w [x] g Q) :=
   aw (pe_callTy (rC (ok.calm a)) (ok.gl I) (ok.blt _ (by decide)) (by decide +kernel) (av t) (by decide) (by decide +kernel) (ah _ t) (ao _ _ (aj t))) go
  exact aw (pe_callB (cr_sortedSet (ok.calm a)) (ok.gl gl) (ok.blt _ (by decide)) (by decide +kernel) (av (es:=[.Call (.Name "set" p1) [y] [] p2]) rfl) (by decide) (by decide +kernel) (ah _ rfl) (ao _ _ rfl)) inner
 ·have go:=ih ok J s M (Q:=fun vs H1=>Sb.qm X.K X.prog X.w vs H1 fun x g=>Sb.dX X.prog X.w [x] g Q) fun vs F' H' W' Wt p h=>by
   have B:=h.looks p.ok N
   obtain ⟨x,rfl,u⟩:=B.one
   obtain ⟨l,vs,rfl,G,ln,r⟩:=u.lst p.ok.sub
   obtain rfl:=gN (r (dt ep)) ep
   have sl:xs.length=ss.length:=jB ep
   refine ⟨l,ss,rfl,SqL.of G,by omega,fun b v=>?_⟩
   have ml:=cZ ss
   refine ⟨b,_,bf ss,rfl,upd_same ..,Sb.o9 ss,fun k=>?_,by omega,fun ys p' pm so V=>?_⟩
   ·rw [List.any_eq_true]
    exact ⟨fun ⟨y,hy,e⟩=>of_decide_eq_true e▸hy,fun hk=>⟨k,hk,by simp⟩⟩
   ·rw [Sb.mZ pm so]
    exact ((k.goes p).rh p.ok.sub v).list (New.rh p.ok.sub v).sub V (jN _)
  have inner:tW X (.Call (.Name "set" p1) [y] [] p2) σ H (fun x g=>Sb.dX X.prog X.w [x] g Q) :=
   aw (pe_callTy (Sb.sk (ok.calm a)) (ok.gl I) (ok.blt _ (by decide)) (by decide +kernel) (av t) (by decide) (by decide +kernel) (ah _ t) (ao _ _ (aj t))) go
  exact aw (pe_callB (Sb.jA (ok.calm a)) (ok.gl gl) (ok.blt _ (by decide)) (by decide +kernel) (av (es:=[.Call (.Name "set" p1) [y] [] p2]) rfl) (by decide) (by decide +kernel) (ah _ rfl) (ao _ _ rfl)) inner
theorem Bq (ih:SAs C n) (ok:XOk C X c) (a:c.cm=true) {es:List E} {y:Expr} {p0 p1 p2 pos:Pos} {as:List A} {ds:List D} {d:D} (gl:glB c "len" = true) (i:glB c "set" = true) (j:mEs m c es [y]=true) (t:noStar [y]=true) (s:SOk X.K F H σ δ W)
  (u:aL C n es δ=some (as,δ')) (w:looks δ' as=some ds) (B:biD .lset ds=some d) (k:af X F H W σ δ' (.tmp d) Q):tW X (.Call (.Name "len" p0) [.Call (.Name "set" p1) [y] [] p2] [] pos) σ H Q:=by
 obtain ⟨o,xs,rfl,⟨z,hd⟩ | ⟨z,zs,ep,rfl⟩⟩:=uf B
 rotate_left
 ·have go:=ih ok j s u (Q:=fun vs H1=>∃ (l:Addr) (ks:List (Addr × List (List Int))),vs=[V.ref l]∧SqL X.K H1 l (ks.map fun p=>V.ref p.1)∧(∀ p∈ks,Sn.dN X.K H1 p.1 p.2)∧ks.length≤76∧Q (.int (bf (ks.map Prod.snd)).length) H1) fun vs F' H' W' Wt p h=>by
   have f:=h.looks p.ok w
   obtain ⟨x,rfl,g⟩:=f.one
   obtain ⟨l,vs,rfl,b,ln,r⟩:=g.lst p.ok.sub
   obtain ⟨ks,rfl,k2,k3⟩:=iq (r (iA ep)) ep
   have G:ks.length≤76:=by
    rw [List.length_map] at ln
    omega
   refine ⟨l,ks,rfl,SqL.of b,fun q I=>Sn.dN.move p.ok.sub (k3 q I),G,?_⟩
   rw [k2]
   exact (k.goes p).atom p.ok.sub (.int _)
  have go2:tW X y σ H fun v H1=>∃ (l:Addr) (ks:List (Addr × List (List Int))),[v]=[V.ref l]∧SqL X.K H1 l (ks.map fun p=>V.ref p.1)∧(∀ p∈ks,Sn.dN X.K H1 p.1 p.2)∧ks.length≤76∧Q (.int (bf (ks.map Prod.snd)).length) H1:=go
  have J:=ok.units
  exact aw (Sn.pA (ta:=tW X y) (ok.calm a) (by omega) (ok.gl gl) (ok.blt _ (by decide)) (ok.gl i) (ok.blt _ (by decide)) aq (ah _ t)) (ay go2 fun v H1 ⟨l,ks,e,r⟩=>⟨l,ks,by injection e,r⟩)
 have go:=ih ok j s u (Q:=fun vs H1=>∃ l,vs=[V.ref l]∧((∃ ns:List Int,SqL X.K H1 l (ns.map V.int)∧ns.length<64∧Q (.int (bf ns).length) H1)∨∃ ss:List Str,SqL X.K H1 l (ss.map V.str)∧ss.length<64∧Q (.int (bf ss).length) H1)) fun vs F' H' W' Wt p h=>by
  have f:=h.looks p.ok w
  obtain ⟨x,rfl,g⟩:=f.one
  obtain ⟨l,vs,rfl,b,ln,r⟩:=g.lst p.ok.sub
  rcases hd with ⟨ns,ep,rfl⟩ | ⟨ss,ep,rfl⟩
  ·obtain ⟨rfl,rfl⟩:=(r (cR ep)).ints ep
   rw [List.length_map] at z
   exact ⟨l,rfl,.inl ⟨ns,SqL.of b,by omega,(k.goes p).atom p.ok.sub (.int _)⟩⟩
  ·obtain rfl:=gN (r (dt ep)) ep
   have sl:xs.length=ss.length:=jB ep
   exact ⟨l,rfl,.inr ⟨ss,SqL.of b,by omega,(k.goes p).atom p.ok.sub (.int _)⟩⟩
 have go2:tW X y σ H fun v H1=>∃ l,[v]=[V.ref l]∧((∃ ns:List Int,SqL X.K H1 l (ns.map V.int)∧ns.length<64∧Q (.int (bf ns).length) H1)∨∃ ss:List Str,SqL X.K H1 l (ss.map V.str)∧ss.length<64∧Q (.int (bf ss).length) H1):=go
 exact aw (pD (ta:=tW X y) (ok.calm a) (ok.gl gl) (ok.blt _ (by decide)) (ok.gl i) (ok.blt _ (by decide)) aq (ah _ t)) (ay go2 fun v H1 ⟨l,e,r⟩=>⟨l,by injection e,r⟩)
end
end Ev
namespace Ob
open PySem PySem.Spec PyProof.Rows L2 Ev
section
variable {X:Cx} {C fi fl:Addr} {k:Nat}
theorem Bm {a dx t:Addr} {ws:List V} {H:Hp} {Q:VK} (b:ItS X.K C fi fl) (c:FnR X.prog X.w X.K X.mg X.base CX0 k fl (pQ X.K C)) (d:Room (k+1) X.A)
  (hs:SlX.Slt H a C dx [some (.ref t)]) (ht:SqT X.K H t ws) (e:ws.length≤sizeLine) (q:Q (.int (ws.length:Nat)) H):cW X (.builtin "len") [.ref a] H Q:=by
 intro pins s σ us I f
 obtain ⟨u,rfl,g⟩:=f.one
 cases g
 have sb:Sub X (k+1) X.A:=⟨d,rfl⟩
 have s2:=Sub.in1 sb
 exact wM (k:=k) b c s2.room s2.fr I hs ht e fun tk i h=>⟨.int (ws.length:Nat),H,h,⟨tk,rfl⟩,q⟩
end
end Ob
namespace Ob
open PySem PySem.Spec PyProof.Rows L2 Ev
theorem oO {o:Expr} {m:Str} {c a:Pos} {xs:List Expr} {env:Env} (e:attributeBase o m env (eval o env)=eval o env) (hn:(c.endLine==a.line)=true) (ns:noStar xs=true) (l:xs.length<20):eval (.Call (.Attribute o m c) xs [] a) env=(do
   let d ← eval o env
   standAt c.atName
   let (f,first) ← holding [d] (getMethod d m (do return (← importBound o env).getD true))
   callWith a f first (backTo a (starEach xs env)) (backToKw a (keywordEach [] env))):=by
 have b:methodCallForm (xs.length+([]:List Keyword).length) (backTo a (starEach xs env)) (backToKw a (keywordEach [] env))=true:=qu env a ns l
 rw [arm_eval_Call]
 unfold methodCall calleeOf methodCallPos
 simp only [b,hn,e,if_true,Bool.not_true,Bool.or_true]
 rfl
theorem gO {o:Expr} (h:kU o=true) (m:Str) (env:Env) (w:Sem Value):attributeBase o m env w=w:=by
 unfold kU at h
 split at h
 ·rfl
 ·rename_i f y ys kws p
  cases f<;>rfl
 iterate 4(·rfl)
 ·cases h
end Ob
namespace Ev
open PySem PySem.Spec PyProof.Rows L2
theorem bg {K:Frag} {cn:Str} {C a:Addr} (h:nsIn K mainGlobals cn=some (some (.ref C))) (h':nsIn K mainGlobals cn=some (some (.ref a))):C=a:=by
 rw [h] at h'
 cases h'
 rfl
section
variable {C:Ctx} {X:Cx} {c:Cxt} {n m:Nat} {σ:L2.St} {δ δ':Dl} {F H:Hp} {W:Fp} {a:A} {Q:VK}
theorem DL (ih:SE C n) (ok:XOk C X c) {j:E} {cn nm:Str} {i:Nat} {x:Expr} (hm:mE (m+1) c (.fld j cn nm i) x=true) (s:SOk X.K F H σ δ W) (he:evE C (n+1) (.fld j cn nm i) δ=some (a,δ')) (k:af X F H W σ δ' a Q):tW X x σ H Q:=by
 unfold mE at hm
 simp only at hm
 split at hm
 ·rename_i y p f pos
  simp only [Bool.and_eq_true] at hm
  obtain ⟨⟨w,e⟩,u⟩:=hm
  cases ak w
  have e:=of_decide_eq_true e
  unfold evE at he
  simp only at he
  split at he
  ·rename_i x0 δ1 j
   split at he
   ·rename_i cn' xs o
    split at he
    ·rename_i b
     have b:=of_decide_eq_true b
     subst b
     split at he
     ·rename_i d q
      cases he
      obtain ⟨Ca,t,sc,z,s1⟩:=ok.sl _ _ _ e
      refine aw (SlX.pe_sl aq) (ih ok u s j fun v F' H' W' Wt p h=>?_)
      obtain ⟨B,G,dx,vs,rfl,hn,hs,_,l⟩:=(h.look p.ok o).obj
      cases bg t hn
      obtain ⟨v,g,r⟩:=l.get q
      exact ⟨_,_,_,_,_,_,v,rfl,bW p.ok.sub hs,sc,s1,by simp [g],k.atom p r⟩
     ·cases he
    ·cases he
   ·rename_i cn' xs o
    split at he
    ·rename_i b
     have b:=of_decide_eq_true b
     subst b
     split at he
     ·rename_i d q
      cases he
      obtain ⟨Ca,t,sc,z,s1⟩:=ok.sl _ _ _ e
      refine aw (SlX.pe_sl aq) (ih ok u s j fun v F' H' W' Wt p h=>?_)
      obtain ⟨B,G,dx,vs,rfl,hn,hs,_,l⟩:=(h.look p.ok o).mob
      cases bg t hn
      obtain ⟨v,g,r⟩:=l.get q
      exact ⟨_,_,_,_,_,_,v,rfl,hs,sc,s1,by simp [g],k.atom p r⟩
     ·cases he
    ·cases he
   ·cases he
  ·cases he
 ·rename_i I m0 p0 ys kws p f pos
  simp only [Bool.and_eq_true] at hm
  obtain ⟨⟨w,e⟩,u⟩:=hm
  cases ak w
  have e:=of_decide_eq_true e
  unfold evE at he
  simp only at he
  split at he
  ·rename_i x0 δ1 j
   split at he
   ·rename_i cn' xs o
    split at he
    ·rename_i b
     have b:=of_decide_eq_true b
     subst b
     split at he
     ·rename_i d q
      cases he
      obtain ⟨Ca,t,sc,z,s1⟩:=ok.sl _ _ _ e
      refine aw (SlX.pe_sl aq) (ih ok u s j fun v F' H' W' Wt p h=>?_)
      obtain ⟨B,G,dx,vs,rfl,hn,hs,_,l⟩:=(h.look p.ok o).obj
      cases bg t hn
      obtain ⟨v,g,r⟩:=l.get q
      exact ⟨_,_,_,_,_,_,v,rfl,bW p.ok.sub hs,sc,s1,by simp [g],k.atom p r⟩
     ·cases he
    ·cases he
   ·rename_i cn' xs o
    split at he
    ·rename_i b
     have b:=of_decide_eq_true b
     subst b
     split at he
     ·rename_i d q
      cases he
      obtain ⟨Ca,t,sc,z,s1⟩:=ok.sl _ _ _ e
      refine aw (SlX.pe_sl aq) (ih ok u s j fun v F' H' W' Wt p h=>?_)
      obtain ⟨B,G,dx,vs,rfl,hn,hs,_,l⟩:=(h.look p.ok o).mob
      cases bg t hn
      obtain ⟨v,g,r⟩:=l.get q
      exact ⟨_,_,_,_,_,_,v,rfl,hs,sc,s1,by simp [g],k.atom p r⟩
     ·cases he
    ·cases he
   ·cases he
  ·cases he
 ·cases hm
def objOf (cn:Str):Option (D × List D)→Option (D × List D)
 | some (.lst true rs,o)=>some (.obj cn [.tup rs],o)
 | _=>none
abbrev obC (C:Ctx) (cn:Str):Ctx:={ C with call:=fun g ds=>objOf cn (C.call g ds) }
theorem ku {cn:Str} {x:Option (D × List D)} {r:D} {o:List D} (h:objOf cn x=some (r,o)):∃ rs,x=some (.lst true rs,o)∧r=.obj cn [.tup rs]:=by
 unfold objOf at h
 split at h
 ·cases h;exact ⟨_,rfl,rfl⟩
 ·cases h
theorem gF {cn:Str} {f:Nat} {as:List A} {rs:List D} (e:aY C f as δ=some (.tmp (.lst true rs),δ')):aY (obC C cn) f as δ=some (.tmp (.obj cn [.tup rs]),δ'):=by
 unfold aY at e ⊢
 split at e
 ·rename_i os h c
  split at e
  ·rename_i ds δ2 d
   split at e
   ·rename_i r outs g
    simp only [c,d,g]
    injection e with e
    injection e with a b
    injection a with a
    subst a
    simp only [objOf,isAtom,Bool.false_eq_true,if_false] at b ⊢
    rw [b]
   ·cases e
  ·cases e
 ·cases e
theorem sU {cn:Str} {kc it f:Nat} {C0:Ctx} {ways:List (Str × Nat)} {Ca:Addr} {vs:List V} {H1:Hp}
  (k:∀ ds r outs,C.call f ds=some (r,outs)→∃ rule items lap rs,ds=[rule,items,lap]∧r=.lst true rs∧outs=[]∧Ob.iJ C0 it ways rule items lap rs)
  (O:Ob.tv X.prog X.w X.K X.mg X.base cn Ca kc C0 it ways) (h:j4 X.K ((obC C cn).call f) [] vs H1 Q):Ob.pS X.K Ca C0 it ways (.ref Ca::vs) H1 Q E0:=by
 obtain ⟨G,W,ds,r,outs,sb,l,lv,e,cont⟩:=h
 obtain ⟨c,m,rfl⟩:=ku e
 obtain ⟨rule,items,lap,rs,rfl,n,rfl,mok⟩:=k _ _ _ m
 cases n
 cases l with
 | @cons v1 _ _ _ _ _ _ o1 ow1 d1 p u1' =>
 cases ow1 with
 | @cons v2 _ _ _ _ _ _ o2 ow2 d2 q u2' =>
 cases ow2 with
 | @cons s _ _ _ _ _ _ u ow3 d3 u3 u3' =>
 cases ow3
 refine ⟨G,W,v1,v2,s,rule,items,lap,c,rfl,sb,.cons o1 (.cons o2 (.cons u .nil d3 u3 u3') d2 q u2') d1 p u1',lv,mok,fun F' H' W' x dx t ws ext sub ht d fz hs v g F y ne=>?_⟩
 let U:Fp:=fun b=>b=x∨b=dx
 have a:Same F' (fzH F' H' U):=cg sub
 have i:SlX.Slt (fzH F' H' U) x Ca dx [some (.ref t)]:=by
  rcases hs with ⟨_,j⟩ | ⟨B,j⟩
  ·cases j
  ·exact .inr ⟨by rw [cI (.inl rfl)];exact B,by rw [cI (.inr rfl)];exact j⟩
 refine cont (.ref x) (fzH F' H' U) H' No No (.frz (.obj (vs:=[.ref t]) O.nsC i (by simp) (.cons (.tup (aa a ht) (d.mono a)) .nil))) (.skip rfl (.skip rfl (.skip rfl .nil))) (fun _ z=>z.elim) (iI sub) (fun b z=>by rcases z with z | z<;>exact z.elim) ⟨fun b o z=>a _ _ (ext.fsub _ _ z),fun b o z=>?_,ext.keep,ext.live,fun b z=>by rcases z with z | z<;>exact z.elim⟩
 rcases gq z with z | z | z
 ·exact ext.fnew b o z
 ·subst z
  exact .inr (.inr v)
 ·subst z
  exact .inr (.inr g)
theorem ur {cn:Str} {kc it f:Nat} {C0:Ctx} {ways:List (Str × Nat)} {Ca:Addr} {y:Expr} {ys:List Expr} {e c d:Pos}
  (i:∀ ds r outs,C.call f ds=some (r,outs)→∃ rule items lap rs,ds=[rule,items,lap]∧r=.lst true rs∧outs=[]∧Ob.iJ C0 it ways rule items lap rs)
  (O:Ob.tv X.prog X.w X.K X.mg X.base cn Ca kc C0 it ways) (j:Room (kc+4) X.A) (gc:Gl X cn) (hd:(cn==("__debug__" : Str))=false) (ns:noStar (y::ys)=true) (ne:(c.endLine==d.line)=true)
  (a:(y::ys).length<20)
  (go:bM X (y::ys) σ H fun vs H1=>j4 X.K ((obC C cn).call f) [] vs H1 Q):tW X (.Call (.Attribute (.Name cn e) "made" c) (y::ys) [] d) σ H Q:=by
 obtain ⟨mc,pr,g,fi,fl,fd,fdi,fdl,c1,c2,c3,F1,k,m,n,o,p,l⟩:=O.ex
 have b:=F1.raw k (.nil:Vals [] [])
 refine aw (ClX.pe_cmeth (Ob.w8 gc O.mgC hd) c1 c2 b (j.mono (by omega)) pass0 (av ns) (ah _ ns) (ao _ _ (aj ns)) (Ob.Ak ne ns a)) ?_
 refine ⟨rfl,au go fun vs H1 h=>?_⟩
 show Ob.pS X.K Ca C0 it ways ((.ref Ca::vs)++[]) H1 Q E0
 rw [List.append_nil]
 exact sU i O h
theorem AV (ih:SAs C n) (ok:XOk C X c) {cn nm:Str} {f:Nat} {es:List E} {x:Expr} (hm:mE (m+1) c (.ob .made cn nm f es) x=true) (s:SOk X.K F H σ δ W) (he:evE C (n+1) (.ob .made cn nm f es) δ=some (a,δ')) (k:af X F H W σ δ' a Q):tW X x σ H Q:=by
 unfold mE at hm
 simp only at hm
 split at hm
 ·rename_i o L m0 M y ys N
  simp only [Bool.and_eq_true] at hm
  obtain ⟨⟨⟨⟨⟨⟨⟨⟨t,u⟩,b⟩,d⟩,e⟩,g⟩,w⟩,z⟩,hlen⟩:=hm
  cases ak t
  cases ak e
  unfold evE at he
  simp only at he
  split at he
  ·rename_i as δ1 B
   unfold obD at he
   simp only at he
   split at he
   ·rename_i rs δ2 l
    cases he
    obtain ⟨ds,r,outs,ec⟩:=bo l
    rcases ok.vm f _ (of_decide_eq_true u) with hn | ⟨Ca,kc,it,C0,ways,O,room,i,j⟩
    ·rw [hn] at ec
     cases ec
    ·refine ur j O room (ok.gl b) (aU d).1 z g (of_decide_eq_true hlen) (ih ok w s B fun vs F' H' W' Wt p h=>?_)
     have cc:=(cL p h (gF l) fun v G I W2 Wu q J=>k v G I W2 Wu q J).2
     rwa [show (obC C _).io f=[] from i] at cc
   ·cases he
  ·cases he
 ·cases hm
theorem je {x:Expr} {xs:List Expr} {as:List A} {Q:List V→Hp→Prop} (h:qd X (x::xs) as σ H Q):∃ a bs,as=a::bs∧tW X x σ H fun v H1=>Dr X H1 v a∧bM X xs σ H1 fun vs b=>Q (v::vs) b:=by
 cases as with
 | nil=>exact h.elim
 | cons a bs=>exact ⟨a,bs,rfl,ay h fun v H1 q=>⟨q.1.2,lM q.2⟩⟩
theorem fH {cn:Str} {d:D} (h:fY cn (some d)=true):∃ xs,d=.obj cn xs:=by
 cases d<;>simp [fY] at h
 subst h
 exact ⟨_,rfl⟩
theorem Dx (ih:SAI C n) (ok:XOk C X c) {cn nm:Str} {f:Nat} {es:List E} {x:Expr} (hm:mE (m+1) c (.ob .mth cn nm f es) x=true) (s:SOk X.K F H σ δ W) (he:evE C (n+1) (.ob .mth cn nm f es) δ=some (a,δ')) (k:af X F H W σ δ' a Q):tW X x σ H Q:=by
 unfold mE at hm
 simp only at hm
 split at hm
 ·rename_i g m0 ap cp
  simp only [Bool.and_eq_true] at hm
  obtain ⟨⟨⟨⟨i,j⟩,l⟩,o⟩,hg⟩:=hm
  cases ak j
  unfold evE at he
  simp only at he
  split at he
  ·rename_i as δ1 t
   unfold obD at he
   simp only at he
   split at he
   ·rename_i d bs
    split at he
    ·rename_i hi
     obtain ⟨xs,rfl⟩:=fH hi
     obtain ⟨ds,r,outs,ec⟩:=bo he
     obtain ⟨Ca,gg,fd,ps,sp,M,u,sc,mt,room,b,bd,w,imp⟩:=ok.mt _ _ _ (of_decide_eq_true i) _ _ _ ec
     have Fr:=b.raw bd (.nil:Vals [] [])
     have go:=ih ok o s t (Q:=fun vs H1=>sp (vs++[]) H1 Q E0) fun vs F' H' W' Wt p h=>by
      show sp (vs++[]) H' Q E0
      rw [List.append_nil]
      exact imp _ _ _ _ (cL p h he fun v B G W2 Wu q I=>k v B G W2 Wu q I).2
     refine aw (SlX.pe_methSl0 aq sc mt Fr (room.mono (by omega)) pass0 (Ob.oO (Ob.gO hg _ _ _) l rfl (by decide))) ?_
     obtain ⟨a0,J,L,go⟩:=je go
     cases L
     refine ay go fun v H1 z=>?_
     obtain ⟨x0,N,dx,vs,rfl,hn,hs⟩:=z.1 _ _ rfl
     cases bg u hn
     exact ⟨_,_,_,rfl,hs,z.2⟩
    ·cases he
   ·cases he
  ·cases he
 ·rename_i g m0 ap y ys cp
  simp only [Bool.and_eq_true] at hm
  obtain ⟨⟨⟨⟨⟨⟨i,j⟩,l⟩,o⟩,e⟩,O⟩,hg⟩:=hm
  cases ak j
  unfold evE at he
  simp only at he
  split at he
  ·rename_i as δ1 t
   unfold obD at he
   simp only at he
   split at he
   ·rename_i d bs
    split at he
    ·rename_i hi
     obtain ⟨xs,rfl⟩:=fH hi
     obtain ⟨ds,r,outs,ec⟩:=bo he
     obtain ⟨Ca,gg,fd,ps,sp,M,u,sc,mt,room,b,bd,w,imp⟩:=ok.mt _ _ _ (of_decide_eq_true i) _ _ _ ec
     have Fr:=b.raw bd (.nil:Vals [] [])
     have go:=ih ok o s t (Q:=fun vs H1=>sp (vs++[]) H1 Q E0) fun vs F' H' W' Wt p h=>by
      show sp (vs++[]) H' Q E0
      rw [List.append_nil]
      exact imp _ _ _ _ (cL p h he fun v B G W2 Wu q I=>k v B G W2 Wu q I).2
     refine aw (SlX.pe_methSl aq sc mt Fr (room.mono (by omega)) pass0 (av e) (ah _ e) (ao _ _ (aj e)) (Ob.oO (Ob.gO hg _ _ _) l e (of_decide_eq_true O))) ?_
     obtain ⟨a0,J,L,go⟩:=je go
     cases L
     refine ay go fun v H1 z=>?_
     obtain ⟨x0,N,dx,vs,rfl,hn,hs⟩:=z.1 _ _ rfl
     cases bg u hn
     exact ⟨_,_,_,rfl,hs,z.2⟩
    ·cases he
   ·cases he
  ·cases he
 ·cases hm
theorem Bb (ih:SE C n) (l:SAs C n) (ok:XOk C X c) {v:Nat} {cn nm:Str} {f:Nat} {es:List E} {x:Expr} (hm:mE (m+1) c (.mthM v cn nm f es) x=true) (s:SOk X.K F H σ δ W) (he:evE C (n+1) (.mthM v cn nm f es) δ=some (a,δ')) (k:af X F H W σ δ' a Q):tW X x σ H Q:=by
 unfold evE at he
 simp only at he
 split at he
 ·rename_i sl δ0 e0
  split at he
  ·rename_i cn' xs P
   split at he
   ·rename_i b
    have b:=of_decide_eq_true b
    subst b
    split at he
    ·rename_i as δ1 N
     obtain ⟨ds,r,outs,ec⟩:=bo he
     have O:look δ0 (.bor sl [])=some (.mob cn' xs):=by simp [look,P,Ev.D.at]
     unfold mE at hm
     simp only at hm
     split at hm
     ·rename_i g m0 ap cp
      simp only [Bool.and_eq_true] at hm
      obtain ⟨⟨⟨⟨⟨o,h⟩,t⟩,u⟩,w⟩,hg⟩:=hm
      cases ak h
      cases es with
      | cons _ _=>simp at w
      | nil =>
       obtain ⟨Ca,gg,fd,ps,sp,R,z,sc,mt,room,d,bd,B,imp⟩:=ok.mt _ _ _ (of_decide_eq_true o) _ _ _ ec
       have Fr:=d.raw bd (.nil:Vals [] [])
       refine aw (SlX.pe_methSl0 aq sc mt Fr (room.mono (by omega)) pass0 (Ob.oO (Ob.gO hg _ _ _) t rfl (by decide))) ?_
       refine ih ok u s e0 fun v1 F1 H1 W1 G p1 o1=>?_
       obtain ⟨a0,Y,dx,vs,rfl,hn,hs,_,_⟩:=(o1.look p1.ok O).mob
       cases bg z hn
       refine ⟨_,_,_,rfl,hs,?_⟩
       show sp ([V.ref a0]++[]) H1 Q E0
       rw [List.append_nil]
       have I:as=[]∧δ1=δ0:=by
        cases n with
        | zero=>simp [evE] at e0
        | succ n=>simpa [aL,eq_comm] using N
       obtain ⟨rfl,rfl⟩:=I
       cases o1 with
       | bor J pt=>exact imp _ _ _ _ (cL p1.drop (.cons (W1:=No) (W2:=No) (.bor J pt) .nil (fun _ q=>q.elim) (fun _ q=>q.elim) fun _ q=>q.elim) he fun v i e W2 Wu q L=>k v i e W2 Wu q L).2
     ·rename_i g m0 ap y ys cp
      simp only [Bool.and_eq_true] at hm
      obtain ⟨⟨⟨⟨⟨⟨⟨o,h⟩,t⟩,u⟩,w⟩,j⟩,Z⟩,hg⟩:=hm
      cases ak h
      obtain ⟨Ca,gg,fd,ps,sp,R,z,sc,mt,room,d,bd,B,imp⟩:=ok.mt _ _ _ (of_decide_eq_true o) _ _ _ ec
      have Fr:=d.raw bd (.nil:Vals [] [])
      refine aw (SlX.pe_methSl aq sc mt Fr (room.mono (by omega)) pass0 (av j) (ah _ j) (ao _ _ (aj j)) (Ob.oO (Ob.gO hg _ _ _) t j (of_decide_eq_true Z))) ?_
      refine ih ok u s e0 fun v1 F1 H1 W1 G p1 o1=>?_
      obtain ⟨a0,Y,dx,vs,rfl,hn,hs,_,_⟩:=(o1.look p1.ok O).mob
      cases bg z hn
      refine ⟨_,_,_,rfl,hs,?_⟩
      refine l ok w p1.ok N fun ws i e W2 M p2 h=>?_
      show sp ((V.ref a0::ws)++[]) e Q E0
      rw [List.append_nil]
      cases o1 with
      | bor J pt =>
       cases pt
       exact imp _ _ _ _ (cL (p1.drop.aD p2) (.cons (W1:=No) (W2:=M) (.bor (v:=.ref a0) (p:=[]) J (show bq e (.ref a0) [] (.ref a0) from rfl)) h (fun _ q=>q.elim) (fun _ q=>q.elim) fun _ q=>q) he fun v i e W2 Wu q L=>k v i e W2 Wu q L).2
     ·cases hm
    ·cases he
   ·cases he
  ·cases he
 ·cases he
theorem Dy (ih:SAs C n) (ok:XOk C X c) {cn nm:Str} {f:Nat} {es:List E} {x:Expr} (hm:mE (m+1) c (.ob .len cn nm f es) x=true) (s:SOk X.K F H σ δ W) (he:evE C (n+1) (.ob .len cn nm f es) δ=some (a,δ')) (k:af X F H W σ δ' a Q):tW X x σ H Q:=by
 unfold mE at hm
 simp only at hm
 split at hm
 ·rename_i g O y pos
  simp only [Bool.and_eq_true] at hm
  obtain ⟨⟨⟨⟨j,o⟩,q⟩,t⟩,b⟩:=hm
  cases ak j
  unfold evE at he
  simp only at he
  split at he
  ·rename_i as δ1 u
   unfold obD at he
   simp only at he
   split at he
   ·rename_i cn' xs
    split at he
    ·rename_i e
     simp only [Bool.and_eq_true,decide_eq_true_eq,Nat.ble_eq] at e
     obtain ⟨rfl,P⟩:=e
     split at he
     ·rename_i r ec
      cases he
      obtain ⟨Ca,v,hn | ⟨z,room,B,G⟩⟩:=ok.vn f _ (of_decide_eq_true q)
      ·rw [hn] at ec
       cases ec
      ·obtain ⟨fI,fi,fl,fdI,fdl,mk,R,I,J,V,c3,L,M,fdi,Y,Z⟩:=z.ex
       have d:FnR X.prog X.w X.K X.mg X.base CX0 1 fl (Ob.pQ X.K Ca):=by have:=L.raw M (.nil:Vals [] []);simpa only [List.append_nil] using this
       refine aw (pe_callB (qq (f:=.builtin "len")) (ok.gl o) (ok.blt _ (by decide)) (by decide +kernel) (av b) (by decide +kernel) (by decide +kernel) (ah _ b) (ao _ _ (aj b))) ?_
       refine ih ok t s u fun vs F' H' W' Wt p h=>?_
       cases h with
       | cons a1 a2 a3 a4 a5 =>
        cases a2
        obtain ⟨x0,C',dx,us,rfl,hn,hs,_,l⟩:=(a1.look p.ok rfl).obj
        cases bg v.nsC hn
        cases l with
        | cons l1 l2 =>
         cases l2
         cases l1 with
         | tup N l3 =>
          have i:=l3.length
          refine Ob.Bm c3 d (room.mono (by omega)) (bW p.ok.sub hs) (aa p.ok.sub N) (by rw [i];have:=aA;unfold cap at this;omega) ?_
          rw [i]
          exact k _ _ _ _ _ p.drop (.tmp (.frz (.int _)))
     ·cases he
    ·cases he
   ·cases he
  ·cases he
 ·cases hm
theorem Bw (ih:SAs C n) (ok:XOk C X c) {cn nm:Str} {f:Nat} {es:List E} {x:Expr} (hm:mE (m+1) c (.ob .tupO cn nm f es) x=true) (s:SOk X.K F H σ δ W) (he:evE C (n+1) (.ob .tupO cn nm f es) δ=some (a,δ')) (k:af X F H W σ δ' a Q):tW X x σ H Q:=by
 unfold mE at hm
 simp only at hm
 split at hm
 ·rename_i g z y pos
  simp only [Bool.and_eq_true] at hm
  obtain ⟨⟨⟨⟨⟨B,G⟩,J⟩,L⟩,i⟩,e⟩:=hm
  cases ak B
  unfold evE at he
  simp only at he
  split at he
  ·rename_i as δ1 M
   have go:∀ {Q':VK},(∀ vs F' H' W' Wt,aC X.K F H W F' H' σ δ1 W' Wt→eV X.K F' H' σ vs as Wt→cW X (.type "tuple") vs H' Q')→tW X (.Call (.Name "tuple" z) [y] [] pos) σ H Q':=fun hk =>
    aw (pe_callTy (qq (f:=.type "tuple")) (ok.gl G) (ok.blt _ (by decide)) (by decide +kernel) (av i) (by decide +kernel) (by decide +kernel) (ah _ i) (ao _ _ (aj i))) (ih ok L s M hk)
   unfold obD at he
   simp only at he
   split at he
   ·rename_i cn' xs j
    split at he
    ·rename_i v
     simp only [Bool.and_eq_true,decide_eq_true_eq,Nat.ble_eq] at v
     obtain ⟨rfl,hz⟩:=v
     split at he
     ·rename_i r ec
      cases he
      obtain ⟨Ca,N,hn | ⟨O,room,P,R⟩⟩:=ok.vn f _ (of_decide_eq_true J)
      ·rw [hn] at ec
       cases ec
      ·obtain ⟨fI,fi,fl,fdI,fdl,mk,FI,V,Y,bI,c3,Z,b3,fdi,F4,b4⟩:=O.ex
       have o:FnR X.prog X.w X.K X.mg X.base CX0 1 fl (Ob.pQ X.K Ca):=by have:=Z.raw b3 (.nil:Vals [] []);simpa only [List.append_nil] using this
       have t:FnR X.prog X.w X.K X.mg X.base CX0 1 fi (Ob.t7 X.K Ca):=by have:=F4.raw b4 (.nil:Vals [] []);simpa only [List.append_nil] using this
       refine go fun vs F' H' W' Wt p h=>?_
       obtain ⟨v0,rfl,hv⟩:=(eV.looks p.ok h j).one
       obtain ⟨x0,C',dx,us,rfl,hn,hs,_,l⟩:=hv.obj
       cases bg N.nsC hn
       cases l with
       | cons l1 l2 =>
        cases l2
        cases l1 with
        | tup hq l3 =>
         intro pins s0 σ0 us0 I rv
         rw [Vals.ref1 rv]
         exact Ob.Bh c3 t o (ok.calm e) (room.mono (by omega)) (bW p.ok.sub hs) (aa p.ok.sub hq) I fun q u=>(k.goes p).tuple p.ok.sub u l3
     ·cases he
    ·cases he
   ·rename_i d nob j
    split at he
    ·cases he
    ·split at he
     ·rename_i r e3
      cases he
      exact go fun vs F' H' W' Wt p h=>Bj (b:=.tuple1) ok.units (ok.calm e) p.ok.sub rfl e3 (eV.looks p.ok h j) (k.goes p)
     ·cases he
   ·cases he
  ·cases he
 ·cases hm
theorem nF {g:Str} {f:Nat} {Ca:Addr} (Y:Ob.OcF X.K X.mg g Ca) (B:∀ ds r outs,C.call f ds=some (r,outs)→∃ d rs,ds=[d]∧r=.lst true rs∧outs=[]∧Ob.ji d rs) {vs:List V} {H1:Hp} (h:j4 X.K ((obC C g).call f) [] vs H1 Q) :
  ∀ x dx,H1 x=none→H1 dx=none→dx≠x→Ob.wz X.K Ca (.ref x::(vs++[])) (upd (upd H1 dx (.own x)) x (.ins Ca dx [])) (fun v Z=>v=.non∧Q (.ref x) Z) E0:=by
 intro x dx p a m
 rw [List.append_nil]
 obtain ⟨G,W1,ds,r,outs,sb,ow,lv,e,cont⟩:=h
 obtain ⟨F,e',rfl⟩:=ku e
 obtain ⟨d,ab,rfl,er,rfl,u⟩:=B _ _ _ e'
 cases er
 cases ow with
 | @cons v1 _ _ _ _ V1 V2 o1 ow1 d1 w u1' =>
 cases ow1
 have nx:¬ V1 x:=fun z=>lv x (w x z) p
 have k:¬ V1 dx:=fun z=>lv dx (w dx z) a
 have O:New G H1 G (upd H1 dx (.own x)) No:=New.rh sb a
 have H:upd H1 dx (.own x) x=none:=by rw [upd_ne (fun z=>m z.symm)];exact p
 have P:New G (upd H1 dx (.own x)) G (upd (upd H1 dx (.own x)) x (.ins Ca dx [])) No:=New.rh O.sub H
 have o5:Ow X.K G (upd (upd H1 dx (.own x)) x (.ins Ca dx [])) v1 d V1:=o1.keep (fun _ _ z=>z) fun b s o eo fo=>by
  have i:b≠x:=fun z=>nx (by rw [← z];exact s)
  have j:b≠dx:=fun z=>k (by rw [← z];exact s)
  exact ⟨by rw [upd_ne i,upd_ne j];exact eo,fo⟩
 obtain ⟨ac,ad,_,_,_,ae⟩:=id u
 refine ⟨G,V1,x,dx,v1,d,F,rfl,P.sub,o5,fun b s z=>?_,u,.inl ⟨upd_same,rfl⟩,nx,k,fun F' H' W' t ws ext sub ht I=>⟨rfl,?_⟩⟩
 ·have i:b≠x:=fun z=>nx (by rw [← z];exact s)
  have j:b≠dx:=fun z=>k (by rw [← z];exact s)
  rw [upd_ne i,upd_ne j] at z
  exact lv b (w b s) z
 have R:∀ z,(z=x∨z=dx)→F' z=none:=fun z J=>by
  cases e:F' z with
  | none=>rfl
  | some o =>
   rcases ext.fnew z o e with h | h | h
   ·have:=sb _ _ h
    rcases J with rfl | rfl
    ·rw [p] at this;cases this
    ·rw [a] at this;cases this
   ·rcases J with rfl | rfl
    ·exact absurd h nx
    ·exact absurd h k
   ·rcases J with rfl | rfl
    ·rw [upd_same] at h;cases h
    ·rw [upd_ne m,upd_same] at h;cases h
 let U:Fp:=fun b=>b=x∨b=dx
 have l:Same F' (SlX.slH H' x Ca dx [some (.ref t)]):=fun b o e=>by
  have i:b≠x:=fun z=>by rw [z,R x (.inl rfl)] at e;cases e
  have j:b≠dx:=fun z=>by rw [z,R dx (.inr rfl)] at e;cases e
  rw [SlX.slH_ne i j]
  exact sub _ _ e
 have c:Same F' (fzH F' (SlX.slH H' x Ca dx [some (.ref t)]) U):=cg l
 have L:SlX.Slt (SlX.slH H' x Ca dx [some (.ref t)]) x Ca dx [some (.ref t)]:=SlX.slH_slt m
 have M:SlX.Slt (fzH F' (SlX.slH H' x Ca dx [some (.ref t)]) U) x Ca dx [some (.ref t)]:=by
  rcases L with ⟨_,N⟩ | ⟨h1,N⟩
  ·cases N
  ·exact .inr ⟨by rw [cI (.inl rfl)];exact h1,by rw [cI (.inr rfl)];exact N⟩
 have E2:Ext G H1 W1 G (upd (upd H1 dx (.own x)) x (.ins Ca dx [])) W1:=(O.ext.trans P.ext).mono (fun _ q=>q.elim) fun b q=>.inr q
 have E3:Ext G (upd (upd H1 dx (.own x)) x (.ins Ca dx [])) W1 F' H' W':=ext.mono w fun b q=>.inl q
 have y:=E2.trans E3
 refine cont (.ref x) (fzH F' (SlX.slH H' x Ca dx [some (.ref t)]) U) (SlX.slH H' x Ca dx [some (.ref t)]) No No (.frz (.obj (vs:=[.ref t]) Y.nsC M (by simp) (.cons (.tup (aa c ht) (I.mono c)) .nil))) (.skip rfl .nil) (fun _ z=>z.elim) (iI l) (fun b z=>by rcases z with z | z<;>exact z.elim) ⟨fun b o z=>c _ _ (y.fsub _ _ z),fun b o z=>?_,fun b o e n=>?_,fun b e=>?_,fun b z=>by rcases z with z | z<;>exact z.elim⟩
 ·rcases gq z with z | z | z
  ·exact y.fnew b o z
  ·subst z;exact .inr (.inr p)
  ·subst z;exact .inr (.inr a)
 ·have i:b≠x:=fun z=>by rw [z,p] at e;cases e
  have j:b≠dx:=fun z=>by rw [z,a] at e;cases e
  rw [SlX.slH_ne i j]
  exact y.keep b o e n
 ·by_cases i:b=x
  ·rw [i];exact p
  ·by_cases j:b=dx
   ·rw [j];exact a
   ·rw [SlX.slH_ne i j] at e
    exact y.live b e
theorem Dc (ih:SAs C n) (ok:XOk C X c) {cn nm:Str} {f:Nat} {es:List E} {x:Expr} (hm:mE (m+1) c (.ob .new cn nm f es) x=true) (s:SOk X.K F H σ δ W) (he:evE C (n+1) (.ob .new cn nm f es) δ=some (a,δ')) (k:af X F H W σ δ' a Q):tW X x σ H Q:=by
 unfold mE at hm
 simp only at hm
 split at hm
 ·rename_i g P y pos
  simp only [Bool.and_eq_true] at hm
  obtain ⟨⟨⟨⟨⟨b,o⟩,t⟩,u⟩,w⟩,d⟩:=hm
  have b:=ak b
  subst b
  unfold evE at he
  simp only at he
  split at he
  ·rename_i as δ1 z
   unfold obD at he
   simp only at he
   split at he
   ·rename_i a0
    split at he
    ·rename_i rs δ2 j
     cases he
     obtain ⟨ds,r,outs,ec⟩:=bo j
     obtain ⟨Ca,l,hn | ⟨B,room,e,i⟩⟩:=ok.vn f _ (of_decide_eq_true o)
     ·rw [hn] at ec
      cases ec
     ·obtain ⟨fI,fi,fl,fdI,fdl,mk,G,I,J,L,c3,R,V,fdi,Y,Z⟩:=B.ex
      refine aw (pe_make mk G (room.mono (by omega)) (ok.gl t) l.mgC L (.nil:Vals [] []) pass0 (av d) (aU u).1 (ah _ d) (ao _ _ (aj d))) ?_
      have go:=ih ok w s z (Q:=fun vs H1=>j4 X.K ((obC C g).call f) [] vs H1 Q) fun vs F' H' W' Wt p h=>by
       have cc:=(cL p h (gF j) fun v M N W2 Wu q O=>k v M N W2 Wu q O).2
       rwa [show (obC C g).io f=[] from e] at cc
      exact au go fun vs H1 h=>nF l i h
    ·cases he
   ·cases he
  ·cases he
 ·cases hm
theorem xW {o:Operator} {nm:Str} (h:AJ o=some nm):PySem.dunder o.info.2=nm:=by
 cases o<;>simp [AJ] at h<;>subst h<;>decide +kernel
theorem yP {K:Frag} {o:Operator} {nm:Str} (h:AJ o=some nm) (n:nm≠"__mul__"):∀ T,(T="list" ∨ T="tuple")→findIn K (.type T) (PySem.dunder o.info.2)=some none∧findIn K (.type T) (dunderR o.info.2)=some none:=by
 cases o<;>simp [AJ] at h<;>subst h<;>first | exact absurd rfl n | (rintro T (rfl | rfl)<;>exact ⟨by with_unfolding_all rfl,by with_unfolding_all rfl⟩)
theorem Bo (ih:SAs C n) (ok:XOk C X c) {cn nm:Str} {f:Nat} {sq:Bool} {es:List E} {x:Expr} (hm:mE (m+1) c (.ob (.bin sq) cn nm f es) x=true) (s:SOk X.K F H σ δ W) (he:evE C (n+1) (.ob (.bin sq) cn nm f es) δ=some (a,δ')) (k:af X F H W σ δ' a Q):tW X x σ H Q:=by
 unfold mE at hm
 simp only at hm
 split at hm
 ·rename_i l p0 r pos
  simp only [Bool.and_eq_true] at hm
  obtain ⟨⟨⟨⟨i,b⟩,O⟩,P⟩,I⟩:=hm
  have i:=of_decide_eq_true i
  have b:=of_decide_eq_true b
  obtain ⟨J,R⟩:∃ J,c.vn=some (J,cn):=by
   cases e:c.vn with
   | none=>rw [e] at b;simp at b
   | some z=>rw [e] at b;simp at b;exact ⟨z.1,by rw [← b]⟩
  obtain ⟨o,L,_⟩:=ok.vn _ _ R
  unfold evE at he
  simp only at he
  split at he
  ·rename_i as δ1 V
   unfold obD at he
   simp only at he
   split at he
   ·rename_i d bs
    split at he
    ·rename_i j Y
     split at he
     ·rename_i hi
      rw [Bool.and_eq_true] at hi
      obtain ⟨hi,hk⟩:=hi
      obtain ⟨xs,rfl⟩:=fH hi
      obtain ⟨ds,r0,outs,ec⟩:=bo he
      obtain ⟨Ca,gg,fd,ps,sp,Z,t,sc,mt,room,u,bd,aa,imp⟩:=ok.mt _ _ _ (of_decide_eq_true O) _ _ _ ec
      cases bg t L.nsC
      have Fr:FnR X.prog X.w X.K X.mg X.base CX0 Z gg sp:=by have:=u.raw bd (.nil:Vals [] []);simpa only [List.append_nil] using this
      have hs:findIn X.K (.ref o) (PySem.dunder p0.info.2)=some (some (.ref gg)):=by rw [xW i];exact mt.at_
      refine aw (pe_op (SlX.Bg (tb:=fun T=>sq=true∧(T="list" ∨ T="tuple")) L.sf hs mt.fn (fun T M=>yP i (fun e=>?_) T M.2) Fr (room.mono (by omega)) pass0) aq aq) ?_
      ·rw [M.1,e] at I
       revert I
       decide
      refine yG (ih ok P s V fun vs F' H' W' Wt p h=>?_)
      rintro v w rfl
      have cc:=imp _ _ Q E0 (cL p h he fun v F2 H2 W2 Wu q hq=>k v F2 H2 W2 Wu q hq).2
      cases h with
      | cons a1 a2 a3 a4 a5 =>
       obtain ⟨x0,C',dx,us,rfl,hn,y,_,l⟩:=(a1.look p.ok rfl).obj
       cases bg t hn
       refine ⟨_,_,_,rfl,bW p.ok.sub y,?_,cc⟩
       have lk:=a2.looks p.ok Y
       have N:Vw X.K F' H' w j:=by
        cases lk with
        | cons h _=>exact h
       unfold okR at hk
       rw [Bool.or_eq_true,Bool.and_eq_true] at hk
       rcases hk with hk | ⟨hk1,g⟩
       ·obtain ⟨ys,rfl⟩:=fH hk
        obtain ⟨x1,C1,ab,ac,rfl,B,G,_,_⟩:=N.obj
        cases bg t B
        exact .inl ⟨_,_,_,rfl,bW p.ok.sub G⟩
       ·refine .inr ⟨pC j,⟨hk1,?_⟩,xw p.ok.sub N ?_⟩
        ·cases j<;>simp [uR] at g<;>simp [pC]
        ·cases j<;>simp [uR] at g<;>rfl
     ·cases he
    ·cases he
   ·cases he
  ·cases he
 ·cases hm
end
end Ev
namespace Ev
open PySem PySem.Spec PyProof.Rows L2
section
variable {C:Ctx} {X:Cx} {c:Cxt} {n m:Nat} {σ:L2.St} {δ δ':Dl} {F H:Hp} {W:Fp} {a:A} {Q:VK}
end
end Ev
namespace Ev
open PySem PySem.Spec PyProof.Rows L2
section
variable {C:Ctx} {X:Cx} {c:Cxt} {n m:Nat} {σ:L2.St} {δ δ':Dl} {F H:Hp} {W:Fp} {a:A} {Q:VK}
theorem rR {cn:Str} {h i j:Int} {Ca:Addr} {F1 H1 H':Hp} {W1 Wt:Fp} {x dx t:Addr} (k:af X F H W σ δ' (.tmp (.obj cn [.int i,.tup [.int h,.int i,.int j],.int h,.int j])) Q) (p:aC X.K F H W F1 H1 σ δ' W1 Wt) (u:nsIn X.K mainGlobals cn=some (some (.ref Ca)))
  (n:H1 x=none) (g:H1 dx=none) (q:dx≠x) (hs:SlX.Slt H' x Ca dx [some (.int i),some (.ref t),some (.int h),some (.int j)]) (ht:H' t=some (.tup [.int h,.int i,.int j])) (nt:(upd (upd H1 dx (.own x)) x (.ins Ca dx [])) t=none)
  (fr:∀ c o,(upd (upd H1 dx (.own x)) x (.ins Ca dx [])) c=some o→c≠x→c≠dx→H' c=some o) (lv:∀ c,H' c=none→(upd (upd H1 dx (.own x)) x (.ins Ca dx [])) c=none):Q (.ref x) H':=by
 have up:∀ b,b≠x→b≠dx→(upd (upd H1 dx (.own x)) x (.ins Ca dx [])) b=H1 b:=fun b d a=>by rw [upd_ne d,upd_ne a]
 have t1:t≠x:=fun z=>by rw [z,upd_same] at nt;cases nt
 have t2:t≠dx:=fun z=>by rw [z,upd_ne q,upd_same] at nt;cases nt
 have r:H1 t=none:=by rw [← up t t1 t2];exact nt
 have l:∀ c o,H1 c=some o→H' c=some o:=fun c o e=>by
  have d:c≠x:=fun z=>by rw [z,n] at e;cases e
  have a:c≠dx:=fun z=>by rw [z,g] at e;cases e
  exact fr c o (by rw [up c d a];exact e) d a
 have f:Same F1 H':=fun b o e=>l _ _ (p.ok.sub _ _ e)
 let U:Fp:=fun b=>b=x∨b=dx∨b=t
 have m:Same F1 (fzH F1 H' U):=cg f
 have s:SlX.Slt (fzH F1 H' U) x Ca dx [some (.int i),some (.ref t),some (.int h),some (.int j)]:=by
  rcases hs with ⟨_,a⟩ | ⟨d,a⟩
  ·cases a
  ·exact .inr ⟨by rw [cI (.inl rfl)];exact d,by rw [cI (.inr (.inl rfl))];exact a⟩
 refine (k.goes p) (.ref x) (fzH F1 H' U) H' No (.frz (.obj (vs:=[.int i,.ref t,.int h,.int j]) u s (by simp) (.cons (.int _) (.cons (.tup (.inl (.inl (by rw [cI (.inr (.inr rfl))];exact ht))) (.cons (.int _) (.cons (.int _) (.cons (.int _) .nil)))) (.cons (.int _) (.cons (.int _) .nil)))))) ⟨iI f,fun _ z=>z.elim,m,fun b o z=>?_,fun b o e _=>l b o e,fun b e=>?_,fun b z=>z.elim⟩
 ·rcases gq z with z | z | z | z
  ·exact .inl z
  ·subst z;exact .inr (.inr n)
  ·subst z;exact .inr (.inr g)
  ·subst z;exact .inr (.inr r)
 ·by_cases d:b=x
  ·rw [d];exact n
  ·by_cases a:b=dx
   ·rw [a];exact g
   ·rw [← up b d a];exact lv b e
theorem rq {cn:Str} {f:Nat} {as:List A} (e:stD C cn f as δ=some (a,δ')):∃ b c d:Int,as=[.tmp (.int b),.tmp (.int c),.tmp (.int d)]∧δ'=δ∧∃ r rs outs,C.call f [.int b,.int c,.int d]=some (.lst true (r::rs),outs)∧a=.tmp (.obj cn (r::rs)):=by
 unfold stD at e
 split at e
 ·split at e
  ·rename_i ec
   cases e
   exact ⟨_,_,_,rfl,rfl,_,_,_,ec,rfl⟩
  ·cases e
 ·cases e
theorem sS {K:Frag} {F1 H1:Hp} {σ1:L2.St} {δ1:Dl} {W1 Wt:Fp} {a b c:Int} {vs:List V} (s:SOk K F1 H1 σ1 δ1 W1) (h:eV K F1 H1 σ1 vs [.tmp (.int a),.tmp (.int b),.tmp (.int c)] Wt):vs=[.int a,.int b,.int c]:=by
 have d:=eV.looks s h (ds:=[.int a,.int b,.int c]) rfl
 cases d with
 | cons e t =>
  cases t with
  | cons f t =>
   cases t with
   | cons g t =>
    cases t
    cases e.int
    cases f.int
    cases g.int
    rfl
theorem Fw (ih:SAs C n) (ok:XOk C X c) {cn nm:Str} {f:Nat} {es:List E} {x:Expr} (hm:mE (m+1) c (.ob .st cn nm f es) x=true) (s:SOk X.K F H σ δ W) (he:evE C (n+1) (.ob .st cn nm f es) δ=some (a,δ')) (k:af X F H W σ δ' a Q):tW X x σ H Q:=by
 unfold mE at hm
 simp only at hm
 split at hm
 ·rename_i g R y ys pos
  simp only [Bool.and_eq_true] at hm
  obtain ⟨⟨⟨⟨⟨⟨e,v⟩,w⟩,B⟩,G⟩,i⟩,_⟩:=hm
  have e:=ak e
  subst e
  unfold evE at he
  simp only at he
  split at he
  ·rename_i as δ1 I
   unfold obD at he
   simp only at he
   obtain ⟨o,J,q,rfl,rfl,r,rs,outs,ec,rfl⟩:=rq he
   obtain ⟨Ca,u,V,hn | ⟨L,room,j⟩⟩:=ok.vs f _ (of_decide_eq_true v)
   ·rw [hn] at ec
    cases ec
   ·obtain ⟨A1,Y,Z,M,d⟩:=j _ _ _ ec
    cases M
    by_cases lt:q<o
    ·rw [if_pos lt] at d
     cases d
     obtain ⟨fI,fdI,mk,N,O,_⟩:=L.ex
     refine aw (pe_make mk N (room.mono (by omega)) (ok.gl w) u.mgC O (.nil:Vals [] []) pass0 (av i) (aU B).1 (ah _ i) (ao _ _ (aj i))) ?_
     refine ih ok G s I fun vs F' H' W' Wt p h=>?_
     intro x dx P l b
     rw [List.append_nil,sS p.ok h]
     exact ⟨x,dx,o,J,q,rfl,lt,(.inl ⟨upd_same,rfl⟩),by rw [upd_ne b,upd_same];exact fun z=>(nomatch z),b,fun H2 t hs ht nt fr lv=>⟨rfl,rR k p u.nsC P l b hs ht nt fr lv⟩⟩
    ·rw [if_neg lt] at d
     cases d
  ·cases he
 ·cases hm
end
end Ev
namespace Ev
open PySem PySem.Spec PyProof.Rows L2
section
variable {X:Cx} {CX:CXT} {pins:List (Addr × Obj)} {σ:L2.St} {H:Hp} {s:Shared} {a C g:Addr} {n k:Nat} {sp:Sp} {E:XK} {Q:VK} {fd:FuncData} {ps ks:List Str}
end
end Ev
namespace Ev
open PySem PySem.Spec PyProof.Rows L2 HT
theorem lC {lo n st:Nat} (h:0<st):Builtin.Slice.slicePlaces ((min lo n:Nat):Int) (n:Int) (st:Int)=hX n lo st:=by
 unfold Builtin.Slice.slicePlaces hX
 have a:(st:Int) > 0:=by omega
 simp only [a,if_true]
 by_cases c:lo<n
 ·have c2:((min lo n:Nat):Int)<(n:Int):=by omega
  have c3:(Nat.blt lo n)=true:=Nat.blt_eq.mpr c
  rw [if_pos c2,if_pos c3]
  have:(n:Int)-((min lo n:Nat):Int)-1=((n-lo-1:Nat):Int):=by omega
  rw [this]
  have e:(((n-lo-1:Nat):Int) / (st:Int))=(((n-lo-1) / st:Nat):Int):=by
   generalize n-lo-1=z
   simp
  rw [e]
  generalize (n-lo-1) / st=z
  omega
 ·have c2:¬ ((min lo n:Nat):Int)<(n:Int):=by omega
  have c3:¬ (Nat.blt lo n)=true:=fun q=>c (Nat.blt_eq.mp q)
  rw [if_neg c2,if_neg c3]
  rfl
theorem lE {lo n st:Nat} (h:0<st):Builtin.Slice.sliceAdjust (some (lo:Int)) none (st:Int) (n:Int)=(((min lo n:Nat):Int),(n:Int)):=by
 have a:¬ ((st:Int)<0):=by omega
 have b:¬ ((lo:Int)<0):=by omega
 unfold Builtin.Slice.sliceAdjust
 simp only [a,b,if_false]
 refine Prod.ext ?_ rfl
 show min (lo:Int) (n:Int)=_
 omega
theorem nU {n lo st:Nat} (h:0<st):hX n lo st≤n:=by
 unfold hX
 split
 ·rename_i c
  have c:=Nat.blt_eq.mp c
  have:(n-lo-1) / st≤n-lo-1:=Nat.div_le_self _ _
  omega
 ·omega
theorem nZ {α:Type}:∀ xs:List α,fE (List.range xs.length) xs=xs
 | []=>rfl
 | x::xs=>by
  have ih:=nZ xs
  unfold fE at ih ⊢
  rw [List.length_cons,List.range_succ_eq_map,List.filterMap_cons]
  simp only [List.getElem?_cons_zero,List.filterMap_map]
  congr 1
section
variable {prog:Program} {w:World} {A:Around} {E:Value→Shared→Prop} {s:Shared}
theorem eS {sl:Addr} {vl vs:Value} {lo st n:Nat} {Q:Int × Int × Nat→Shared→Prop} (hs:s.heap.IsSliceOf sl vl .none vs) (pl:IsPart vl (some (lo:Int))) (ps:IsPart vs (some (st:Int))) (h0:0<st)
  (h:Q (((min lo n:Nat):Int),(st:Int),hX n lo st) s):wpAny (model prog w) A (Builtin.Slice.sliceApplied (.ref sl) (pure (n:Int))) Q E s:=by
 obtain ⟨os,a,c,b⟩:=id hs
 unfold Builtin.Slice.sliceApplied Builtin.Slice.sliceFields
 refine wpAny_bind (wpAny_bind (wpAny_field a b (x:=vl) rfl (wpAny_bind (wpAny_field a b (x:=.none) rfl (wpAny_bind (wpAny_field a b (x:=vs) rfl (wpAny_pure ?_)))))))
 refine wpAny_bind (slicePart_ ps ?_)
 have d:¬ (((st:Int)==0)=true):=by
  intro q
  have:(st:Int)=0:=eq_of_beq q
  omega
 show wpAny _ _ (if ((st:Int)==0)=true then _ else _) _ _ s
 rw [if_neg d]
 refine wpAny_bind (slicePart_ pl (wpAny_bind (slicePart_none (wpAny_bind (wpAny_pure ?_)))))
 show wpAny _ _ (match Builtin.Slice.sliceAdjust (some (lo:Int)) none (st:Int) (n:Int) with | (lo,hi)=>pure (lo,(st:Int),Builtin.Slice.slicePlaces lo hi (st:Int))) _ _ s
 rw [lE h0]
 show wpAny _ _ (pure (((min lo n:Nat):Int),(st:Int),Builtin.Slice.slicePlaces ((min lo n:Nat):Int) (n:Int) (st:Int))) _ _ s
 rw [lC h0]
 exact wpAny_pure h
theorem tM (xs:Array Value) (lo st:Nat):((List.range (hX xs.size lo st)).filterMap fun (m:Nat)=>xs[(((min lo xs.size:Nat):Int)+(m:Int)*(st:Int)).toNat]?)=bV xs.toList lo st:=by
 unfold bV fE
 rw [Array.length_toList,List.filterMap_map]
 congr 1
 funext m
 have e:(((min lo xs.size:Nat):Int)+(m:Int)*(st:Int)).toNat=min lo xs.size+m*st:=by
  have:(m:Int)*(st:Int)=((m*st:Nat):Int):=by simp
  rw [this]
  omega
 show xs[(((min lo xs.size:Nat):Int)+(m:Int)*(st:Int)).toNat]?=xs.toList[min lo xs.size+m*st]?
 rw [e,Array.getElem?_toList]
theorem eI {t sl:Addr} {items:Array Value} {vl vs:Value} {lo st:Nat} {Q:Value→Shared→Prop} (ht:IsTup s.heap t items) (hs:s.heap.IsSliceOf sl vl .none vs) (pl:IsPart vl (some (lo:Int))) (ps:IsPart vs (some (st:Int))) (h0:0<st)
  (hw:bV items.toList lo st=items.toList→Q (.ref t) s)
  (h:Q (.ref s.heap.objs.size) { s with heap:=s.heap.push { cls:=.type "tuple",data:=.seq (bV items.toList lo st).toArray } })
  (b:items.size≤sizeLine):wpAny (model prog w) A (getItem (.ref t) (.ref sl)) Q E s:=by
 have a:sizeOk (.seq (bV items.toList lo st).toArray):=by
  show (bV items.toList lo st).toArray.size≤sizeLine
  rw [List.size_toArray]
  unfold bV fE
  refine Nat.le_trans (List.length_filterMap_le _ _) ?_
  rw [List.length_map,List.length_range,Array.length_toList]
  exact Nat.le_trans (nU h0) b
 obtain ⟨os,c,d,g⟩:=id hs
 have e:s.TypeIs (.ref sl) "slice" := ⟨os,c,d⟩
 unfold getItem
 try with_reducible refine wpAny_holding ?_
 first | refine wpAny_bind (wpAny_pure ?_) | skip
 refine wpAny_bind (wpAny_sequenceKey ht.typeIs (by decide) ?_)
 refine wpAny_bind (wpAny_callSpecial?_slot (name:=Str.ofString "__getitem__") ht.typeIs PyProof.Rows.slot_tuple_getitem
  (wpAny_call_entry PyProof.Rows.slot_tuple_getitem ht.typeIs entry_tuple_getitem ?_ (args_tuple_getitem _ _)))
 show wpAny _ _ (Builtin.Tuple.tupleItemsOf (.ref t) >>= _) _ _ s
 refine wpAny_bind (tupleItemsOf_ ht ?_)
 refine wpAny_bind (wpAny_typeOf e ?_)
 rw [if_pos (by decide)]
 refine wpAny_bind (eS hs pl ps h0 ?_)
 show wpAny _ _ (if (((min lo items.size:Nat):Int)==0&&(st:Int)==1&&hX items.size lo st==items.size)=true then _ else _) _ _ s
 by_cases hyes:(((min lo items.size:Nat):Int)==0&&(st:Int)==1&&hX items.size lo st==items.size)=true
 ·rw [if_pos hyes]
  have q:=hyes
  rw [Bool.and_eq_true,Bool.and_eq_true] at q
  have j:((min lo items.size:Nat):Int)=0:=eq_of_beq q.1.1
  have k:(st:Int)=1:=eq_of_beq q.1.2
  have i:hX items.size lo st=items.size:=eq_of_beq q.2
  have f:=hw (by
   unfold bV
   rw [Array.length_toList,i]
   have z:min lo items.size=0:=by omega
   have o:st=1:=by omega
   rw [z,o]
   have:((List.range items.size).map fun m=>0+m*1)=List.range items.toList.length:=by
    rw [Array.length_toList]
    have:(fun m:Nat=>0+m*1)=id:=by funext m;simp
    rw [this,List.map_id]
   rw [this]
   exact nZ items.toList)
  refine wpAny_bind ?_
  show wpAny _ _ (typeOf (.ref t) >>= fun T=>pure (T==.type "tuple")) _ _ s
  refine wpAny_bind (wpAny_typeOf ht.typeIs (wpAny_pure ?_))
  first
   | rw [if_pos (by decide)]
   | simp only [beq_self_eq_true,if_true]
  first
   | exact wpAny_bind (wpAny_rule (wpAny_pure ⟨_,rfl,wpAny_pure f⟩))
   | exact wpAny_bind (wpAny_rule (wpAny_bind (wpAny_pure (wpAny_pure ⟨_,rfl,wpAny_pure f⟩))))
 ·rw [if_neg hyes,tM]
  first
   | exact wpAny_bind (m:=Builtin.Tuple.tupleExact _) (wpAny_newObj_type (wpAny_pure ⟨_,rfl,wpAny_pure h⟩) a)
   | exact wpAny_bind (m:=Builtin.Tuple.tupleExact _) (wpAny_newObj_type (wpAny_bind (wpAny_pure (wpAny_pure ⟨_,rfl,wpAny_pure h⟩))) a)
   | exact wpAny_bind (wpAny_bind (m:=Builtin.Tuple.tupleExact _) (wpAny_newObj_type (wpAny_pure (wpAny_pure ⟨_,rfl,wpAny_pure h⟩)) a))
   | exact wpAny_bind (wpAny_bind (m:=Builtin.Tuple.tupleExact _) (wpAny_newObj_type (wpAny_pure ⟨_,rfl,wpAny_pure h⟩) a))
end
section
variable {K:Frag} {X:Cx} {F H:Hp}
theorem pX {F:Hp} {vs:List V} {ds:List D} (r:RpL K F vs ds):∀ is:List Nat,RpL K F (fE is vs) (fE is ds)
 | []=>.nil
 | i::is=>by
  have t:=pX r is
  unfold fE at t ⊢
  rw [List.filterMap_cons,List.filterMap_cons]
  cases e:ds[i]? with
  | none =>
   have l:=List.getElem?_eq_none_iff.mp e
   rw [← r.length] at l
   rw [List.getElem?_eq_none_iff.mpr l]
   exact t
  | some d =>
   obtain ⟨v,a,h⟩:=r.get e
   rw [a]
   exact .cons h t
theorem lh {xs:List V} {us:List Value} (r:Vals xs us):∀ is:List Nat,Vals (fE is xs) (fE is us)
 | []=>.nil
 | i::is=>by
  have t:=lh r is
  unfold fE at t ⊢
  rw [List.filterMap_cons,List.filterMap_cons]
  cases e:xs[i]? with
  | none =>
   have l:=List.getElem?_eq_none_iff.mp e
   rw [r.length] at l
   rw [List.getElem?_eq_none_iff.mpr l]
   exact t
  | some d =>
   obtain ⟨v,a,h⟩:=r.get e
   rw [a]
   exact .cons h t
theorem xO {F:Hp} {vs:List V} {ds:List D} (r:RpL K F vs ds) (lo st:Nat):RpL K F (bV vs lo st) (bV ds lo st):=by
 unfold bV
 rw [r.length]
 exact pX r _
theorem lb {xs:List V} {us:List Value} (r:Vals xs us) (lo st:Nat):Vals (bV xs lo st) (bV us lo st):=by
 unfold bV
 rw [r.length]
 exact lh r _
theorem vG {α:Type} {xs:List α} {lo st:Nat} (h:0<st):(bV xs lo st).length≤xs.length:=by
 unfold bV fE
 refine Nat.le_trans (List.length_filterMap_le _ _) ?_
 rw [List.length_map,List.length_range]
 exact nU h
def BB (K:Frag) (te tl tk:TE):TE:=fun σ H Q=>te σ H fun x H1=>tl σ H1 fun y H2=>tk σ H2 fun z H3=>∃ a xs,∃ lo st:Nat,x=.ref a∧y=.int lo∧z=.int st∧0<st∧SqT K H3 a xs ∧
 (bV xs lo st=xs→Q (.ref a) H3)∧∀ p,H3 p=none→Q (.ref p) (upd H3 p (.tup (bV xs lo st)))
theorem uB {e g i:Expr} {te tl tk:TE} {p3 pos:Pos} (he:PE X e te) (m:PE X g tl) (hk:PE X i tk):PE X (.Subscript e (.Slice (some g) none (some i) p3) pos) (BB X.K te tl tk):=by
 refine ⟨fun pins s σ H Q I h=>?_⟩
 refine Subscript_ (thn (he.run pins s σ H _ I h) fun v s1 ⟨x,H1,n,r1,p⟩=>?_)
 refine wpAny_Slice ?_
 rw [evalPart_some]
 refine thn (m.run pins s1 σ H1 _ n p) fun vl s2 ⟨y,k,t,B,C⟩=>?_
 refine thn (po_none.run pins s2 σ k (fun o j=>o=none∧j=k) t ⟨rfl,rfl⟩) fun vu s3 ⟨u,j,F,pu,G,J⟩=>?_
 subst G J
 cases pu
 rw [evalPart_some]
 refine thn (hk.run pins s3 σ j _ F C) fun vs s4 ⟨z,l,L,M,N⟩=>?_
 obtain ⟨a,xs,lo,st,rfl,rfl,rfl,h0,O,P,q⟩:=N
 cases r1
 obtain ⟨c,rfl⟩:=B
 obtain ⟨d,rfl⟩:=M
 have f:Inv X pins σ l { s4 with heap:=s4.heap.push { cls:=.type "slice",data:=.fields #[.int lo c,.none,.int st d] } }:=L.kept (t':=s4.toks) fun b ob q=>Heap.get?_push_of_some _ q
 obtain ⟨its,r,ht,R⟩:=f.tuple O
 have hlen:=r.length
 show wpAny (model X.prog X.w) X.A (subscriptTail e (.Slice (some g) none (some i) p3) (.ref a) (.ref s4.heap.objs.size)) (EP X pins σ Q) X.xe { s4 with heap:=s4.heap.push { cls:=.type "slice",data:=.fields #[.int lo c,.none,.int st d] } }
 refine tail_any (ops:=[.ref a,.ref s4.heap.objs.size]) ht.typeIs (PyProof.Rows.slot_tuple_getitem.lookup) ?_ (by with_unfolding_all rfl)
 refine eI ht (Heap.IsSliceOf.new ..) (.int _ _) (.int _ _) h0 ?_ ?_ (by rw [List.size_toArray];omega)
 ·intro e
  exact ⟨.ref a,l,f,rfl,P (Vals.inj (lb r lo st) (by rw [show bV its lo st=its from e];exact r))⟩
 ·refine ⟨.ref _,_,f.laid (t':=s4.toks) (o:=.tup (bV xs lo st)) (fun b ob q=>Heap.get?_push_of_some _ q) (Nat.le_refl _) ?_,rfl,q _ (f.hok.fresh (Nat.le_refl _))⟩
  exact ⟨Nat.le_trans (vG h0) R,_,lb r lo st,IsTup.new _ _⟩
end
theorem vA {ds:List D} {d:D} (e:biD .step ds=some d):∃ xs,∃ lo st:Nat,ds=[.tup xs,.int lo,.int st]∧0<st∧d=.tup (bV xs lo st):=by
 rcases ds with _ | ⟨x,_ | ⟨y,_ | ⟨z,_ | ⟨z2,t⟩⟩⟩⟩
 ·simp [biD] at e
 ·cases x<;>simp [biD] at e
 ·cases x<;>cases y<;>simp [biD] at e
 ·cases x with
  | tup xs=>cases y with
   | int lo=>cases lo with
    | ofNat lo=>cases z with
     | int st=>cases st with
      | ofNat st =>
       have e:(if Nat.blt 0 st then some (D.tup (bV xs lo st)) else none)=some d:=e
       split at e
       ·rename_i h
        cases e
        exact ⟨xs,lo,st,rfl,Nat.blt_eq.mp h,rfl⟩
       ·cases e
      | negSucc st=>simp [biD] at e
     | _=>simp [biD] at e
    | negSucc lo=>simp [biD] at e
   | _=>simp [biD] at e
  | _=>simp [biD] at e
 ·simp [biD] at e
section
variable {C:Ctx} {X:Cx} {c:Cxt} {n m:Nat} {σ:L2.St} {δ δ':Dl} {F H:Hp} {W:Fp} {a:A} {Q:VK}
theorem AQ (ih:SAs C n) (ok:XOk C X c) {es:List E} {l u v:Expr} {p pos:Pos} {as:List A} {ds:List D} {d:D} (hm:mEs m c es [l,u,v]=true) (s:SOk X.K F H σ δ W)
  (j:aL C n es δ=some (as,δ')) (o:looks δ' as=some ds) (t:biD .step ds=some d) (k:af X F H W σ δ' (.tmp d) Q):tW X (.Subscript l (.Slice (some u) none (some v) p) pos) σ H Q:=by
 have go:=ih ok hm s j (Q:=fun vs f=>∃ a xs,∃ lo st:Nat,vs=[.ref a,.int lo,.int st]∧0<st∧SqT X.K f a xs∧(bV xs lo st=xs→Q (.ref a) f)∧∀ p,f p=none→Q (.ref p) (upd f p (.tup (bV xs lo st)))) fun vs F' H' W' Wt p h=>by
  have b:=h.looks p.ok o
  obtain ⟨xs,lo,st,rfl,h0,rfl⟩:=vA t
  cases b with
  | cons B b =>
  cases b with
  | cons G b =>
  cases b with
  | cons I b =>
  cases b
  obtain ⟨a,vs,rfl,g,r⟩:=B.tup
  cases G.int
  cases I.int
  have i:=xO r lo st
  refine ⟨a,vs,lo,st,rfl,h0,aa p.ok.sub g,fun w=>?_,fun q J=>(k.goes p).tuple p.ok.sub J i⟩
  rw [w] at i
  exact (k.goes p).atom p.ok.sub (.tup g i)
 refine aw (uB aq aq aq) (ay go fun x H1 q=>ay q fun y N q=>ay q fun z f ⟨a,xs,lo,st,e,h0,g,L,M⟩=>?_)
 simp only [List.cons.injEq,and_true] at e
 obtain ⟨rfl,rfl,rfl⟩:=e
 exact ⟨a,xs,lo,st,rfl,rfl,rfl,h0,g,L,M⟩
end
theorem call_len_range {prog:Program} {w:World} {A:Around} {E:Value→Shared→Prop} {s:Shared} {r:Addr} {a b c:Int} {t u v:Tok} {Q:Value→Shared→Prop} (d:IsRange s.heap r a b c t u v) (h0:0≤Builtin.Range.rangeSize a b c) (f:Builtin.Range.rangeSize a b c<2 ^ 63)
  (h:Q (.int (Builtin.Range.rangeSize a b c) (s.toks+1)) { s with toks:=s.toks+1+1 }):wpAny (model prog w) A (call (.builtin "len") [.ref r]) Q E s:=by
 have e:s.TypeIs (.ref r) "range" := ⟨_,d,rfl⟩
 refine Calls.call_function_entry kind_len plain_len entry_len (args_len1 _) ?_
 unfold Builtin.«len»
 refine wpAny_bind (m:=oneArg "len" _) (wpAny_pure ?_)
 refine wpAny_bind (m:=callSpecial? (.ref r) (Str.ofString "__len__")) (wpAny_callSpecial?_slot (name:=Str.ofString "__len__") e F.slot_range_len (wpAny_call_entry F.slot_range_len e F.entry_range_len ?_ (F.args_range_len_1 _)))
 unfold Builtin.«range.__len__»
 refine wpAny_bind (wpAny_of_eq (a:=((.ref r:Value),([]:List Value))) rfl ?_)
 refine wpAny_bind (wpAny_rangeFields d ?_)
 show wpAny _ _ (if Builtin.Range.rangeSize a b c ≥ 2 ^ 63 then _ else _) _ _ s
 rw [if_neg (by omega)]
 show wpAny _ _ (retInt (Builtin.Range.rangeSize a b c)) _ _ s
 unfold retInt
 refine wpAny_bind (wpAny_mkInt (wpAny_pure ⟨_,rfl,?_⟩))
 show wpAny _ _ _ _ _ { s with toks:=s.toks+1 }
 refine wpAny_bind (wpAny_holding (wpAny_pure ?_))
 refine wpAny_bind (wpAny_letGo ?_)
 show wpAny _ _ (if Builtin.Range.rangeSize a b c<0 then _ else _) _ _ _
 rw [if_neg (by omega)]
 show wpAny _ _ (if Builtin.Range.rangeSize a b c ≥ 2 ^ 63 then _ else _) _ _ _
 rw [if_neg (by omega)]
 exact wpAny_bind (wpAny_mkInt (wpAny_pure ⟨_,rfl,h⟩))
section
variable {C:Ctx} {X:Cx} {c:Cxt} {n m:Nat} {σ:L2.St} {δ δ':Dl} {F H:Hp} {W:Fp} {a:A} {Q:VK}
theorem zE (ih:SAs C n) (ok:XOk C X c) {es:List E} {y:Expr} {ys:List Expr} {p0 p1 p2 pos:Pos} {as:List A} {ds:List D} {d:D} (gl:glB c "len" = true) (i:glB c "range" = true) (j:mEs m c es (y::ys)=true) (l:noStar (y::ys)=true) (s:SOk X.K F H σ δ W)
  (o:aL C n es δ=some (as,δ')) (w:looks δ' as=some ds) (e:biD .lenr ds=some d) (k:af X F H W σ δ' (.tmp d) Q):tW X (.Call (.Name "len" p0) [.Call (.Name "range" p1) (y::ys) [] p2] [] pos) σ H Q:=by
 have e:(match aN ds with
  | some xs=>if decide (xs.length≤cap) then some (D.int xs.length) else none
  | none=>none)=some d:=e
 split at e
 ·rename_i items z
  split at e
  ·rename_i f
   cases e
   have f:=of_decide_eq_true f
   have go:=ih ok j s o (Q:=fun vs H1=>∃ a b c,RgA vs a b c∧Builtin.Range.small a b c=true∧Builtin.Range.rangeSize a b c=(items.length:Nat)∧Q (.int items.length) H1) fun vs F' H' W' Wt p h=>by
    obtain ⟨a,b,c,r1,g,B,L⟩:=jF z (h.looks p.ok w) f
    exact ⟨a,b,c,r1,g,B,(k.goes p).atom p.ok.sub (.int _)⟩
   intro pins s0 I
   refine Call_ (ld_blt I (ok.gl gl) (ok.blt _ (by decide)) boot_len (PyProof.Rows.callWith_builtin1 (args_cons (thn (gC (ok.gl i) (ok.blt _ (by decide)) l I (au go fun vs H1 ⟨a,b,c,r1,g⟩=>⟨a,b,c,r1,g⟩)) fun x s1 ⟨r,a,b,c,t,u,v,H1,ex,G,J,sm,sz,q⟩=>args_nil ?_) rfl) rfl))
   subst ex
   have:=aA
   have cl:cap≤1000000:=by decide
   refine call_len_range G (by rw [sz];omega) (by rw [sz];omega) ?_
   rw [sz]
   exact ⟨.int items.length,H1,J.tok _,⟨_,rfl⟩,q⟩
  ·cases e
 ·cases e
theorem rV (ok:XOk C X c) {a:Str} {y:Expr} (h:zk c a y=true):(∀ (m:Str) (w:Sem Value),attributeBase y m X.env w=w)∧∀ {σ:L2.St} {H:Hp} {Q:VK},Q (.str a) H→tW X y σ H Q:=by
 unfold zk at h
 split at h
 ·cases ak h
  exact ⟨fun _ _=>rfl,fun q=>aw pe_str q⟩
 ·simp only [Bool.and_eq_true,decide_eq_true_eq] at h
  obtain ⟨⟨b,d⟩,e⟩:=h
  obtain ⟨u,v,mg,f,g⟩:=ok.con _ _ e
  refine ⟨fun _ _=>rfl,fun {σ H Q} q=>aw (pe_glob (ok.gl b) mg f (aU d).1) ?_⟩
  cases g H with
  | str=>exact q
 ·cases h
theorem Ar (ih:SAs C n) (ok:XOk C X c) {sep:Str} {es:List E} {y z:Expr} {p1 pos:Pos} {as:List A} {ds:List D} {d:D} (f:mEs m c es [z]=true) (g:(p1.endLine==pos.line)=true) (i:noStar [z]=true) (j:zk c sep y=true) (s:SOk X.K F H σ δ W)
  (l:aL C n es δ=some (as,δ')) (q:looks δ' as=some ds) (a:biD (.join sep) ds=some d) (k:af X F H W σ δ' (.tmp d) Q):tW X (.Call (.Attribute y "join" p1) [z] [] pos) σ H Q:=by
 have hs:starEach [z] X.env=[(false,eval z X.env)]:=by
  have:=ah X.env i
  rw [this]
  rfl
 obtain ⟨t,u⟩:=rV ok j
 refine aw (pe_join aq aq hs (t _ _) g) ?_
 refine u ⟨⟨_,rfl⟩,?_⟩
 have a:∃ o xs ys,ds=[.lst o xs]∧strsOf xs=some ys∧Nat.ble ((ys.map (·.length)).sum+ys.length*sep.length) 1000000=true∧d=.str (Txt.join sep ys):=by
  match ds,a with
  | [.lst o xs],a =>
   have a:(match strsOf xs with
    | some ys=>if Nat.ble ((ys.map (·.length)).sum+ys.length*sep.length) 1000000 then some (D.str (Txt.join sep ys)) else none
    | none=>none)=some d:=a
   split at a
   ·rename_i ys w
    split at a
    ·rename_i B
     cases a
     exact ⟨_,_,ys,rfl,w,B,rfl⟩
    ·cases a
   ·cases a
 obtain ⟨o,xs,ys,rfl,e,G,rfl⟩:=a
 refine BQ (ih ok f s l fun vs F' H' W' Wt p h=>?_)
 rintro v rfl
 obtain ⟨x,ex,I⟩:=(eV.looks p.ok h q).one
 cases ex
 obtain ⟨b,us,rfl,J,l1,r⟩:=I.lst p.ok.sub
 obtain rfl:=gN (r (dt e)) e
 refine ⟨sep,b,ys,rfl,rfl,.inl (SqL.of J),?_,(k.goes p).atom p.ok.sub (.str _)⟩
 have:=Nat.le_of_ble_eq_true G
 omega
theorem uI {sep:Str} {ds:List D} {d:D} (e:biD (.splt sep) ds=some d):∃ z,ds=[.str z]∧0<sep.length∧z.length≤999000∧d=.lst true ((Txt.split z sep).map .str):=by
 match ds,e with
 | [.str z],e =>
  have e:(if decide (0<sep.length)&&decide (z.length≤999000) then some (D.lst true ((Txt.split z sep).map .str)) else none)=some d:=e
  split at e
  ·rename_i c
   rw [Bool.and_eq_true,decide_eq_true_eq,decide_eq_true_eq] at c
   cases e
   exact ⟨z,rfl,c.1,c.2,rfl⟩
  ·cases e
theorem n9 {K:Frag} {F:Hp}:∀ ys:List Str,RpL K F (ys.map V.str) (ys.map D.str)
 | []=>.nil
 | y::ys=>.cons (.str y) (n9 ys)
theorem Ah (ih:SAs C n) (ok:XOk C X c) {sep:Str} {es:List E} {y z:Expr} {p1 pos:Pos} {as:List A} {ds:List D} {d:D} (a:mEs m c es [y]=true) (b:(p1.endLine==pos.line)=true) (u:noStar [y]=true) (e:noStar [z]=true) (f:zk c sep z=true) (g:kU y=true) (s:SOk X.K F H σ δ W)
  (i:aL C n es δ=some (as,δ')) (j:looks δ' as=some ds) (o:biD (.splt sep) ds=some d) (k:af X F H W σ δ' (.tmp d) Q):tW X (.Call (.Attribute y "split" p1) [z] [] pos) σ H Q:=by
 have hs:starEach [z] X.env=[(false,eval z X.env)]:=by
  have:=ah X.env e
  rw [this]
  rfl
 obtain ⟨w,q⟩:=rV ok f
 refine aw (pe_split aq aq hs (Ob.gO g _ _ _) b) ?_
 obtain ⟨a0,rfl,B,G,rfl⟩:=uI o
 refine BQ (ih ok a s i fun vs F' H' W' Wt p h=>?_)
 rintro v rfl
 obtain ⟨x,ex,r⟩:=(eV.looks p.ok h j).one
 cases ex
 cases r.str
 refine ⟨⟨_,rfl⟩,q ⟨a0,sep,rfl,rfl,?_,?_,fun l t=>?_⟩⟩
 ·rw [beq_eq_false_iff_ne]
  omega
 ·have:=aA
  have:cap=1000000:=rfl
  omega
 ·exact (k.goes p).list p.ok.sub t (n9 _)
end
end Ev
namespace Ev
open PySem PySem.Spec PyProof.Rows L2
section
variable {C:Ctx} {X:Cx} {c:Cxt} {n m:Nat} {σ:L2.St} {δ δ':Dl} {F H:Hp} {W:Fp} {Q:VK}
theorem yy:bootBuiltins "str" = some (.type "str"):=by decide +kernel
theorem nE (ok:XOk C X c) (hg:glB c "str" = true) {b:Expr} {p pos:Pos} (hs:starEach [b] X.env=[(false,eval b X.env)]) {pins:List (Addr × Obj)} {s0:Shared} {R:Str→Hp→Prop} (I:Inv X pins σ H s0) (h:tW X b σ H fun v H1=>∃ a:Int,v=.int a∧a.natAbs.log2<1920∧R (toString a) H1) :
  wpAny (model X.prog X.w) X.A (eval (.Call (.Name "str" p) [b] [] pos) X.env) (fun u s1=>∃ z t H1,u=.str z t∧s0.toks≤t∧t<s1.toks∧Inv X pins σ H1 s1∧R z H1) X.xe s0:=by
 refine wpAny_Call_Name_kw (ld_blt I (ok.gl hg) (ok.blt _ (by decide)) yy ?_ (by decide) (by decide))
 refine PyProof.Rows.callWith_type1 (rest:=[]) ?_ (by rw [hs];rfl) rfl
 rw [hs]
 show wpAny _ _ (spliced ((false,eval b X.env)::backTo pos [])) _ _ s0
 refine Calls.spliced_cons (wpAny_mono (PySem.wpAny_toks (h pins s0 I)) (fun v s1 q=>?_) fun _ _ z=>z.2)
 obtain ⟨hk,v',H1,d,r1,a,rfl,e,q⟩:=q
 obtain ⟨t,rfl⟩:=r1
 refine Calls.spliced_nil ?_
 exact PySem.P.str_of_int e ⟨_,_,H1,rfl,hk,Nat.lt_succ_self _,d.tok _,q⟩
theorem vD (ok:XOk C X c) (hg:glB c "str" = true) {b:Expr} {j:Nat} {p cp g i:Pos} {a:Str} (l:a.length≠0) (hs:starEach [b] X.env=[(false,eval b X.env)]) {pins:List (Addr × Obj)} {s0:Shared} {R:Str→Hp→Prop} (I:Inv X pins σ H s0) (h:tW X b σ H fun v H1=>∃ k:Int,v=.int k∧k.natAbs.log2<1920∧(Str.ofString (toString k)).length≠0∧a.length+(Str.ofString (toString k)).length≤sizeLine∧R (a++Str.ofString (toString k)) H1) :
  wpAny (model X.prog X.w) X.A (eval (.BinOp (.Constant (.str a) j cp) .Add (.Call (.Name "str" p) [b] [] g) i) X.env) (fun u s1=>∃ z t H1,u=.str z t∧t≠0∧t<s1.toks∧Inv X pins σ H1 s1∧R z H1) X.xe s0:=by
 refine wpAny_BinOp (Calls.Constant_str ?_)
 refine wpAny_mono (nE (R:=fun z H1=>z.length≠0∧a.length+z.length≤sizeLine∧R (a++z) H1) ok hg hs (I.tok _) (ay h fun v H1 ⟨k,e,d,f,m,n⟩=>⟨k,e,d,f,m,n⟩)) (fun u s1 q=>?_) fun _ _ z=>z
 obtain ⟨z,t,H1,rfl,d,f,o,l1,l2,q⟩:=q
 have d:s0.toks+1≤t:=d
 refine PySem.P.add_str ?_
 rw [if_neg (by simpa using l),if_neg (by simpa using l1)]
 have l2:(a++z).length≤sizeLine:=by
  show (a.cps++z.cps).size≤sizeLine
  rw [Array.size_append]
  exact l2
 exact ⟨l2,_,_,H1,rfl,Nat.ne_of_gt (Nat.lt_of_le_of_lt (Nat.zero_le _) f),Nat.lt_succ_self _,o.tok _,q⟩
theorem rep_run (ok:XOk C X c) (hg:glB c "str" = true) {y m i:Expr} {j:Nat} {p p2 cp w o B apos pos:Pos} {a:Str} (G:a.length≠0) (J:starEach [m] X.env=[(false,eval m X.env)]) (K:starEach [i] X.env=[(false,eval i X.env)]) (f:attributeBase y "replace" X.env (eval y X.env)=eval y X.env) (g:(apos.endLine==pos.line)=true)
  (h:tW X y σ H fun v1 H1=>∃ x,v1=.str x∧tW X m σ H1 fun v2 n=>∃ k:Int,v2=.int k∧k.natAbs.log2<1920∧(Str.ofString (toString k)).length≠0∧a.length+(Str.ofString (toString k)).length≤sizeLine∧tW X i σ n fun r d=>∃ b:Int,r=.int b∧b.natAbs.log2<1920∧(a++Str.ofString (toString k)==Str.ofString (toString b))=false∧x.length+(x.length+1)*(Str.ofString (toString b)).length≤16777216∧Q (.str (Txt.replace x (a++Str.ofString (toString k)) (Str.ofString (toString b)))) d) :
  tW X (.Call (.Attribute y "replace" apos) [.BinOp (.Constant (.str a) j cp) .Add (.Call (.Name "str" p) [m] [] w) B,.Call (.Name "str" p2) [i] [] o] [] pos) σ H Q:=by
 intro pins s0 I
 refine PySem.Call_method2 f rfl g (thn (h pins s0 I) fun v s1 q=>?_)
 obtain ⟨v',H1,L,r1,x,rfl,q⟩:=q
 obtain ⟨V,rfl⟩:=r1
 refine ⟨"str",_,PySem.F.plainAttrs_str,PySem.F.slot_str_replace,PySem.F.type_str_replace,typeIs_str _ _ _,(fun _ e=>nomatch e),Calls.callWith_builtin rfl (Calls.evalArgs_plain (Calls.spliced_cons ?_))⟩
 refine wpAny_mono (vD (R:=fun z n=>∃ k:Int,z=a++Str.ofString (toString k)∧tW X i σ n fun r d=>∃ b:Int,r=.int b∧b.natAbs.log2<1920∧(a++Str.ofString (toString k)==Str.ofString (toString b))=false∧x.length+(x.length+1)*(Str.ofString (toString b)).length≤16777216∧Q (.str (Txt.replace x (a++Str.ofString (toString k)) (Str.ofString (toString b)))) d) ok hg G J L (ay q fun v H1 ⟨k,e,l1,l2,l3,l4⟩=>⟨k,e,l1,l2,l3,k,rfl,l4⟩)) (fun u s2 q=>?_) fun _ _ z=>z
 obtain ⟨z,t,n,rfl,t0,tl,M,k,rfl,q⟩:=q
 refine Calls.spliced_cons (wpAny_mono (nE (R:=fun z d=>(a++Str.ofString (toString k)==z)=false∧x.length+(x.length+1)*z.length≤16777216∧Q (.str (Txt.replace x (a++Str.ofString (toString k)) z)) d) ok hg K M (ay q fun v d ⟨b,e,l1,l2,l3,l4⟩=>⟨b,e,l1,l2,l3,l4⟩)) (fun u s3 q=>?_) fun _ _ z=>z)
 obtain ⟨z,t2,d,rfl,l,N,O,s,P,q⟩:=q
 refine Calls.spliced_nil ?_
 exact PySem.SC.replace t0 (Nat.ne_of_gt (Nat.lt_of_lt_of_le (Nat.lt_of_le_of_lt (Nat.zero_le _) tl) l)) (Nat.ne_of_lt (Nat.lt_of_lt_of_le tl l)) s P fun t' k=>⟨.str _,d,O.tok k,⟨t',rfl⟩,q⟩
theorem uM {a:Str} {ds:List D} {d:D} (e:biD (.repl a) ds=some d):∃ x k u v,ds=[.str x,.int k,.int u,.int v]∧uO a x k (u+v)=true∧d=.str (Txt.replace x (a++Str.ofString (toString k)) (Str.ofString (toString (u+v)))):=by
 match ds,e with
 | [.str x,.int k,.int u,.int v],e =>
  have e:(if uO a x k (u+v) then some (D.str (Txt.replace x (a++Str.ofString (toString k)) (Str.ofString (toString (u+v))))) else none)=some d:=e
  split at e
  ·rename_i h
   cases e
   exact ⟨x,k,u,v,rfl,h,rfl⟩
  ·cases e
theorem kF {C:Ctx}:∀ {is:List Nat} {n:Nat} {δ δ':Dl} {as:List A} {ds:List D},aL C n (is.map E.var) δ=some (as,δ')→looks δ' as=some ds→δ'=δ∧∀ (j i:Nat),is[j]?=some i→∃ d:D,ds[j]?=some d∧slot δ i=some d
 | [],n,δ,δ',as,ds,e,l=>by
  cases n with
  | zero=>simp [aL] at e
  | succ n =>
   simp only [List.map_nil,aL,Option.some.injEq,Prod.mk.injEq] at e
   exact ⟨e.2.symm,fun j i h=>by simp at h⟩
 | c::is,n,δ,δ',as,ds,e,l=>by
  cases n with
  | zero=>simp [aL] at e
  | succ n =>
  simp only [List.map_cons,aL] at e
  split at e
  ·rename_i a1 δ1 a
   cases n with
   | zero=>simp [evE] at a
   | succ n =>
   simp only [evE] at a
   split at a
   ·rename_i d0 s0
    split at e
    ·rename_i a2 δ2 b
     split at e
     ·rename_i as3 δ3 f
      cases e
      have key:δ2=δ∧(a2=.tmp d0∨a2=.bor c []):=by
       split at a
       ·cases a
        cases b
        exact ⟨rfl,.inl rfl⟩
       ·cases a
        cases b
        exact ⟨rfl,.inr rfl⟩
      obtain ⟨rfl,g⟩:=key
      simp only [looks] at l
      split at l
      ·rename_i dd dds l1 l2
       cases l
       obtain ⟨rfl,q⟩:=kF f l2
       refine ⟨rfl,fun j i h=>?_⟩
       cases j with
       | zero =>
        simp only [List.getElem?_cons_zero,Option.some.injEq] at h
        subst h
        refine ⟨dd,rfl,?_⟩
        rcases g with rfl | rfl
        ·cases l1
         exact s0
        ·simp only [look,s0,D.at] at l1
         rw [s0,l1]
       | succ j=>exact q j i (by simpa using h)
      ·cases l
     ·cases e
    ·cases e
   ·cases a
  ·cases e
theorem Ay (ok:XOk C X c) {a:Str} {i1 i2 b f:Nat} {h l m t:Str} {j:Nat} {B G I J L p p2 cp M z N p1 pos:Pos} {as:List A} {ds:List D} {d:D} (hg:glB c "str" = true) (O:(p1.endLine==pos.line)=true) (P:nmB c i1 h=true∧i8 c h=true∧ax h=true) (Y:nmB c i2 l=true∧i8 c l=true∧ax l=true) (Z:nmB c b m=true∧i8 c m=true∧ax m=true) (n4:nmB c f t=true∧i8 c t=true∧ax t=true) (s:SOk X.K F H σ δ W)
  (e1:aL C n [.var i1,.var i2,.var b,.var f] δ=some (as,δ')) (e2:looks δ' as=some ds) (e3:biD (.repl a) ds=some d) (k:af X F H W σ δ' (.tmp d) Q):tW X (.Call (.Attribute (.Name h B) "replace" p1) [.BinOp (.Constant (.str a) j cp) .Add (.Call (.Name "str" p) [.Name l G] [] M) N,.Call (.Name "str" p2) [.BinOp (.Name m I) .Add (.Name t J) L] [] z] [] pos) σ H Q:=by
 obtain ⟨x,i,u,v,rfl,c,rfl⟩:=uM e3
 unfold uO at c
 simp only [Bool.and_eq_true,decide_eq_true_eq,Bool.not_eq_true',ne_eq] at c
 obtain ⟨⟨⟨⟨⟨⟨c1,c2⟩,c3⟩,c4⟩,c5⟩,c6⟩,c7⟩:=c
 obtain ⟨rfl,w⟩:=kF (is:=[i1,i2,b,f]) e1 e2
 have val:∀ {i:Nat} {d:D},slot δ' i=some d→∃ v,σ[i]?=some (some v)∧Vw X.K F H v d:=fun e=>by
  obtain ⟨v0,U,R,g,o,_⟩:=s.st.zip (aQ e)
  exact ⟨v0,g,_,o⟩
 obtain ⟨_,r1,t1⟩:=w 0 i1 rfl
 cases r1
 obtain ⟨_,r2,t2⟩:=w 1 i2 rfl
 cases r2
 obtain ⟨_,r3,t3⟩:=w 2 b rfl
 cases r3
 obtain ⟨_,r4,t4⟩:=w 3 f rfl
 cases r4
 obtain ⟨_,g1,w1⟩:=val t1
 cases w1.str
 obtain ⟨_,g2,w2⟩:=val t2
 cases w2.int
 obtain ⟨_,g3,w3⟩:=val t3
 cases w3.int
 obtain ⟨_,g4,w4⟩:=val t4
 cases w4.int
 have pv:∀ {i:Nat} {y:Str} {q:Pos} {v:V} {R:VK},nmB c i y=true∧i8 c y=true∧ax y=true→σ[i]?=some (some v)→R v H→tW X (.Name y q) σ H R:=fun n g r=>by
  obtain ⟨d1,d2⟩:=aU n.2.2
  exact aw (pe_var (ok.nm n.1) (ok.vis n.2.1) d1 d2) ⟨_,g,r⟩
 have sz:=sizeLine_eq
 refine rep_run ok hg c3 rfl rfl rfl O (pv P g1 ⟨x,rfl,pv Y g2 ⟨i,rfl,hE c1,c4,by omega,?_⟩⟩)
 refine aw (pe_add aq aq) ?_
 refine pv Z g3 (pv n4 g4 ⟨u,v,rfl,rfl,u+v,rfl,hE c2,c6,c7,?_⟩)
 exact k.atom (.refl s) (.str _)
end
end Ev
namespace Ev
open PySem PySem.Spec PyProof.Rows L2
section
variable {C:Ctx} {X:Cx} {c:Cxt} {n m:Nat} {σ:L2.St} {δ δ':Dl} {F H:Hp} {W:Fp} {a:A} {Q:VK}
theorem DV (ih:SAs C n) (ok:XOk C X c) (e:c.cm=true) {b:Bi} {es:List E} {g:Str} {y:Expr} {ys:List Expr} {p0 pos:Pos} {as:List A} {ds:List D} {d:D} (nb:b.pl=true) (hg:g=biS b) (gl:glB c g=true) (q:mEs m c es (y::ys)=true) (a:noStar (y::ys)=true) (s:SOk X.K F H σ δ W)
  (r:aL C n es δ=some (as,δ')) (t:looks δ' as=some ds) (u:biD b ds=some d) (k:af X F H W σ δ' (.tmp d) Q):tW X (.Call (.Name g p0) (y::ys) [] pos) σ H Q:=by
 subst hg
 obtain ⟨j,l,o,v⟩:=xH b nb
 have go:=ih ok q s r (Q:=fun vs H1=>cW X (biV b) vs H1 Q) fun vs F' H' W' Wt p h=>Bj ok.units (ok.calm e) p.ok.sub nb u (h.looks p.ok t) (k.goes p)
 rcases v with ⟨id,f,i⟩ | ⟨id,f,i⟩
 ·rw [f] at go
  exact aw (pe_callB qq (ok.gl gl) (ok.blt _ j) i (av a) l o (ah _ a) (ao _ _ (aj a))) go
 ·rw [f] at go
  exact aw (pe_callTy qq (ok.gl gl) (ok.blt _ j) i (av a) l o (ah _ a) (ao _ _ (aj a))) go
theorem E8 {x:Expr} {ys:List Expr} {f:Expr} {ks:List Keyword} {pos:Pos}:noStar [.Call f ys ks pos]=true:=rfl
theorem ua (ih:SAs C n) (ok:XOk C X c) (g:c.cm=true) {es:List E} {y:Expr} {ys:List Expr} {p0 p1 p2 pos:Pos} {as:List A} {ds:List D} {d:D} (gl:glB c "list" = true) (l:glB c "range" = true) (o:mEs m c es (y::ys)=true) (z:noStar (y::ys)=true) (s:SOk X.K F H σ δ W)
  (B:aL C n es δ=some (as,δ')) (G:looks δ' as=some ds) (e:biD .lrange ds=some d) (k:af X F H W σ δ' (.tmp d) Q):tW X (.Call (.Name "list" p0) [.Call (.Name "range" p1) (y::ys) [] p2] [] pos) σ H Q:=by
 have e:(match aN ds with
  | some xs=>if decide (xs.length≤cap) then some (D.lst true xs) else none
  | none=>none)=some d:=e
 split at e
 ·rename_i items J
  split at e
  ·rename_i f
   cases e
   have f:=of_decide_eq_true f
   have go:=ih ok o s B (Q:=fun vs H1=>∃ a b c,RgA vs a b c∧Builtin.Range.small a b c=true∧Builtin.Range.rangeSize a b c=(items.length:Nat)∧∀ p,H1 p=none→Q (.ref p) (upd H1 p (.lst (oJ a c items.length)))) fun vs F' H' W' Wt p h=>by
    obtain ⟨a,b,c,r1,i,L,M⟩:=jF J (h.looks p.ok G) f
    refine ⟨a,b,c,r1,i,L,fun q N=>?_⟩
    refine (k.goes p).list p.ok.sub N ?_
    have:=lF (K:=X.K) (F:=F') items.length a c
    rw [← M] at this
    exact this
   intro pins s0 I
   refine Call_ (ld_blt I (ok.gl gl) (ok.blt _ (by decide)) PyProof.Rows.boot_list (PyProof.Rows.callWith_type1 (args_cons (thn (gC (ok.gl l) (ok.blt _ (by decide)) z I (au go fun vs H1 ⟨a,b,c,r1,i⟩=>⟨a,b,c,r1,i⟩)) fun x s1 ⟨r,a,b,c,t,u,v,H1,ex,O,j,sm,sz,q⟩=>args_nil ?_) rfl) rfl))
   subst ex
   have:=aA
   refine call_list_range (n:=items.length) (j.ok.hd (ok.calm g)) O sm sz (Nat.le_trans f (by decide)) fun h' tk acc P hk R hi=>?_
   refine ⟨.ref s1.heap.objs.size,upd H1 s1.heap.objs.size (.lst (oJ a c items.length)),j.laid hk (Nat.le_refl _) (show ObjOk X.prog X.w _ _ _ (.lst (oJ a c items.length)) from ⟨?_,acc.toList,P,oh hi,?_⟩),rfl,q _ (j.hok.fresh (Nat.le_refl _))⟩
   ·rw [nz];omega
   ·rw [Array.toArray_toList];exact R
  ·cases e
 ·cases e
theorem vI (ih:SAs C n) (ok:XOk C X c) (i:c.cm=true) {es:List E} {y:Expr} {ys:List Expr} {p0 p1 p2 pos:Pos} {as:List A} {ds:List D} {d:D} (gl:glB c "tuple" = true) (B:glB c "range" = true) (G:mEs m c es (y::ys)=true) (J:noStar (y::ys)=true) (s:SOk X.K F H σ δ W)
  (L:aL C n es δ=some (as,δ')) (M:looks δ' as=some ds) (f:biD .trange ds=some d) (k:af X F H W σ δ' (.tmp d) Q):tW X (.Call (.Name "tuple" p0) [.Call (.Name "range" p1) (y::ys) [] p2] [] pos) σ H Q:=by
 have f:(match aN ds with
  | some xs=>if decide (xs.length≤cap) then some (D.tup xs) else none
  | none=>none)=some d:=f
 split at f
 ·rename_i items N
  split at f
  ·rename_i g
   cases f
   have g:=of_decide_eq_true g
   have go:=ih ok G s L (Q:=fun vs H1=>∃ a b c,RgA vs a b c∧Builtin.Range.small a b c=true∧Builtin.Range.rangeSize a b c=(items.length:Nat)∧∀ p,H1 p=none→Q (.ref p) (upd H1 p (.tup (oJ a c items.length)))) fun vs F' H' W' Wt p h=>by
    obtain ⟨a,b,c,r1,j,O,P⟩:=jF N (h.looks p.ok M) g
    refine ⟨a,b,c,r1,j,O,fun q R=>?_⟩
    refine (k.goes p).tuple p.ok.sub R ?_
    have:=lF (K:=X.K) (F:=F') items.length a c
    rw [← P] at this
    exact this
   intro pins s0 I
   refine Call_ (ld_blt I (ok.gl gl) (ok.blt _ (by decide)) PyProof.Rows.boot_tuple (PyProof.Rows.callWith_type1 (args_cons (thn (gC (ok.gl B) (ok.blt _ (by decide)) J I (au go fun vs H1 ⟨a,b,c,r1,j⟩=>⟨a,b,c,r1,j⟩)) fun x s1 ⟨r,a,b,c,t,u,v,H1,ex,V,l,sm,sz,q⟩=>args_nil ?_) rfl) rfl))
   subst ex
   have:=aA
   refine call_tuple_range (n:=items.length) (l.ok.hd (ok.calm i)) V sm sz (Nat.le_trans g (by decide)) fun h' tk acc hk hi=>?_
   have z:Inv X pins σ H1 { s1 with heap:=h',toks:=tk }:=l.kept hk
   refine ⟨.ref h'.objs.size,upd H1 h'.objs.size (.tup (oJ a c items.length)),z.laid (t':=tk) (fun c o e=>Heap.get?_push_of_some _ e) (Nat.le_refl _) (show ObjOk X.prog X.w _ _ _ (.tup (oJ a c items.length)) from ⟨?_,acc.toList,oh hi,?_⟩),rfl,q _ (z.hok.fresh (Nat.le_refl _))⟩
   ·rw [nz];omega
   ·rw [Array.toArray_toList];exact IsTup.new _ _
  ·cases f
 ·cases f
theorem foldl_max (ms:List Int):∀ n:Int,ms.foldl max n=pF n ms:=by
 induction ms with
 | nil=>intro n;rfl
 | cons m ms ih =>
  intro n
  rw [List.foldl_cons,ih,pF]
  congr 1
  split<;>omega
theorem vQ {ds:List D} {d:D} (e:biD .maxd ds=some d):∃ o xs z ns,ds=[.lst o xs,.int z]∧intsOf xs=some ns∧d=.int (match ns with
  | []=>z
  | n::ms=>pF n ms):=by
 rcases ds with _ | ⟨x,_ | ⟨y,_ | ⟨w,t⟩⟩⟩
 ·simp [biD] at e
 ·cases x<;>simp [biD] at e
 ·cases x<;>cases y<;>simp [biD] at e
  split at e
  ·rename_i h
   simp at e
   exact ⟨_,_,_,_,rfl,h,by rw [← e]⟩
  ·rename_i h
   simp at e
   exact ⟨_,_,_,_,rfl,h,by rw [← e]⟩
  ·cases e
 ·cases x<;>cases y<;>simp [biD] at e
theorem Ac (ih:SAs C n) (ok:XOk C X c) (b:c.cm=true) {es:List E} {y dx:Expr} {p0 kp pos:Pos} {as:List A} {ds:List D} {d:D} (gl:glB c "max" = true) (g:mEs m c es [y,dx]=true) (f:noStar [y]=true) (s:SOk X.K F H σ δ W)
  (i:aL C n es δ=some (as,δ')) (j:looks δ' as=some ds) (l:biD .maxd ds=some d) (k:af X F H W σ δ' (.tmp d) Q):tW X (.Call (.Name "max" p0) [y] [⟨some "default",dx,kp⟩] pos) σ H Q:=by
 have go:=ih ok g s i (Q:=fun us H1=>∃ x z,us=[x,z]∧q8 X.K [x] [z] H1 Q) fun vs F' H' W' Wt p h=>by
  have t:=h.looks p.ok j
  obtain ⟨o,xs,z,ns,rfl,ei,rfl⟩:=vQ l
  obtain ⟨x,G,rfl,u,w⟩:=t.two
  cases w.int
  obtain ⟨a,rfl,B⟩:=u.ints p.ok.sub ei
  refine ⟨_,_,rfl,a,ns,z,rfl,rfl,SqL.of B,(fun e=>?_),fun I ms e=>?_⟩
  ·subst e
   exact (k.goes p).atom p.ok.sub (.int _)
  ·subst e
   rw [foldl_max]
   exact (k.goes p).atom p.ok.sub (.int _)
 have J:=ok.units
 have sp:=gy (xs:=[y]) (ys:=[dx]) go
 refine aw (pe_callBK (rY (ok.calm b) (by omega)) (ok.gl gl) (ok.blt _ (by decide)) (by decide +kernel) (av f) (sT (kws:=[⟨some "default",dx,kp⟩])) (by decide) (by decide +kernel) (by rw [ah _ f];rfl) (by rw [ah _ f];rfl) rfl rfl rfl) ?_
 refine au sp fun vs H1 ⟨l1,q⟩=>au q fun zs L ⟨l2,x,z,e,r⟩=>?_
 cases vs with
 | nil=>cases l1
 | cons v vs =>
  cases vs with
  | nil =>
   simp only [List.singleton_append,List.cons.injEq] at e
   obtain ⟨rfl,rfl⟩:=e
   exact r
  | cons=>simp at l1
theorem Fm (ih:SAs C n) (ok:XOk C X c) {b:Bi} {es:List E} {x:Expr} (hm:mE (m+1) c (.bi b es) x=true) (s:SOk X.K F H σ δ W) (he:evE C (n+1) (.bi b es) δ=some (a,δ')) (k:af X F H W σ δ' a Q):tW X x σ H Q:=by
 unfold evE at he
 simp only at he
 split at he
 ·rename_i as δ1 o
  split at he
  ·rename_i ds p
   split at he
   ·rename_i d q
    cases he
    unfold mE at hm
    simp only at hm
    split at hm
    ·split at hm
     ·simp only [Bool.and_eq_true] at hm
      obtain ⟨⟨⟨⟨⟨⟨f,g⟩,h⟩,i⟩,j⟩,l⟩,e⟩:=hm
      cases ak f
      cases ak h
      exact ua ih ok e g i j l s o p q k
     ·cases hm
    ·split at hm
     ·simp only [Bool.and_eq_true] at hm
      obtain ⟨⟨⟨⟨⟨⟨f,g⟩,h⟩,i⟩,j⟩,l⟩,e⟩:=hm
      cases ak f
      cases ak h
      exact vI ih ok e g i j l s o p q k
     ·cases hm
    ·split at hm
     ·simp only [Bool.and_eq_true] at hm
      obtain ⟨⟨⟨⟨⟨f,g⟩,h⟩,i⟩,j⟩,e⟩:=hm
      cases ak f
      cases ak h
      exact Ac ih ok e g i j s o p q k
     ·cases hm
    ·split at hm
     ·simp only [Bool.and_eq_true] at hm
      obtain ⟨⟨⟨⟨⟨⟨f,g⟩,h⟩,i⟩,j⟩,l⟩,e⟩:=hm
      cases ak f
      cases ak h
      exact zY ih ok e g i j l s o p q k
     ·cases hm
    ·split at hm
     ·simp only [Bool.and_eq_true] at hm
      obtain ⟨⟨⟨⟨⟨⟨f,g⟩,h⟩,i⟩,j⟩,l⟩,e⟩:=hm
      cases ak f
      cases ak h
      exact Bq ih ok e g i j l s o p q k
     ·cases hm
    ·split at hm
     ·simp only [Bool.and_eq_true] at hm
      obtain ⟨⟨⟨⟨⟨f,g⟩,h⟩,i⟩,j⟩,l⟩:=hm
      cases ak f
      cases ak h
      exact zE ih ok g i j l s o p q k
     ·cases hm
    ·split at hm
     ·simp only [Bool.and_eq_true] at hm
      obtain ⟨⟨⟨⟨f,g⟩,h⟩,i⟩,j⟩:=hm
      cases ak f
      exact Ar ih ok g h i j s o p q k
     ·cases hm
    ·split at hm
     ·simp only [Bool.and_eq_true] at hm
      obtain ⟨⟨⟨⟨⟨⟨f,g⟩,h⟩,i⟩,l⟩,j⟩,r⟩:=hm
      cases ak f
      exact Ah ih ok g h i l j r s o p q k
     ·cases hm
    ·split at hm
     ·simp only [Bool.and_eq_true] at hm
      obtain ⟨⟨⟨⟨⟨⟨⟨⟨⟨⟨⟨⟨⟨⟨⟨⟨⟨f,g⟩,h⟩,i⟩,j⟩,l⟩,t⟩,v1⟩,d1⟩,u⟩,v2⟩,d2⟩,v⟩,w⟩,d3⟩,y⟩,v4⟩,d4⟩:=hm
      cases ak f
      cases ak g
      cases ak h
      cases ak j
      exact Ay ok i l ⟨t,v1,d1⟩ ⟨u,v2,d2⟩ ⟨v,w,d3⟩ ⟨y,v4,d4⟩ s o p q k
     ·cases hm
    ·split at hm
     ·exact AQ ih ok hm s o p q k
     ·cases hm
    ·rename_i nb1 nb2 nb3 nb4 nb4b nb5 nb7 nb8 nb9 nb6
     split at hm
     ·simp only [Bool.and_eq_true] at hm
      obtain ⟨⟨⟨⟨f,g⟩,h⟩,i⟩,e⟩:=hm
      exact DV ih ok e (by cases b<;>first | rfl | exact absurd rfl nb1 | exact absurd rfl nb2 | exact absurd rfl nb3 | exact absurd rfl nb4 | exact absurd rfl nb4b | exact absurd rfl nb5 | exact absurd rfl nb6 | exact absurd rfl (nb7 _) | exact absurd rfl (nb8 _) | exact absurd rfl (nb9 _)) (ak f) g h i s o p q k
     ·cases hm
   ·cases he
  ·cases he
 ·cases he
theorem yi (t:Ty):tyS t∈tU∧bootBuiltins (tyS t)=some (.type (tyN t))∧tyS t≠"__name__" ∧ (tyS t==("__debug__" : Str))=false:=by
 cases t<;>exact ⟨by decide,by decide +kernel,by decide +kernel,by decide +kernel⟩
theorem zX (ok:XOk C X c) {t:Ty} {x:Expr} (h:mTy c t x=true) (q:Q (.ty (tyN t)) H):tW X x σ H Q:=by
 unfold mTy at h
 split at h
 ·rw [Bool.and_eq_true] at h
  cases ak h.1
  obtain ⟨a,b,d,e⟩:=yi t
  exact aw (pe_bltn (v:=.ty (tyN t)) (ok.gl h.2) (ok.blt _ a) b rfl d e) q
 ·cases h
theorem wo (ok:XOk C X c):∀ {ts:List Ty} {xs:List Expr} {Q:List V→Hp→Prop},tZ c ts xs=true→Q (ts.map fun t=>V.ty (tyN t)) H→bM X xs σ H Q
 | [],[],_,_,q=>q
 | [],_::_,_,h,_=>by simp [tZ] at h
 | _::_,[],_,h,_=>by simp [tZ] at h
 | t::ts,x::xs,Q,h,q=>by
  simp only [tZ,Bool.and_eq_true] at h
  exact zX ok h.1 (wo ok h.2 q)
theorem Vw.upd {K:Frag} {v:V} {d:D} {p:Addr} {o:HO} (h:Vw K F H v d) (c:H p=none):Vw K F (upd H p o) v d:=by
 obtain ⟨W,h⟩:=h
 exact ⟨W,h.keep (fun _ _ q=>q) fun b _ z a f=>⟨by rw [upd_ne (ne_of_none a c)];exact a,f⟩⟩
theorem CP (ih:SE C n) (ok:XOk C X c) {j:E} {ts:List Ty} {x:Expr} (hm:mE (m+1) c (.isi j ts) x=true) (s:SOk X.K F H σ δ W) (he:evE C (n+1) (.isi j ts) δ=some (a,δ')) (k:af X F H W σ δ' a Q):tW X x σ H Q:=by
 unfold mE at hm
 simp only at hm
 split at hm
 ·rename_i g p0 y t pos
  simp only [Bool.and_eq_true] at hm
  obtain ⟨⟨⟨⟨⟨w,B⟩,G⟩,l⟩,I⟩,i⟩:=hm
  cases ak w
  unfold evE at he
  simp only at he
  split at he
  ·rename_i v0 δ1 j
   split at he
   ·rename_i d J
    split at he
    ·cases he
    rename_i no
    have no:isObj d=false:=by simpa using no
    cases he
    refine aw (pe_callB (qq (f:=.builtin "isinstance")) (ok.gl B) (ok.blt _ (by decide)) PyProof.Rows.boot_isinstance (av l) (by decide +kernel) (by decide +kernel) (ah _ l) (ao _ _ (aj l))) ?_
    refine ih ok G s j fun v F' H' W' Wt p h=>?_
    have u:=h.look p.ok J
    show tW X t σ H' fun z H1=>cW X (.builtin "isinstance") [v,z] H1 Q
    split at i
    ·rename_i xs L tp
     rw [Bool.and_eq_true] at i
     have hlen:ts.length≤sizeLine:=by
      have:=of_decide_eq_true I
      have:=aA
      have:(10:Nat)≤cap:=by decide
      omega
     refine aw (pe_tup (av i.2)) (wo ok i.1 ⟨by rw [List.length_map];exact hlen,fun q r=>?_⟩)
     refine vE (ts:=ts) (F:=F') (fun b o e=>?_) (u.upd r) no upd_same ?_
     ·rw [upd_ne (ne_of_none (p.ok.sub b o e) r)]
      exact p.ok.sub b o e
     ·exact k _ _ _ _ _ (p.vP (New.tuple p.ok.sub r)) (.tmp (.frz (.bl _)))
    ·cases ts with
     | nil=>simp [tZ] at i
     | cons t0 ts =>
      cases ts with
      | cons _ _=>simp [tZ] at i
      | nil =>
       simp only [tZ,Bool.and_eq_true] at i
       refine zX ok i.1 (yz p.ok.sub u no ?_)
       exact k _ _ _ _ _ p.drop (.tmp (.frz (by rw [show [t0].any (hG d)=hG d t0 by simp];exact .bl _)))
   ·cases he
  ·cases he
 ·cases hm
end
end Ev
namespace Ev
open PySem PySem.Spec PyProof.Rows L2
section
variable {C:Ctx} {X:Cx} {c:Cxt} {n m:Nat} {σ:L2.St} {δ δ':Dl} {F H F0 H0:Hp} {W W0:Fp} {a:A} {Q:VK}
theorem jG {K:Frag} {x:Dl} {Wt:Fp} {v0 v:V} {i:Nat} {p:List Nat} {d1:D} {xs:List D} (q:aC K F0 H0 W0 F H σ δ W Wt) (es:slot δ i=some d1) (I:d1.at p=some (.lst true xs)) (J:σ[i]?=some (some v0)) (pt:bq H v0 p v) :
  ∃ ad vs U,v=.ref ad∧H ad=some (.lst vs)∧OwL K F H vs xs U∧Dj U Wt ∧
   ∀ {f:D→Option D} {vs':List V} {ds':List D},OwL K F H vs' ds' (Un2 U Wt)→f (.lst true xs)=some (.lst true ds')→bL δ i p f=some x→∃ W',aC K F0 H0 W0 F (upd H ad (.lst vs')) σ x W' No:=by
 obtain ⟨L,l,R,g,o0,s1,s2,M,st,z0⟩:=q.ok.st.zip (aQ es)
 rw [J] at g
 cases g
 obtain ⟨v',z,m,o1,s3,z1⟩:=o0.zip I
 cases pt.uniq m
 cases o1 with
 | frz r=>cases r
 | @own ad vs _ _ U2 N B k O P C =>
  refine ⟨ad,vs,U2,rfl,N,O,fun b y t=>q.dj b t (s1 b (s3 b (C b y))),fun {f vs' ds'} o Q d=>?_⟩
  have G:W ad:=s1 _ (s3 _ k)
  have X:¬ Wt ad:=fun t=>q.dj _ t G
  have h:¬ Un2 U2 Wt ad:=fun t=>t.elim P X
  have a:∀ b,b≠ad→upd H ad (.lst vs') b=H b:=fun b n=>upd_ne n
  have j:Ow K F (upd H ad (.lst vs')) (.ref ad) (.lst true ds') (Un2 z Wt):=by
   refine .own (U:=Un2 U2 Wt) upd_same B (.inl k) (o.keep (fun _ _ e=>e) fun b y ob e f=>⟨?_,f⟩) h fun b y=>y.imp (C b) id
   rw [a b (fun c=>h (c▸y))]
   exact e
  unfold bL at d
  rw [es] at d
  simp only at d
  split at d
  ·rename_i s e0
   cases d
   have k1:Kept F H F (upd H ad (.lst vs')) l z:=fun b y n ob e f=>⟨by rw [a b (fun c=>n (c▸k))];exact e,f⟩
   have w:Ow K F (upd H ad (.lst vs')) v0 s (Un2 l Wt):=z1 (fun _ _ e=>e) j k1 (fun b y=>y.imp id fun t=>fun u=>q.dj b t (s1 b u)) (fun b y=>.inl y) (fun b y=>y.imp (s3 b) id) Q e0
   have k0:Kept F H F (upd H ad (.lst vs')) W l:=fun b y n ob e f=>⟨by rw [a b (fun c=>n (c▸s3 _ k))];exact e,f⟩
   have stN:=z0 (fun _ _ e=>e) w k0 (fun b y=>y.imp id fun t=>q.dj b t) (W':=Un2 W Wt) (fun b y=>.inl y) fun b y=>y.imp (s1 b) id
   have lv:∀ b,H b≠none→upd H ad (.lst vs') b≠none:=fun b y=>by
    by_cases e:b=ad
    ·rw [e,upd_same];simp
    ·rw [a b e];exact y
   refine ⟨Un2 W Wt,⟨fun b ob e=>?_,stN,fun b y=>?_⟩,fun _ y=>y.elim,fun _ y=>y.elim,?_⟩
   ·rw [a b (fun c=>by rw [c,B] at e;cases e)]
    exact q.ok.sub b ob e
   ·rcases y with y | y
    ·exact lv b (q.ok.lv b y)
    ·exact lv b (q.lt b y)
   ·refine q.ext.trans ⟨fun _ _ e=>e,fun b ob e=>.inl e,fun b ob e n=>?_,fun b e=>?_,fun b y=>?_⟩
    ·rw [a b (fun c=>n (.inr (c▸G)))]
     exact e
    ·by_cases c:b=ad
     ·rw [c,upd_same] at e;cases e
     ·rw [a b c] at e;exact e
    ·rcases y with y | y | y
     ·exact y.elim
     ·exact .inl (.inr y)
     ·exact .inl (.inl y)
  ·cases d
theorem bq.keep {K:Frag} {H':Hp}:∀ {p:List Nat} {v0 v:V} {d0 d:D} {U:Fp},Ow K F H v0 d0 U→d0.at p=some d→bq H v0 p v→(∀ b,U b→∀ o,H b=some o→F b=none→H' b=some o)→bq H' v0 p v
 | [],v0,v,d0,d,U,o,e,q,k=>q
 | j::p,v0,v,d0,d,U,o,e,⟨a,vs,v1,ev,c,g,q⟩,k=>by
  cases d0 with
  | lst h ds =>
   cases h with
   | true =>
    cases o with
    | frz r=>cases r
    | own h1' i l m t n =>
     cases ev
     rw [c] at h1'
     cases h1'
     simp only [D.at] at e
     split at e
     ·rename_i x ex
      obtain ⟨s,u,f,o1,s1⟩:=m.get ex
      rw [g] at f
      cases f
      exact ⟨a,vs,v1,rfl,k a l _ c i,g,bq.keep o1 e q fun b y=>k b (n b (s1 b y))⟩
     ·cases e
   | false=>simp [D.at] at e
  | _=>simp [D.at] at e
theorem uk (mt:Me):Slot "list" (meS mt) (meN mt)∧typeOf (.builtin (meN mt))=pure (.type "method_descriptor"):=by
 cases mt
 ·exact ⟨PySem.F.slot_list_append,PySem.F.type_list_append⟩
 ·exact ⟨PySem.F.slot_list_pop,PySem.F.type_list_pop⟩
 ·exact ⟨PySem.F.slot_list_pop,PySem.F.type_list_pop⟩
 ·exact ⟨PySem.F.slot_list_extend,PySem.F.type_list_extend⟩
 ·exact ⟨PySem.F.slot_list_remove,PySem.F.type_list_remove⟩
 ·exact ⟨PySem.F.slot_list_index,PySem.F.type_list_index⟩
 ·exact ⟨PySem.F.slot_list_reverse,PySem.F.type_list_reverse⟩
theorem kY {y:Expr} (h:nM y=true) (nm:Str) (env:Env):attributeBase y nm env (eval y env)=eval y env:=by
 cases y with
 | Call f as ks p =>
  cases f with
  | Name g q =>
   cases as with
   | nil =>
    cases ks with
    | nil=>simp [nM] at h
    | cons _ _=>rfl
   | cons _ _=>cases ks<;>rfl
  | _=>cases as<;>cases ks<;>rfl
 | _=>rfl
theorem call_meth (mt:Me) {y:Expr} {xs:List Expr} {apos a:Pos} (b:noStar xs=true) (c:nM y=true) (d:(apos.endLine==a.line)=true) (e:xs.length<20)
  (q:tW X y σ H fun x H1=>tyV X.K "list" x H1∧bM X xs σ H1 fun vs f=>mW X (meN mt) x vs f Q):tW X (.Call (.Attribute y (meS mt) apos) xs [] a) σ H Q:=by
 obtain ⟨f1,f2⟩:=uk mt
 cases xs with
 | nil=>exact aw (pe_bm0 PySem.F.plainAttrs_list f1 f2 Bc aq (kY c _ _) d) q
 | cons z zs=>exact aw (pe_bm PySem.F.plainAttrs_list f1 f2 Bc aq (av b) (kY c _ _) (Ob.qu _ _ b e) d (ah _ b) (ao _ _ (aj b))) q
theorem oP {mt:Me} {a:Dl} {Wt:Fp} {v0 v:V} {ws:List V} {i:Nat} {p:List Nat} {d1 d d' r:D} {ds:List D} (q:aC X.K F0 H0 W0 F H σ δ W Wt) (o:OwL X.K F H ws ds Wt) (es:slot δ i=some d1) (b:d1.at p=some d) (c:σ[i]?=some (some v0)) (pt:bq H v0 p v)
  (em:lR mt d ds=some (r,d')) (g:bL δ i p (fun _=>some d')=some a) (k:af X F0 H0 W0 σ a (.tmp r) Q):mW X (meN mt) v ws H Q:=by
 have:∃ xs,d=.lst true xs:=by
  unfold lR at em
  split at em<;>first | exact ⟨_,rfl⟩ | cases em
 obtain ⟨xs,rfl⟩:=this
 obtain ⟨ad,vs,U,rfl,h,j,dj,fin⟩:=jG q es b c pt
 refine meth_ok q.ok.sub em h j o dj fun n vs' ds' e l o'=>?_
 subst e
 obtain ⟨W',m⟩:=fin (f:=fun _=>some (.lst true ds')) o' rfl g
 exact k _ _ _ _ _ m (.tmp (.frz l))
theorem ro {K:Frag} {x:V} {o:Bool} {xs:List D} (s:Same F H) (h:Vw K F H x (.lst o xs)):tyV K "list" x H:=by
 obtain ⟨a,vs,rfl,b,_⟩:=h.lst s
 exact .inl ⟨rfl,vs,SqL.of b⟩
theorem at_list {K:Frag} {d a:D} {p:List Nat} {v0 v:V} {U:Fp} (s:Same F H) (o:Ow K F H v0 d U) (e:d.at p=some a) (pt:bq H v0 p v):Vw K F H v a:=by
 obtain ⟨v',U',q,o',_⟩:=o.at e
 cases pt.uniq q
 exact ⟨_,o'⟩
theorem zF {id:String} {r:V→List V→Hp→VK→Prop} {x:V} {xs:List V} (h:MtR X id r) (q:r x xs H Q):mW X id x xs H Q:=fun pins s σ v us I a rs=>h pins s σ H x xs v us Q I a rs q
theorem sR {ns:List Int}:(ns.map V.int).all flatV=true:=by
 induction ns with
 | nil=>rfl
 | cons n ns ih=>rw [List.map_cons,List.all_cons,ih];rfl
theorem xP (g:SE C n) (ih:SAs C n) (ok:XOk C X c) {o:E} {es:List E} {x:Expr} (hm:mE (m+1) c (.meth .index o es) x=true) (s:SOk X.K F H σ δ W) (he:evE C (n+1) (.meth .index o es) δ=some (a,δ')) (k:af X F H W σ δ' a Q):tW X x σ H Q:=by
 unfold mE at hm
 simp only at hm
 split at hm
 ·rename_i y nm apos xs u
  simp only [Bool.and_eq_true] at hm
  obtain ⟨⟨⟨⟨⟨⟨I,J⟩,L⟩,M⟩,N⟩,O⟩,P⟩:=hm
  cases ak I
  unfold evE at he
  simp only at he
  split at he
  ·rename_i v0 δ1 R
   split at he
   ·rename_i cc
    rw [Bool.and_eq_true] at cc
    split at he
    ·rename_i as δ2 V
     split at he
     ·rename_i d ds Y Z
      split at he
      ·rename_i r f
       cases he
       refine call_meth .index M N O (of_decide_eq_true P) (g ok J s R fun v F1 H1 W1 Wt p B=>⟨?_,?_⟩)
       ·have c2:=cc.2
        unfold o7 at c2
        split at c2
        ·rename_i e0
         exact ro p.ok.sub (B.look p.ok e0)
        ·cases c2
       ·refine ih ok L p.ok V fun vs F2 H2 W2 Wu q hq=>?_
        have h:=B.ext (δ':=δ) (Wu:=No) q.ext p.dj cc.1
        have sx:=h.look q.ok Y
        have lx:=hq.looks q.ok Z
        unfold AX at f
        split at f
        ·rename_i o1 ys i hi
         split at f
         ·rename_i ns en
          split at f
          ·rename_i j ej
           cases f
           obtain ⟨z,rfl,hz⟩:=lx.one
           cases hz.int
           obtain ⟨ad,rfl,ha⟩:=sx.ints q.ok.sub en
           obtain ⟨g1,g2⟩:=gY i ej
           refine zF mt_index ⟨ad,_,.int i,j,.int i,rfl,rfl,SqL.of ha,rfl,sR,by rw [List.getElem?_map,g1];rfl,by simp [eqV],fun G z' l b=>?_,k.atom (p.aD q) (.int _)⟩
           rw [List.getElem?_map] at b
           cases t:ns[G]? with
           | none=>rw [t] at b;cases b
           | some w =>
            rw [t] at b
            cases b
            have:=g2 G l
            rw [t] at this
            have:w≠i:=fun e=>this (by rw [e])
            simp [eqV,this]
          ·cases f
         ·cases f
        ·cases f
      ·cases he
     ·cases he
    ·cases he
   ·cases he
  ·cases he
 ·cases hm
theorem vk {o:Option D} (h:o7 o=true):∃ b xs,o=some (.lst b xs):=by
 unfold o7 at h
 split at h
 ·exact ⟨_,_,rfl⟩
 ·cases h
theorem zf (B:SE C n) (ih:SAs C n) (ok:XOk C X c) {mt:Me} {o:E} {es:List E} {x:Expr} (hm:mE (m+1) c (.meth mt o es) x=true) (s:SOk X.K F H σ δ W) (he:pb mt (aL C n es) (evE C n o δ)=some (a,δ')) (k:af X F H W σ δ' a Q):tW X x σ H Q:=by
 unfold mE at hm
 simp only at hm
 split at hm
 ·rename_i y nm apos xs L
  simp only [Bool.and_eq_true] at hm
  obtain ⟨⟨⟨⟨⟨⟨h1,h2⟩,M⟩,h4⟩,h5⟩,h6⟩,h7⟩:=hm
  cases ak h1
  unfold pb at he
  split at he
  ·rename_i sl pp δ1 e1
   split at he
   ·rename_i d0 e0
    split at he
    ·rename_i cl
     obtain ⟨ob,aa,N⟩:=vk cl
     split at he
     ·rename_i as δ2 i
      split at he
      ·rename_i ds δ3 O
       split at he
       ·rename_i d1 j
        split at he
        ·rename_i d P
         split at he
         ·rename_i r d' V
          split at he
          ·rename_i δ4 e7
           cases he
           refine call_meth mt h4 h5 h6 (of_decide_eq_true h7) (B ok h2 s e1 fun v F1 H1 W1 Wt p hv=>?_)
           cases hv with
           | @bor v0 _ _ _ _ l pt =>
            obtain ⟨ab,U,R,g,o0,s1,s2,e,st,_⟩:=p.ok.st.zip (aQ e0)
            rw [l] at g
            cases g
            refine ⟨ro p.ok.sub (at_list p.ok.sub o0 N pt),?_⟩
            cases pp with
            | nil =>
             simp only [List.isEmpty_nil,if_true] at i j e7
             refine ih ok M p.ok i fun vs F2 Y W2 Wu q G=>?_
             obtain ⟨Z,q2,I⟩:=(p.aD q).bC G O
             exact oP q2 I j P l (by cases pt;rfl) V e7 k
            | cons k0 pp =>
             simp only [List.isEmpty_cons,Bool.false_eq_true,if_false] at i j e7
             have p':aC X.K F H W F1 H1 σ (δ1.set sl none) R U:=by
              refine ⟨⟨p.ok.sub,st,fun b z=>p.ok.lv b (s2 b z)⟩,e,fun b z=>p.ok.lv b (s1 b z),p.ext.mono (fun _ z=>z) fun b z=>.inl ?_⟩
              rcases z with z | z
              ·exact .inr (s1 b z)
              ·exact .inr (s2 b z)
             refine ih ok M p'.ok i fun vs F2 Y W2 Wu q G=>?_
             obtain ⟨Z,w,I⟩:=q.bC G O
             obtain ⟨dj,h⟩:=p'.dJ w
             have o1:=o0.ext w.ext e
             have J:=bq.keep o0 N pt fun b u ob a f=>(w.ext.apart e b u ob a f).1
             have q5:aC X.K F H W Z Y σ (δ3.set sl (some d0)) (Un2 U W2) Wu:=by
              refine ⟨⟨h.ok.sub,h.ok.st.back l o1 (fun b z t=>dj b z (.inr t)) (fun b z=>.inr z) fun b z=>.inl z,fun b z=>?_⟩,fun b z t=>?_,fun b z=>h.lt b (.inr z),h.ext.mono (fun _ z=>z) fun b z=>.inl ?_⟩
              ·rcases z with z | z
               ·exact h.lt b (.inl z)
               ·exact h.ok.lv b z
              ·rcases t with t | t
               ·exact dj b t (.inl z)
               ·exact w.dj b z t
              ·rcases z with z | z | z
               ·exact .inl (.inr z)
               ·exact .inl (.inl z)
               ·exact .inr z
             exact oP q5 I j P l J V e7 k
          ·cases he
         ·cases he
        ·cases he
       ·cases he
      ·cases he
     ·cases he
    ·cases he
   ·cases he
  ·cases he
 ·cases hm
theorem BL (b:SE C n) (ih:SAs C n) (ok:XOk C X c) {mt:Me} {o:E} {es:List E} {x:Expr} (hm:mE (m+1) c (.meth mt o es) x=true) (s:SOk X.K F H σ δ W) (he:evE C (n+1) (.meth mt o es) δ=some (a,δ')) (k:af X F H W σ δ' a Q):tW X x σ H Q:=by
 cases mt with
 | index=>exact xP b ih ok hm s he k
 | _=>exact zf b ih ok hm s he k
end
end Ev
namespace Ev
open PySem PySem.Spec PyProof.Rows L2
section
variable {K:Frag} {F0 H0 F H:Hp} {W0 W Wt:Fp} {σ:L2.St} {δ:Dl}
theorem RpL.set:∀ {vs:List V} {ds:List D} {v:V} {d:D} (j:Nat),RpL K F vs ds→Rp K F v d→RpL K F (vs.set j v) (ds.set j d)
 | _,_,_,_,_,.nil,_=>by simpa using RpL.nil
 | _,_,_,_,0,.cons _ t,r=>by simpa using RpL.cons r t
 | _,_,_,_,j+1,.cons h t,r=>by simpa using RpL.cons h (RpL.set j t r)
theorem zb {vs:List V} {j:Nat} {y:V} (h:j<vs.length):SlX.putS j y (vs.map some)=(vs.set j y).map some:=by
 unfold SlX.putS
 rw [List.length_map,show j+1-vs.length=0 by omega]
 simp [List.map_set]
theorem kA {v0:V} {i:Nat} {cn:Str} {xs:List D} {j:Nat} {y:V} {d:D} (q:aC K F0 H0 W0 F H σ δ W Wt) (es:slot δ i=some (.mob cn xs)) (x:σ[i]?=some (some v0)) (B:j<xs.length) (r:Rp K F y d) :
  ∃ (a C dx:Addr) (vs:List V),v0=.ref a∧nsIn K mainGlobals cn=some (some (.ref C))∧SlX.Slt H a C dx (vs.map some)∧∃ W',aC K F0 H0 W0 F (SlX.slH H a C dx (SlX.putS j y (vs.map some))) σ (δ.set i (some (.mob cn (xs.set j d)))) W' No:=by
 obtain ⟨G,w,R,g,o0,s1,s2,I,st,z0⟩:=q.ok.st.zip (aQ es)
 rw [x] at g
 cases g
 cases o0 with
 | frz r=>cases r
 | @mob a C dx _ vs _ _ n h hd ne e f1 f2 u v l =>
  have J:j<vs.length:=by rw [l.length];exact B
  refine ⟨a,C,dx,vs,rfl,n,.inr ⟨h,hd⟩,?_⟩
  rw [zb J]
  have L:W a:=s1 _ u
  have M:W dx:=s1 _ v
  have c:∀ b,b≠a→b≠dx→SlX.slH H a C dx ((vs.set j y).map some) b=H b:=fun b N O=>SlX.slH_ne N O
  have m:SlX.slH H a C dx ((vs.set j y).map some) a=some (SlX.SlO a C dx ((vs.set j y).map some)):=upd_same
  have o:SlX.slH H a C dx ((vs.set j y).map some) dx=some (.xd []):=by
   unfold SlX.slH
   rw [upd_ne ne,upd_same]
  generalize SlX.slH H a C dx ((vs.set j y).map some)=H' at *
  have p:Ow K F H' (.ref a) (.mob cn (xs.set j d)) w:=.mob n m o ne (by intro z;have:=congrArg List.length z;simp at this;exact e (List.eq_nil_of_length_eq_zero (by simpa using this))) f1 f2 u v (l.set j r)
  have k0:Kept F H F H' W w:=fun b y n ob e f=>⟨by rw [c b (fun k=>n (k▸u)) (fun k=>n (k▸v))];exact e,f⟩
  have stN:=z0 (fun _ _ e=>e) p k0 (fun b y=>.inl y) (W':=Un2 W Wt) (fun b y=>.inl y) fun b y=>.inl (s1 b y)
  have lv:∀ b,H b≠none→H' b≠none:=fun b y=>by
   by_cases s:b=a
   ·rw [s,m];simp
   ·by_cases t:b=dx
    ·rw [t,o];simp
    ·rw [c b s t];exact y
  refine ⟨Un2 W Wt,⟨fun b ob e=>?_,stN,fun b y=>?_⟩,fun _ y=>y.elim,fun _ y=>y.elim,?_⟩
  ·rw [c b (fun k=>by rw [k,f1] at e;cases e) (fun k=>by rw [k,f2] at e;cases e)]
   exact q.ok.sub b ob e
  ·rcases y with y | y
   ·exact lv b (q.ok.lv b y)
   ·exact lv b (q.lt b y)
  ·refine q.ext.trans ⟨fun _ _ e=>e,fun b ob e=>.inl e,fun b ob e n=>?_,fun b e=>?_,fun b y=>?_⟩
   ·rw [c b (fun k=>n (.inr (k▸L))) (fun k=>n (.inr (k▸M)))]
    exact e
   ·by_cases s:b=a
    ·rw [s,m] at e;cases e
    ·by_cases t:b=dx
     ·rw [t,o] at e;cases e
     ·rw [c b s t] at e;exact e
   ·rcases y with y | y | y
    ·exact y.elim
    ·exact .inl (.inr y)
    ·exact .inl (.inl y)
end
end Ev
namespace Ev
open PySem PySem.Spec PyProof.Rows L2
section
variable {K:Frag} {F H F0 H0:Hp} {W W0:Fp} {σ:L2.St} {δ:Dl}
theorem StL.clear:∀ {σ:L2.St} {δ:Dl} {W:Fp} (i:Nat),StL K F H σ δ W→StL K F H (σ.set i none) (δ.set i none) W
 | _,_,_,_,.nil=>.nil
 | _,_,_,0,.gap h=>.gap h
 | _,_,_,i+1,.gap h=>.gap (StL.clear i h)
 | _,_,_,0,.one _ a _ _ b=>.gap (a.weak b)
 | _,_,_,i+1,.one c a d e b=>.one c (StL.clear i a) d e b
theorem StL.mG:∀ {σ:L2.St} {δ:Dl} {W:Fp} (i:Nat),StL K F H (σ.set i none) δ W→StL K F H σ δ W
 | [],_,_,i,h=>by simpa using h
 | _::_,_,_,0,h=>by
  cases h with
  | gap h=>exact .gap h
 | x::σ,_,_,i+1,h=>by
  simp only [List.set_cons_succ] at h
  cases h with
  | gap h=>exact .gap (StL.mG i h)
  | one a b c d e=>exact .one a (StL.mG i b) c d e
theorem StL.kE (h:StL K F H σ δ W):∀ own:List Nat,StL K F H (wipe σ own) (bu δ own) W
 | []=>h
 | v::vs=>(h.kE vs).clear v
theorem StL.fX:∀ {own:List Nat} {δ:Dl} {W:Fp},StL K F H (wipe σ own) δ W→StL K F H σ δ W
 | [],_,_,h=>h
 | v::vs,_,_,h=>StL.fX (own:=vs) (h.mG v)
theorem dF (σ:L2.St):∀ (own:List Nat) (i:Nat),(wipe σ own)[i]?=if i∈own then (if i<σ.length then some none else none) else σ[i]?
 | [],i=>by simp [wipe]
 | v::vs,i=>by
  unfold wipe
  by_cases h:v=i
  ·subst h
   rw [if_pos List.mem_cons_self]
   by_cases l:v<σ.length
   ·rw [if_pos l,List.getElem?_set_self (by rw [wipe_length];exact l)]
   ·rw [if_neg l,List.getElem?_eq_none (by rw [List.length_set,wipe_length];omega)]
  ·rw [List.getElem?_set_ne h,dF σ vs i]
   have:(i∈v::vs) ↔ i∈vs:=by
    simp only [List.mem_cons]
    exact ⟨fun q=>q.elim (fun e=>absurd e.symm h) id,.inr⟩
   simp only [this]
theorem jn {own is:List Nat} {σ a:L2.St} (h:jH is (wipe σ own) a) (s:∀ i∈is,i∈own):wipe a own=wipe σ own:=by
 have b:a.length=σ.length:=by rw [h.1,wipe_length]
 refine List.ext_getElem? fun i=>?_
 rw [dF,dF]
 by_cases hi:i∈own
 ·rw [if_pos hi,if_pos hi,b]
 ·rw [if_neg hi,if_neg hi,h.2 i fun q=>hi (s i q),dF,if_neg hi]
theorem aC.state {a:L2.St} {δ':Dl} {Wt:Fp} (p:aC K F0 H0 W0 F H σ δ W Wt) (h:StL K F H a δ' W):aC K F0 H0 W0 F H a δ' W Wt:=⟨⟨p.ok.sub,h,p.ok.lv⟩,p.dj,p.lt,p.ext⟩
theorem mj {δ1:Dl}:∀ {own:List Nat} {δ:Dl},StL K F H σ δ W→(∀ v∈own,∀ d,δ1[v]?=some (some d)→∃ x,σ[v]?=some (some x)∧Rp K F x d)→StL K F H σ (kM δ1 δ own) W
 | [],_,h,_=>h
 | v::vs,δ,h,k=>by
  have ih:=mj (own:=vs) h fun u a=>k u (List.mem_cons_of_mem _ a)
  unfold kM
  split
  ·rename_i x ex
   cases x with
   | none=>exact ih.drop v
   | some d =>
    obtain ⟨z,g,r⟩:=k v List.mem_cons_self d ex
    exact ih.back g (.frz (W:=No) r) (fun _ q=>q.elim) (fun _ q=>q) fun _ q=>q.elim
  ·exact ih.drop v
theorem gW:∀ {own:List Nat} {δ:Dl},dh δ own=true→∀ v∈own,∀ d,δ[v]?=some (some d)→d.fz=true
 | u::us,δ,h,v,b,d,e=>by
  unfold dh at h
  rw [Bool.and_eq_true] at h
  rcases List.mem_cons.mp b with q | q
  ·subst q
   have a:=h.1
   rw [slot_of e] at a
   exact a
  ·exact gW h.2 v q d e
theorem aC.push {g c:Fp} {ad:Addr} {acc:List D} {y:V} {d:D} (p:aC K F0 H0 W0 F H σ δ W (Un2 g c)) (h0:H0 ad=none) (o:Ow K F H (.ref ad) (.lst true acc) g) (u:Ow K F H y d c) (dj:Dj g c) :
  ∃ vs,H ad=some (.lst vs)∧vs.length=acc.length∧aC K F0 H0 W0 F (upd H ad (.lst (vs++[y]))) σ δ W (Un2 g c)∧Ow K F (upd H ad (.lst (vs++[y]))) (.ref ad) (.lst true (acc++[d])) (Un2 g c):=by
 cases o with
 | frz r=>cases r
 | @own _ vs _ _ U v j i k l m =>
  have a:∀ b,b≠ad→upd H ad (.lst (vs++[y])) b=H b:=fun b n=>upd_ne n
  have w:¬ W ad:=fun t=>p.dj _ (.inl i) t
  have s:¬ c ad:=fun t=>dj _ i t
  have lv:∀ b,H b≠none→upd H ad (.lst (vs++[y])) b≠none:=fun b y=>by
   by_cases e:b=ad
   ·rw [e,upd_same];simp
   ·rw [a b e];exact y
  have keep:∀ b,b≠ad→∀ ob,H b=some ob→F b=none→upd H ad (.lst (vs++[y])) b=some ob∧F b=none:=fun b n ob e f=>⟨by rw [a b n];exact e,f⟩
  refine ⟨vs,v,k.length,⟨⟨fun b ob e=>?_,p.ok.st.keep (fun _ _ e=>e) fun b q=>keep b (fun e=>w (e▸q)),fun b q=>lv b (p.ok.lv b q)⟩,p.dj,fun b q=>lv b (p.lt b q),?_⟩,?_⟩
  ·rw [a b (fun h=>by rw [h,j] at e;cases e)]
   exact p.ok.sub b ob e
  ·refine ⟨p.ext.fsub,p.ext.fnew,fun b ob e n=>?_,fun b e=>?_,p.ext.wnew⟩
   ·rw [a b (ne_of_none e h0)]
    exact p.ext.keep b ob e n
   ·by_cases h:b=ad
    ·rw [h];exact h0
    ·rw [a b h] at e;exact p.ext.live b e
  ·have l1:=k.keep (F':=F) (H':=upd H ad (.lst (vs++[y]))) (fun _ _ e=>e) fun b q=>keep b (fun e=>l (e▸q))
   have l2:=u.keep (F':=F) (H':=upd H ad (.lst (vs++[y]))) (fun _ _ e=>e) fun b q=>keep b (fun e=>s (e▸q))
   refine .own (U:=Un2 U c) upd_same j (.inl i) (l1.append (.cons (W1:=c) (W2:=No) l2 .nil (fun _ _ q=>q) (fun _ q=>q) fun _ q=>q.elim) (fun b q t=>dj b (m b q) t) (fun b q=>.inl q) fun b q=>.inr q) (fun q=>q.elim l s) fun b q=>q.imp (m b) id
end
section
variable {X:Cx}
def Dw (X:Cx) (ifs:List Expr):TT:=fun σ H Q=>∀ pins s,Inv X pins σ H s →
 wpAny (model X.prog X.w) X.A (forIn ifs true fun c r=>if r=true then do let ok ← isTrue c X.env (eval c X.env);pure (ForInStep.yield ok) else pure (ForInStep.yield r)) (TP X pins σ Q) X.xe s
theorem mh {ifs:List Expr} {t:TT} {σ:L2.St} {H:Hp} {Q:Bool→Hp→Prop} (h:PTs X ifs t) (q:t σ H Q):Dw X ifs σ H Q:=fun pins s I=>h.run pins s σ H Q I q
abbrev vp (X:Cx) (scope:Scope) (s:Shared) (H:Hp) (C:Addr) (cl:List (Str × Addr)) (fp:List Addr):Cx:=X.blk s H scope (compEnvC scope cl C X.env) fp
def aG (X:Cx) (scope:Scope) (t:Expr):TG:=fun v σ H Q=>∀ s0 H0 C cl fp,tWG (vp X scope s0 H0 C cl fp) t v σ H Q
def aTs (X:Cx) (scope:Scope) (fs:List Expr):TT:=fun σ H Q=>∀ s0 H0 C cl fp,Dw (vp X scope s0 H0 C cl fp) fs σ H Q
def aE (X:Cx) (scope:Scope) (y:Expr):TE:=fun σ H Q=>∀ s0 H0 C cl fp,tW (vp X scope s0 H0 C cl fp) y σ H Q
def aI (X:Cx) (scope:Scope) (t it:Expr):TI:=fun σ H Q=>∀ s0 H0 C cl fp,tWI (vp X scope s0 H0 C cl fp) t it σ H Q
theorem pf {scope:Scope} {t:Expr} (s:Shared) (H:Hp) (C:Addr) (cl:List (Str × Addr)) (fp:List Addr):PG (vp X scope s H C cl fp) t (aG X scope t):=⟨fun pins s1 σ H1 v u Q I r h=>h s H C cl fp pins s1 u I r⟩
theorem fh {scope:Scope} {fs:List Expr} (s:Shared) (H:Hp) (C:Addr) (cl:List (Str × Addr)) (fp:List Addr):PTs (vp X scope s H C cl fp) fs (aTs X scope fs):=⟨fun pins s1 σ H1 Q I h=>h s H C cl fp pins s1 I⟩
theorem vh {scope:Scope} {y:Expr} (s:Shared) (H:Hp) (C:Addr) (cl:List (Str × Addr)) (fp:List Addr):PE (vp X scope s H C cl fp) y (aE X scope y):=⟨fun pins s1 σ H1 Q I h=>h s H C cl fp pins s1 I⟩
theorem Bk {scope:Scope} {t it:Expr} (s:Shared) (H:Hp) (C:Addr) (cl:List (Str × Addr)) (fp:List Addr):PI (vp X scope s H C cl fp) t it (aI X scope t it):=⟨fun pins s1 σ H1 R I h=>h s H C cl fp pins s1 I⟩
def tV (C:Ctx) (n:Nat):Prop:=∀ {X:Cx} {c:Cxt},XOk C X c→∀ {m:Nat} {ifs:List E} {fs:List Expr} {σ:L2.St} {δ:Dl} {F H:Hp} {W:Fp} {b:Bool} {δ':Dl} {Q:Bool→Hp→Prop},mTs m c ifs fs=true→SOk X.K F H σ δ W→bR C n ifs δ=some (b,δ')→Tells X F H W σ δ' b Q→Dw X fs σ H Q
variable {C:Ctx} {n m:Nat}
theorem Et (a:ST C n):tV C (n+1):=by
 intro X c ok m ifs fs σ δ F H W b δ' Q hm s he k
 match ifs,he with
 | [],he =>
  simp only [bR] at he
  cases he
  cases jz hm
  exact mh pts_nil (k _ _ _ (.refl s))
 | [c1],he =>
  simp only [bR] at he
  cases m with
  | zero=>simp [mTs] at hm
  | succ m =>
   cases fs with
   | nil=>simp [mTs] at hm
   | cons f fs =>
    simp only [mTs,Bool.and_eq_true] at hm
    cases jz hm.2
    exact mh (pts_one eX) (a ok hm.1 s he k)
 | _::_::_,he=>simp [bR] at he
theorem fM {own:List Nat} {t:Tg} (h:uX own t=true):∀ i∈CG t,i∈own:=fun i hi=>by
 unfold uX at h
 rw [List.all_eq_true] at h
 simpa using h i hi
theorem rH {I:Cxt} {scope:Scope} {own:List Nat} {tg:Tg} {ifs:List E} {elt:E} {t y:Expr} {fs:List Expr} {σ:L2.St} {J:It} {xs ys a:List D} {P L:Dl} {F1 F0 H0 l Q:Hp} {W0 Ws p:Fp} {ad:Addr} {Qe:Hp→Prop}
  (f:∀ s0 H0 R cl fp,XOk C (vp X scope s0 H0 R cl fp) I) (sv:SV C n) (si:tV C n) {m1 m2:Nat} (mt:mTg I tg t=true) (mf:mTs m1 I ifs fs=true) (me:mE m2 I elt y=true) (ti:uX own tg=true)
  (q0:aC X.K F0 H0 W0 l Q (wipe σ own) P Ws p) (o0:Ow X.K l Q (.ref ad) (.lst true a) p) (h0:H0 ad=none) (V:Same F1 l) (w:WkD X.K F1 J xs)
  (e0:lcL (setT C.lock tg) (bR C n ifs) (evV C n elt) own xs a P=some (ys,L))
  (fin:∀ Y He We u,aC X.K F0 H0 W0 Y He (wipe σ own) L We u→Ow X.K Y He (.ref ad) (.lst true ys) u→Same l Y→Qe He) :
  ∃ Wi:Nat→Nat→Hp→Prop,(∃ m,Wi 0 m Q)∧∀ i m H,Wi i m H→(J.stop i H∧Qe H)∨(J.go i H∧∃ Nx:Hp→Prop,(∀ H',Nx H'→∃ m',m'<m∧Wi (i+1) m' H')∧∀ x H',J.yld i H x H' →
   aG X scope t x (wipe σ own) H' fun M Z=>wipe M own=wipe σ own∧aTs X scope fs M Z fun b H3=>if b=true then aE X scope y M H3 fun v H4=>∃ acc,H4 ad=some (.lst acc)∧acc.length<sizeLine∧Nx (upd H4 ad (.lst (acc++[v]))) else Nx H3):=by
 refine ⟨fun i k s=>k=xs.length-i∧i≤xs.length∧∃ Fc Wc δc acc j,aC X.K F0 H0 W0 Fc s (wipe σ own) δc Wc j∧Ow X.K Fc s (.ref ad) (.lst true acc) j∧Same l Fc ∧
  lcL (setT C.lock tg) (bR C n ifs) (evV C n elt) own (xs.drop i) acc δc=some (ys,L),⟨_,rfl,Nat.zero_le _,l,Ws,P,a,p,q0,o0,fun _ _ e=>e,e0⟩,?_⟩
 rintro i k s ⟨rfl,hi,Fc,Wc,δc,acc,j,q,o,sm,e⟩
 by_cases g:i<xs.length
 ·refine .inr ⟨w.goes i Fc s (V.trans sm) q.ok.sub g,fun H'=>∃ Fc Wc δc acc j,aC X.K F0 H0 W0 Fc H' (wipe σ own) δc Wc j∧Ow X.K Fc H' (.ref ad) (.lst true acc) j∧Same l Fc ∧
   lcL (setT C.lock tg) (bR C n ifs) (evV C n elt) own (xs.drop (i+1)) acc δc=some (ys,L),fun H' nx=>⟨xs.length-(i+1),by omega,rfl,g,nx⟩,fun x H' yl=>?_⟩
  obtain ⟨F',rx,nw⟩:=w.yields i Fc s x H' (xs[i]) (V.trans sm) q.ok.sub (by simp [g]) yl
  obtain ⟨_,q1⟩:=q.tR nw
  have o1:=o.ext nw.ext fun _ _ z=>z
  have B:=sm.trans nw.ext.fsub
  rw [List.drop_eq_getElem_cons g] at e
  unfold lcL at e
  split at e
  ·cases e
  ·rename_i δ1 e1
   intro s0 H00 R cl fp
   have r0:aC X.K F' H' Wc F' H' (wipe σ own) δc Wc No:=.refl q1.ok
   refine uP (f s0 H00 R cl fp) mt r0 (.frz rx) e1 fun M W2 r1 _ off=>⟨jn off (fM ti),?_⟩
   have hw:=jn off (fM ti)
   intro s1 F C1 G fp1
   have h:aC X.K F0 H0 W0 F' H' (wipe σ own) δc Wc j:=q1.lY fun b z=>.inl z
   split at e
   ·cases e
   ·rename_i δ2 e2
    refine si (f s1 F C1 G fp1) mf r1.ok e2 fun F2 Z W3 N=>?_
    rw [if_neg Bool.false_ne_true]
    have r:=r1.aD N
    obtain ⟨_,O⟩:=h.dJ r
    refine ⟨F2,W3,bu δ2 own,acc,j,?_,o1.ext r.ext h.dj,B.trans r.ext.fsub,e⟩
    rw [← hw]
    exact (O.lY fun b z=>.inl z).state (O.ok.st.kE own)
   ·rename_i δ2 e2
    refine si (f s1 F C1 G fp1) mf r1.ok e2 fun F2 Z W3 N=>?_
    rw [if_pos rfl]
    split at e
    ·cases e
    ·rename_i d δ3 e3
     split at e
     ·rename_i hl
      have hl:=of_decide_eq_true hl
      intro s2 H02 C2 cl2 fp2
      refine sv (f s2 H02 C2 cl2 fp2) me N.ok e3 fun v F3 H3 W4 Wy r3 oy=>?_
      have c:=(r1.aD N).aD r3
      obtain ⟨dj,O⟩:=h.dJ c
      have o2:=o1.ext c.ext h.dj
      obtain ⟨vs,g1,g2,q3,o3⟩:=O.push h0 o2 oy fun b z t=>dj b z (.inl t)
      have:=aA
      refine ⟨vs,g1,by omega,F3,W4,bu δ3 own,acc++[d],_,?_,o3,B.trans c.ext.fsub,e⟩
      rw [← hw]
      exact q3.state (q3.ok.st.kE own)
     ·cases e
 ·have ei:i=xs.length:=by omega
  subst ei
  rw [List.drop_length] at e
  simp only [lcL] at e
  cases e
  exact .inl ⟨w.stops Fc s (V.trans sm) q.ok.sub,fin _ _ _ _ q o sm⟩
structure LcP (C:Ctx) (X:Cx) (c:Cxt) (n:Nat) (elt:E) (tg:Tg) (k:ItK) (its:List E) (ifs:List E) (own:List Nat) (y t it:Expr) (fs:List Expr) (scope:Scope):Prop where
 blk:blkC c.N c.sc scope (rT c own)=true
 tgm:mTg (c.blk scope) tg t=true
 it:∃ m,mI m c t k its it=true
 ifs:∃ m,mTs m (c.blk scope) ifs fs=true
 elt:∃ m,mE m (c.blk scope) elt y=true
 tin:uX own tg=true
 cm:c.cm=true
theorem dG (c:Cxt) (own:List Nat):(rT c own).map (·.2)=own:=by
 unfold rT
 rw [List.map_map]
 exact (List.map_congr_left fun _ _=>rfl).trans (List.map_id _)
variable {c:Cxt}
theorem LcP.ok {elt:E} {tg:Tg} {k:ItK} {its ifs:List E} {own:List Nat} {y t it:Expr} {fs:List Expr} {scope:Scope} (h:LcP C X c n elt tg k its ifs own y t it fs scope) (ok:XOk C X c):BlkOk X.N X.env.scope scope (rT c own):=by
 rw [ok.hN,ok.sc]
 exact blkOk_by h.blk
def lcT (X:Cx) (own:List Nat) (y t it:Expr) (fs:List Expr) (scope:Scope):TE:=tLc (tWI X t it) (aG X scope t) (aTs X scope fs) (aE X scope y) own
theorem CL {elt:E} {tg:Tg} {l:ItK} {its ifs:List E} {own:List Nat} {y t it:Expr} {fs:List Expr} {scope:Scope} (h:LcP C X c n elt tg l its ifs own y t it fs scope) (ok:XOk C X c) (b:SIt C n) (r:SV C n) (si:tV C n) {σ:L2.St} {δ δ':Dl} {F H:Hp} {W:Fp} {a:A} {Q:VK}
  (s:SOk X.K F H σ δ W) (he:evE C (n+1) (.lc elt tg l its ifs own) δ=some (a,δ')) (k:af X F H W σ δ' a Q):lcT X own y t it fs scope σ H Q:=by
 unfold evE at he
 simp only at he
 split at he
 ·rename_i xs δ1 u
  split at he
  ·rename_i fz
   split at he
   ·rename_i ys δ2 B
    cases he
    obtain ⟨N,e⟩:=h.it
    obtain ⟨O,f⟩:=h.ifs
    obtain ⟨P,i⟩:=h.elt
    refine b ok e s u fun F1 H1 W1 J p w=>?_
    intro D j
    have p1:=(p.state (p.ok.st.kE own)).vP (New.list (vs:=[]) p.ok.sub j)
    have o1:Ow X.K F1 (upd H1 D (.lst [])) (.ref D) (.lst true []) (At D):=Ow.list p.ok.sub j .nil
    refine rH (F1:=F1) (fun s0 H0 G cl fp=>ok.blk h.blk s0 H0 G cl fp) r si h.tgm f i h.tin p1 o1 (p.ext.live D j) (fun _ _ z=>z) w B fun V He Y I q o sm=>?_
    refine k _ _ _ _ _ (q.state (mj q.ok.st.fX fun v L d m=>?_)) (.tmp o)
    obtain ⟨x,U,R,g,M,_⟩:=p.ok.st.zip m
    exact ⟨x,g,(M.fz (gW fz v L d m)).mono sm⟩
   ·cases he
  ·cases he
 ·cases he
theorem MI.free {k:ItK} {es:List E} {t x:Expr} {m:Nat} (h:mI m c t k es x=true) (env:Env):∀ v,foldedSetIterable x env v=pure v:=by
 intro v
 unfold mI at h
 split at h
 ·cases h
 split at h
 ·rw [Bool.and_eq_true,Bool.not_eq_true'] at h
  cases x<;>first | rfl | simp [cP] at h
 ·simp only [Bool.and_eq_true,Bool.not_eq_true'] at h
  cases x<;>first | rfl | simp [cP] at h
 all_goals
  split at h<;>first | rfl | cases h
theorem EN {elt:E} {tg:Tg} {b:ItK} {its ifs:List E} {own:List Nat} {x:Expr} {σ:L2.St} {δ δ':Dl} {F H:Hp} {W:Fp} {a:A} (ok:XOk C X c) (d:SIt C n) (g:SV C n) (si:tV C n) (hm:mE (m+1) c (.lc elt tg b its ifs own) x=true)
  (s:SOk X.K F H σ δ W) (he:evE C (n+1) (.lc elt tg b its ifs own) δ=some (a,δ')) :
  ∃ y t it fs scope pos,x=.ListComp y [⟨t,it,fs,0⟩] scope pos∧LcP C X c n elt tg b its ifs own y t it fs scope∧(∀ v,foldedSetIterable it X.env v=pure v)∧∀ {Q:VK},af X F H W σ δ' a Q→lcT X own y t it fs scope σ H Q:=by
 unfold mE at hm
 simp only at hm
 split at hm
 ·simp only [Bool.and_eq_true] at hm
  obtain ⟨⟨⟨⟨⟨⟨h,i⟩,f⟩,j⟩,l⟩,o⟩,e⟩:=hm
  have L:LcP C X c n elt tg b its ifs own _ _ _ _ _:=⟨h,i,⟨_,f⟩,⟨_,j⟩,⟨_,l⟩,o,e⟩
  exact ⟨_,_,_,_,_,_,rfl,L,MI.free f _,fun {Q} k=>CL L ok d g si s he k⟩
 ·cases hm
theorem DN {own:List Nat} {y t it:Expr} {fs:List Expr} {scope:Scope} {pos:Pos} {elt:E} {tg:Tg} {a:ItK} {its ifs:List E} (ok:XOk C X c) (L:LcP C X c n elt tg a its ifs own y t it fs scope) (hf:∀ v,foldedSetIterable it X.env v=pure v):PE X (.ListComp y [⟨t,it,fs,0⟩] scope pos) (lcT X own y t it fs scope):=by
 have:=pe_lc (X:=X) (pos:=pos) (elt:=y) (tg:=t) (ifs:=fs) (g:=aG X scope t) (tt:=aTs X scope fs) (te:=aE X scope y) (ok.calm L.cm) ok.nd p5 (L.ok ok) (fun s H C cl fp=>pf s H C cl fp) (fun s H C cl fp=>fh s H C cl fp) (fun s H C cl fp=>vh s H C cl fp) hf
 rw [dG] at this
 exact this
theorem Dh {elt:E} {tg:Tg} {d:ItK} {its ifs:List E} {own:List Nat} {x:Expr} {σ:L2.St} {δ δ':Dl} {F H:Hp} {W:Fp} {a:A} {Q:VK} (ok:XOk C X c) (b:SIt C n) (e:SV C n) (si:tV C n) (hm:mE (m+1) c (.lc elt tg d its ifs own) x=true)
  (s:SOk X.K F H σ δ W) (he:evE C (n+1) (.lc elt tg d its ifs own) δ=some (a,δ')) (k:af X F H W σ δ' a Q):tW X x σ H Q:=by
 obtain ⟨y,t,it,fs,scope,pos,rfl,L,hf,go⟩:=EN ok b e si hm s he
 exact aw (DN ok L hf) (go k)
structure zq (C:Ctx) (X:Cx) (c:Cxt) (elt:E) (tg:Tg) (k:ItK) (its:List E) (tg2:Tg) (k2:ItK) (its2:List E) (own own2:List Nat) (y t it t2 it2:Expr) (scope:Scope):Prop where
 blk:blkC c.N c.sc scope (rT c own)=true
 tgm:mTg (c.blk scope) tg t=true
 it:∃ m,mI m c t k its it=true
 tgm2:mTg (c.blk scope) tg2 t2=true
 it2:∃ m,mI m (c.blk scope) t2 k2 its2 it2=true
 elt:∃ m,mE m (c.blk scope) elt y=true
 sub:∀ i∈own2,i∈own
 tin:uX own tg=true
 tin2:uX own2 tg2=true
 cm:c.cm=true
theorem zq.ok {elt:E} {tg tg2:Tg} {k k2:ItK} {its its2:List E} {own own2:List Nat} {y t it t2 it2:Expr} {scope:Scope} (h:zq C X c elt tg k its tg2 k2 its2 own own2 y t it t2 it2 scope) (ok:XOk C X c):BlkOk X.N X.env.scope scope (rT c own):=by
 rw [ok.hN,ok.sc]
 exact blkOk_by h.blk
def EG (X:Cx) (own own2:List Nat) (y t it t2 it2:Expr) (scope:Scope):TE:=tLc2 (tWI X t it) (aG X scope t) (aTs X scope []) (aI X scope t2 it2) (aG X scope t2) (aTs X scope []) (aE X scope y) own own2
theorem Az {elt:E} {tg tg2:Tg} {kk k2:ItK} {its its2:List E} {own own2:List Nat} {y t it t2 it2:Expr} {scope:Scope} (h:zq C X c elt tg kk its tg2 k2 its2 own own2 y t it t2 it2 scope) (ok:XOk C X c) (u:SIt C n) (sv:SV C n) (si:tV C n) {σ:L2.St} {δ δ':Dl} {F H:Hp} {W:Fp} {a:A} {Q:VK}
  (s:SOk X.K F H σ δ W) (he:evE C (n+1) (.lc2 elt tg kk its tg2 k2 its2 own own2) δ=some (a,δ')) (k:af X F H W σ δ' a Q):EG X own own2 y t it t2 it2 scope σ H Q:=by
 unfold evE at he
 simp only at he
 split at he
 ·rename_i xs δ1 e1
  split at he
  ·rename_i fz
   split at he
   ·rename_i ys δ2 e2
    cases he
    obtain ⟨mi,L⟩:=h.it
    obtain ⟨ab,B⟩:=h.it2
    obtain ⟨me,M⟩:=h.elt
    refine u ok L s e1 fun F1 H1 W1 J p w=>?_
    intro D N
    have p1:=(p.state (p.ok.st.kE own)).vP (New.list (vs:=[]) p.ok.sub N)
    have o1:Ow X.K F1 (upd H1 D (.lst [])) (.ref D) (.lst true []) (At D):=Ow.list p.ok.sub N .nil
    have O:=p.ext.live D N
    let stp:=pR (setT C.lock tg) (cH C n k2 its2) (lcL (setT C.lock tg2) (bR C n []) (evV C n elt) own2) own own2
    have P:stp xs [] (bu δ1 own)=some (ys,δ2):=e2
    refine ⟨fun i m r=>m=xs.length-i∧i≤xs.length∧∃ Fc Wc δc acc j,aC X.K F H W Fc r (wipe σ own) δc Wc j∧Ow X.K Fc r (.ref D) (.lst true acc) j∧Same F1 Fc∧stp (xs.drop i) acc δc=some (ys,δ2),
     ⟨_,rfl,Nat.zero_le _,F1,W1,_,[],_,p1,o1,fun _ _ z=>z,P⟩,?_⟩
    rintro i m r ⟨rfl,hi,Fc,Wc,δc,acc,j,q,o,sm,e⟩
    by_cases f:i<xs.length
    ·refine .inr ⟨w.goes i Fc r sm q.ok.sub f,fun H'=>∃ Fc Wc δc acc j,aC X.K F H W Fc H' (wipe σ own) δc Wc j∧Ow X.K Fc H' (.ref D) (.lst true acc) j∧Same F1 Fc∧stp (xs.drop (i+1)) acc δc=some (ys,δ2),
      fun H' nx=>⟨xs.length-(i+1),by omega,rfl,f,nx⟩,fun x H' yl=>?_⟩
     obtain ⟨F',rx,nw⟩:=w.yields i Fc r x H' (xs[i]) sm q.ok.sub (by simp [f]) yl
     obtain ⟨_,q1⟩:=q.tR nw
     have o1:=o.ext nw.ext fun _ _ z=>z
     have V:=sm.trans nw.ext.fsub
     rw [List.drop_eq_getElem_cons f] at e
     have e:pR (setT C.lock tg) (cH C n k2 its2) (lcL (setT C.lock tg2) (bR C n []) (evV C n elt) own2) own own2 (xs[i]::xs.drop (i+1)) acc δc=some (ys,δ2):=e
     unfold pR at e
     split at e
     ·cases e
     ·rename_i δ3 e3
      split at e
      ·cases e
      ·rename_i zs δ4 e4
       split at e
       ·cases e
       ·rename_i G δ5 e5
        intro s0 H00 Y cl fp
        have r0:aC X.K F' H' Wc F' H' (wipe σ own) δc Wc No:=.refl q1.ok
        refine uP (ok.blk h.blk s0 H00 Y cl fp) h.tgm r0 (.frz rx) e3 fun σ2 W2 r1 _ off=>⟨jn off (fM h.tin),?_⟩
        have hw:=jn off (fM h.tin)
        have I:aC X.K F H W F' H' (wipe σ own) δc Wc j:=q1.lY fun b z=>.inl z
        refine fun s1 ac C1 ad fp1=>mh pts_nil ?_
        unfold tYes
        dsimp only
        rw [if_pos rfl]
        intro s2 H02 C2 cl2 fp2
        refine u (ok.blk h.blk s2 H02 C2 cl2 fp2) B r1.ok e4 fun F2 H2 W3 J1 r2 w1=>?_
        have l:=r1.aD r2
        obtain ⟨_,q2⟩:=I.dJ l
        have q3:aC X.K F H W F2 H2 (wipe σ2 own2) (bu δ4 own2) W3 j:=(q2.lY fun b z=>.inl z).state (q2.ok.st.kE own2)
        have o3:=o1.ext l.ext I.dj
        refine rH (m1:=1) (F1:=F2) (fun s0 H0 Y cl fp=>ok.blk h.blk s0 H0 Y cl fp) sv si h.tgm2 rfl M h.tin2 q3 o3 O (fun _ _ z=>z) w1 e5 fun Fe He We Z q4 o4 aa=>?_
        refine ⟨Fe,We,bu δ5 own,G,Z,?_,o4,(V.trans l.ext.fsub).trans aa,e⟩
        rw [← hw]
        exact q4.state (q4.ok.st.fX.kE own)
    ·have ei:i=xs.length:=by omega
     subst ei
     rw [List.drop_length] at e
     have e:pR (setT C.lock tg) (cH C n k2 its2) (lcL (setT C.lock tg2) (bR C n []) (evV C n elt) own2) own own2 [] acc δc=some (ys,δ2):=e
     simp only [pR] at e
     cases e
     refine .inl ⟨w.stops Fc r sm q.ok.sub,?_⟩
     refine k _ _ _ _ _ (q.state (mj q.ok.st.fX fun v hv d ed=>?_)) (.tmp o)
     obtain ⟨x,U,R,g,ow,_⟩:=p.ok.st.zip ed
     exact ⟨x,g,(ow.fz (gW fz v hv d ed)).mono sm⟩
   ·cases he
  ·cases he
 ·cases he
theorem BG {elt:E} {tg tg2:Tg} {b k2:ItK} {its its2:List E} {own own2:List Nat} {x:Expr} {σ:L2.St} {δ δ':Dl} {F H:Hp} {W:Fp} {a:A} (ok:XOk C X c) (d:SIt C n) (j:SV C n) (si:tV C n) (hm:mE (m+1) c (.lc2 elt tg b its tg2 k2 its2 own own2) x=true)
  (s:SOk X.K F H σ δ W) (he:evE C (n+1) (.lc2 elt tg b its tg2 k2 its2 own own2) δ=some (a,δ')) :
  ∃ y t it t2 it2 scope pos,x=.ListComp y [⟨t,it,[],0⟩,⟨t2,it2,[],0⟩] scope pos∧zq C X c elt tg b its tg2 k2 its2 own own2 y t it t2 it2 scope∧(∀ v,foldedSetIterable it X.env v=pure v)∧(∀ env v,foldedSetIterable it2 env v=pure v)∧∀ {Q:VK},af X F H W σ δ' a Q→EG X own own2 y t it t2 it2 scope σ H Q:=by
 unfold mE at hm
 simp only at hm
 split at hm
 ·simp only [Bool.and_eq_true] at hm
  obtain ⟨⟨⟨⟨⟨⟨⟨⟨⟨l,o⟩,f⟩,p⟩,g⟩,q⟩,h⟩,r⟩,u⟩,e⟩:=hm
  have L:zq C X c elt tg b its tg2 k2 its2 own own2 _ _ _ _ _ _:=⟨l,o,⟨_,f⟩,p,⟨_,g⟩,⟨_,q⟩,fun i hi=>by
   rw [List.all_eq_true] at h
   simpa using h i hi,r,u,e⟩
  exact ⟨_,_,_,_,_,_,_,rfl,L,MI.free f _,fun env=>MI.free g env,fun {Q} k=>Az L ok d j si s he k⟩
 ·cases hm
theorem AM {elt:E} {tg tg2:Tg} {b k2:ItK} {its its2:List E} {own own2:List Nat} {y t it t2 it2:Expr} {scope:Scope} {pos:Pos} (ok:XOk C X c) (L:zq C X c elt tg b its tg2 k2 its2 own own2 y t it t2 it2 scope) (hf:∀ v,foldedSetIterable it X.env v=pure v) (a:∀ env v,foldedSetIterable it2 env v=pure v) :
  PE X (.ListComp y [⟨t,it,[],0⟩,⟨t2,it2,[],0⟩] scope pos) (EG X own own2 y t it t2 it2 scope):=by
 have:=pe_lc2 (X:=X) (pos:=pos) (elt:=y) (tg:=t) (tg1:=t2) (ifs:=[]) (ifs1:=[]) (g:=aG X scope t) (g1:=aG X scope t2) (tt:=aTs X scope []) (tt1:=aTs X scope []) (wi1:=aI X scope t2 it2) (te:=aE X scope y) (vs1:=own2) (ok.calm L.cm) ok.nd p5 (L.ok ok) (fun i hi=>by rw [dG];exact L.sub i hi)
  (fun s H C cl fp=>pf s H C cl fp) (fun s H C cl fp=>fh s H C cl fp) (fun s H C cl fp=>Bk s H C cl fp) (fun s H C cl fp=>pf s H C cl fp) (fun s H C cl fp=>fh s H C cl fp) (fun s H C cl fp=>vh s H C cl fp) hf a
 rw [dG] at this
 exact this
theorem A6 {elt:E} {tg tg2:Tg} {e k2:ItK} {its its2:List E} {own own2:List Nat} {x:Expr} {σ:L2.St} {δ δ':Dl} {F H:Hp} {W:Fp} {a:A} {Q:VK} (ok:XOk C X c) (b:SIt C n) (f:SV C n) (si:tV C n) (hm:mE (m+1) c (.lc2 elt tg e its tg2 k2 its2 own own2) x=true)
  (s:SOk X.K F H σ δ W) (he:evE C (n+1) (.lc2 elt tg e its tg2 k2 its2 own own2) δ=some (a,δ')) (k:af X F H W σ δ' a Q):tW X x σ H Q:=by
 obtain ⟨y,t,it,t2,it2,scope,pos,rfl,L,hf,d,go⟩:=BG ok b f si hm s he
 exact aw (AM ok L hf d) (go k)
end
end Ev
namespace L2
open PySem PySem.Spec PyProof.Rows
section
variable {prog:Program} {w:World} {A:Around} {E:Value→Shared→Prop} {s:Shared}
theorem yK {l:Addr} {items:Array Value} {x:Value} {mids:List Value} {Q:List Value→Shared→Prop} (f:s.heap.IsList l items) (q:A.handled=none) (g:items.toList=x::mids) (r:items.size≤sizeLine)
  (h:∀ (h':Heap) (tk:Nat),(∀ b o,s.heap.get? b=some o→h'.get? b=some o)→Q [x,.ref h'.objs.size] { s with heap:=h'.push { cls:=.type "list",data:=.seq mids.toArray },toks:=tk }):wpAny (model prog w) A (unpackItems (.ref l) 2 (some 1)) Q E s:=by
 have t:items.size=mids.length+1:=by
  have:=congrArg List.length g
  simpa using this
 have a:l≠s.heap.objs.size:=by obtain ⟨o,i,_⟩:=f;exact Nat.ne_of_lt (Heap.lt_size i)
 have v:l<s.heap.objs.size:=by obtain ⟨o,i,_⟩:=f;exact Heap.lt_size i
 unfold unpackItems
 refine wpAny_bind ?_
 unfold notIterableAtAll
 refine wpAny_bind (wpAny_specialOf f.typeIs slot_list_iter.lookup ?_)
 refine wpAny_pure ?_
 simp only [Bool.false_eq_true,if_false]
 refine wpAny_bind (wpAny_holding (wpAny_pyIter_list f ?_))
 refine wpAny_bind (wpAny_holding (PySem.W.kun_draw a 1 0 _ _ ⟨_,Heap.get?_push_size _ rfl,rfl,rfl⟩ (f.push _) (by omega) fun h₁ hit₁ hs₁=>?_))
 have hl₁:Heap.IsList h₁ l items:=(f.push _).extBut hs₁.extBut a
 rw [Nat.zero_add] at hit₁
 have hit₁':=hit₁
 obtain ⟨y,m,_⟩:=hit₁'
 have hl₁':=hl₁
 obtain ⟨ol,n,_⟩:=hl₁'
 rw [List.drop_zero]
 have p:(items.toList.take 1).length=1:=by rw [g];rfl
 rw [if_neg (show ¬ ((items.toList.take 1).length<1) by rw [p];omega)]
 refine wpAny_bind (wpAny_holding (PySem.W.kun_collect (s:={ s with heap:=h₁ }) (T:="list_iterator") (.inr (.inr (.inl rfl))) (Walks.list (A:=A.in1) q s.heap.objs.size l a items) (fun j u st=>st.1.typeIs) (k:=1) (by omega) ⟨hit₁,hl₁⟩ (Heap.lt_size m) (Heap.lt_size n) (fun h₂ tk hk=>?_) r))
 have hd:items.toList.drop 1=mids:=by rw [g];rfl
 have ht:items.toList.take 1=[x]:=by rw [g];rfl
 rw [hd,ht]
 show wpAny _ _ (if mids.length<2-1-1 then _ else _) _ _ _
 rw [if_neg (by omega)]
 show wpAny _ _ (newList (mids.take (mids.length-0)) >>= fun d=>pure ([x]++[d]++mids.drop (mids.length-0))) _ _ _
 rw [Nat.sub_zero,List.take_length,List.drop_length]
 have c:∀ b o,s.heap.get? b=some o→h₂.get? b=some o:=fun b o e=>hk b o (Nat.ne_of_lt (Heap.lt_size e)) (hs₁.extBut b o (Nat.ne_of_lt (Heap.lt_size e)) (Heap.get?_push_of_some _ e))
 exact wpAny_bind (wpAny_newObj_type (wpAny_pure (h h₂ tk c)) (by show mids.toArray.size≤sizeLine;rw [List.size_toArray];omega))
theorem zD {l:Addr} {items:Array Value} {x:Value} {mids:List Value} {Q:List Value→Shared→Prop} (f:IsTup s.heap l items) (q:A.handled=none) (g:items.toList=x::mids) (r:items.size≤sizeLine)
  (h:∀ (h':Heap) (tk:Nat),(∀ b o,s.heap.get? b=some o→h'.get? b=some o)→Q [x,.ref h'.objs.size] { s with heap:=h'.push { cls:=.type "list",data:=.seq mids.toArray },toks:=tk }):wpAny (model prog w) A (unpackItems (.ref l) 2 (some 1)) Q E s:=by
 have t:items.size=mids.length+1:=by
  have:=congrArg List.length g
  simpa using this
 have a:l≠s.heap.objs.size:=by obtain ⟨o,i,_⟩:=f;exact Nat.ne_of_lt (Heap.lt_size i)
 have v:l<s.heap.objs.size:=by obtain ⟨o,i,_⟩:=f;exact Heap.lt_size i
 unfold unpackItems
 refine wpAny_bind ?_
 unfold notIterableAtAll
 refine wpAny_bind (wpAny_specialOf f.typeIs slot_tuple_iter.lookup ?_)
 refine wpAny_pure ?_
 simp only [Bool.false_eq_true,if_false]
 refine wpAny_bind (wpAny_holding (iter_tuple f ?_))
 refine wpAny_bind (wpAny_holding (draw_tuple a 1 0 _ _ ⟨_,Heap.get?_push_size _ rfl,rfl,rfl⟩ (f.push _) (by omega) fun h₁ hit₁ hs₁=>?_))
 have hl₁:IsTup h₁ l items:=(f.push _).extBut hs₁.extBut a
 rw [Nat.zero_add] at hit₁
 have hit₁':=hit₁
 obtain ⟨y,m,_⟩:=hit₁'
 have hl₁':=hl₁
 obtain ⟨ol,n,_⟩:=hl₁'
 rw [List.drop_zero]
 have p:(items.toList.take 1).length=1:=by rw [g];rfl
 rw [if_neg (show ¬ ((items.toList.take 1).length<1) by rw [p];omega)]
 refine wpAny_bind (wpAny_holding (PySem.W.kun_collect (s:={ s with heap:=h₁ }) (T:="tuple_iterator") (.inr (.inr (.inr rfl))) (Walks.tuple (A:=A.in1) q s.heap.objs.size l a items) (fun j u st=>st.1.typeIs) (k:=1) (by omega) ⟨hit₁,hl₁⟩ (Heap.lt_size m) (Heap.lt_size n) (fun h₂ tk hk=>?_) r))
 have hd:items.toList.drop 1=mids:=by rw [g];rfl
 have ht:items.toList.take 1=[x]:=by rw [g];rfl
 rw [hd,ht]
 show wpAny _ _ (if mids.length<2-1-1 then _ else _) _ _ _
 rw [if_neg (by omega)]
 show wpAny _ _ (newList (mids.take (mids.length-0)) >>= fun d=>pure ([x]++[d]++mids.drop (mids.length-0))) _ _ _
 rw [Nat.sub_zero,List.take_length,List.drop_length]
 have c:∀ b o,s.heap.get? b=some o→h₂.get? b=some o:=fun b o e=>hk b o (Nat.ne_of_lt (Heap.lt_size e)) (hs₁.extBut b o (Nat.ne_of_lt (Heap.lt_size e)) (Heap.get?_push_of_some _ e))
 exact wpAny_bind (wpAny_newObj_type (wpAny_pure (h h₂ tk c)) (by show mids.toArray.size≤sizeLine;rw [List.size_toArray];omega))
end
section
variable {X:Cx}
def EJ (K:Frag) (i j:Nat):TG:=fun v σ H Q=>∃ a x xs,v=.ref a∧(H a=some (.lst (x::xs))∨SqT K H a (x::xs))∧∀ D,H D=none→Q ((σ.set i (some x)).set j (some (.ref D))) (upd H D (.lst xs))
theorem yM {i j:Nat} {x y:Str} {l py ps pos:Pos} {k:Nat} (p:X.calm=true) (hN:X.N.Nodup) (hi:X.N[i]?=some x) (z:X.N[j]?=some y) (B:Loc X.env.scope x) (C:Loc X.env.scope y) (F:X.fn x=true∨X.env.scope.names.lookup x=some .local) (G:X.fn y=true∨X.env.scope.names.lookup y=some .local) :
  PG X (.Tuple [.Name x l,.Starred (.Name y py) ps] k pos) (EJ X.K i j):=by
 refine ⟨fun pins s σ H v u Q I r hw=>?_⟩
 obtain ⟨a,x0,xs,J,g,hw⟩:=hw
 subst J
 cases r
 have fin:∀ (c:Value) (mids:List Value),RelV x0 c→Vals xs mids→xs.length≤sizeLine→∀ (h':Heap) (tk:Nat),(∀ b o,s.heap.get? b=some o→h'.get? b=some o) →
   wpAny (model X.prog X.w) X.A (assignInOrder [assign (.Name x l) X.env,assign (.Name y py) X.env] [c,.ref h'.objs.size]) (fun _ L=>∃ q H',Inv X pins q H' L∧Q q H') X.xe { s with heap:=h'.push { cls:=.type "list",data:=.seq mids.toArray },toks:=tk }:=fun c mids h d f h' tk hk=>by
  have t:Inv X pins σ H { s with heap:=h',toks:=tk }:=I.kept (t':=tk) hk
  have fr:H h'.objs.size=none:=t.hok.fresh (Nat.le_refl _)
  have M:Inv X pins σ (upd H h'.objs.size (.lst xs)) { s with heap:=h'.push { cls:=.type "list",data:=.seq mids.toArray },toks:=tk } :=
   t.laid (t':=tk) (fun b o e=>Heap.get?_push_of_some _ e) (Nat.le_refl _) ⟨f,mids,0,d,Heap.get?_push_size _ rfl⟩
  refine assignInOrder_cons (wpAny_assign_Name (store_ok M hN hi B h (fun s2 O=>?_) F))
  refine assignInOrder_cons (wpAny_assign_Name (store_ok (v:=V.ref h'.objs.size) O hN z C rfl (fun s3 P=>assignInOrder_nil ?_) G))
  exact ⟨_,_,P,hw _ fr⟩
 rw [assign_Tuple]
 refine wpAny_bind (wpAny_standAt ?_)
 unfold unpack
 show wpAny _ _ (holding [.ref a] (unpackItems (.ref a) 2 (some 1)) >>= fun vs=>assignInOrder [assign (.Name x l) X.env,assign (.Name y py) X.env] vs) _ _ _
 rcases g with g | g
 ·obtain ⟨f,its,n,m,e⟩:=(show ObjOk X.prog X.w H s.heap a (.lst (x0::xs)) from I.hok a _ g)
  cases m with
  | cons h d =>
   rename_i c mids
   refine wpAny_bind (wpAny_holding (yK (x:=c) (mids:=mids) (items:=(c::mids).toArray) ⟨_,e,rfl,n,rfl⟩ (I.ok.hd p) (by simp) (by have:=d.length;simp only [List.length_cons] at f;simp;omega) fun h' tk hk=>?_))
   exact fin c mids h d (by simp only [List.length_cons] at f;omega) h' tk hk
 ·obtain ⟨its,m,e,f⟩:=I.tuple g
  cases m with
  | cons h d =>
   rename_i c mids
   refine wpAny_bind (wpAny_holding (zD (x:=c) (mids:=mids) (items:=(c::mids).toArray) e (I.ok.hd p) (by simp) (by have:=d.length;simp only [List.length_cons] at f;simp;omega) fun h' tk hk=>?_))
   exact fin c mids h d (by simp only [List.length_cons] at f;omega) h' tk hk
end
end L2
namespace Ev
open PySem PySem.Spec PyProof.Rows L2
def Fin (X:Cx) (lock:List Nat) (F H:Hp) (W:Fp) (σ:L2.St) (D:Ends):Fl→Prop
 | .nx δ'=>∀ σ' F' H' W',aC X.K F H W F' H' σ' δ' W' No→bB lock σ σ'→D.nx σ' H'
 | .ct δ'=>∀ σ' F' H' W',aC X.K F H W F' H' σ' δ' W' No→bB lock σ σ'→D.ct σ' H'
 | .bk δ'=>∀ σ' F' H' W',aC X.K F H W F' H' σ' δ' W' No→bB lock σ σ'→D.bk σ' H'
 | .rt d δ'=>∀ v σ' F' H' W' Wt,aC X.K F H W F' H' σ' δ' W' Wt→Ow X.K F' H' v d Wt→bB lock σ σ'→D.rt v H'
def SS (C:Ctx) (n:Nat):Prop:=∀ {X:Cx} {c:Cxt},XOk C X c→∀ {m:Nat} {st:S} {x:Stmt} {σ:L2.St} {δ:Dl} {F H:Hp} {W:Fp} {fl:Fl} {D:Ends},mS m c st x=true→SOk X.K F H σ δ W→evS C n st δ=some fl→Fin X C.lock F H W σ D fl→tWS X x D σ H
def SSs (C:Ctx) (n:Nat):Prop:=∀ {X:Cx} {c:Cxt},XOk C X c→∀ {m:Nat} {ss:List S} {xs:List Stmt} {σ:L2.St} {δ:Dl} {F H:Hp} {W:Fp} {fl:Fl} {D:Ends},mSs m c ss xs=true→SOk X.K F H σ δ W→aT C n ss δ=some fl→Fin X C.lock F H W σ D fl→vi X xs D σ H
section
variable {C:Ctx} {X:Cx} {c:Cxt} {n m:Nat} {σ σ1:L2.St} {δ δ' δ1:Dl} {F H F1 H1:Hp} {W W1:Fp} {D:Ends} {lock:List Nat}
theorem Fin.after {fl:Fl} (h:Fin X lock F H W σ D fl) (p:aC X.K F H W F1 H1 σ1 δ1 W1 No) (b:bB lock σ σ1):Fin X lock F1 H1 W1 σ1 D fl:=by
 cases fl with
 | nx δ'=>exact fun a F' H' W' q l=>h a F' H' W' (p.aD q) (b.trans l)
 | ct δ'=>exact fun a F' H' W' q l=>h a F' H' W' (p.aD q) (b.trans l)
 | bk δ'=>exact fun a F' H' W' q l=>h a F' H' W' (p.aD q) (b.trans l)
 | rt d δ'=>exact fun v a F' H' W' Wt q o l=>h v a F' H' W' Wt (p.aD q) o (b.trans l)
theorem Fj (a:SS C n) (ih:SSs C n):SSs C (n+1):=by
 intro X c ok m ss xs σ δ F H W fl D hm s he k
 cases m with
 | zero=>simp [mSs] at hm
 | succ m =>
 cases ss with
 | nil =>
  cases xs with
  | cons _ _=>simp [mSs] at hm
  | nil =>
   simp only [aT] at he
   cases he
   exact lI pss_nil (k _ _ _ _ (.refl s) .refl)
 | cons st ss =>
  cases xs with
  | nil=>simp [mSs] at hm
  | cons x xs =>
   simp only [mSs,Bool.and_eq_true] at hm
   simp only [aT] at he
   refine lI (pss_cons AW eO) ?_
   split at he
   ·rename_i δ1 e
    exact a ok hm.1 s e fun g F' H' W' p f=>ih ok hm.2 p.ok he (k.after p f)
   ·rename_i b
    refine a ok hm.1 s he ?_
    cases fl with
    | nx δ1=>exact absurd he (b δ1)
    | ct δ1=>exact k
    | bk δ1=>exact k
    | rt d δ1=>exact k
theorem ES {y:Expr} (h:oz y=false) (t:Option Expr) (l:Nat) (env:Env):swapsWith y t l env=pure false:=by
 cases y<;>first | rfl | simp [oz] at h
theorem Em {nm:Str} {y:Expr} {p:Pos} {env:Env} (l:Nat) (h:env.scope.names.lookup nm=some .cell):swapsWith y (some (.Name nm p)) l env=pure false:=by
  have a:(env.kindOf nm==some NameKind.local)=false:=by
    have:env.kindOf nm=some .cell:=h
    rw [this]
    rfl
  unfold swapsWith
  cases y<;>first
    | rfl
    | (show pure (env.blockKind==.function&&env.kindOf nm==some .local&&_&&_)=_
       rw [a,Bool.and_false,Bool.false_and,Bool.false_and])
theorem yn {y:Expr} {ts:List Expr} {k:Nat} {p:Pos} (l:Nat) (env:Env):swapsWith y (some (.Tuple ts k p)) l env=pure false:=by
 cases y<;>rfl
theorem DX {y o i:Expr} {p:Pos} (l:Nat) (env:Env):swapsWith y (some (.Subscript o i p)) l env=pure false:=by
 cases y<;>rfl
theorem Af (a:SE C n) (ok:XOk C X c) {e:E} {x:Stmt} {fl:Fl} (hm:mS (m+1) c (.ret e) x=true) (s:SOk X.K F H σ δ W) (he:evS C (n+1) (.ret e) δ=some fl) (k:Fin X C.lock F H W σ D fl):tWS X x D σ H:=by
 unfold mS at hm
 simp only at hm
 split at hm
 ·unfold evS at he
  simp only at he
  split at he
  ·rename_i d δ1 f
   cases he
   refine bc (ps_ret aq) (a ok hm s f fun v F' H' W' Wt p h=>?_)
   cases h with
   | tmp o=>exact k v σ F' H' W' Wt p o .refl
  ·rename_i i δ1 f
   split at he
   ·rename_i d j
    split at he
    ·cases he
    ·cases he
     refine bc (ps_ret aq) (a ok hm s f fun v F' H' W' Wt p h=>?_)
     cases h with
     | @bor v0 _ _ _ _ g q =>
      cases q
      obtain ⟨r,U,R,l,o,s1,s2,dj,st,_⟩:=p.ok.st.zip (aQ j)
      rw [g] at l
      cases l
      refine k _ σ F' H' R U ⟨⟨p.ok.sub,st,fun b z=>p.ok.lv b (s2 b z)⟩,dj,fun b z=>p.ok.lv b (s1 b z),p.ext.mono (fun _ z=>z) fun b z=>.inl ?_⟩ o .refl
      rcases z with z | z
      ·exact .inr (s1 b z)
      ·exact .inr (s2 b z)
   ·cases he
  ·rename_i i p0 δ1 _ f
   split at he
   ·rename_i d δ2 j
    cases he
    refine bc (ps_ret aq) (a ok hm s f fun v F' H' W' Wt p h=>?_)
    obtain ⟨t,p2,o⟩:=p.toV h j
    exact k v σ t H' W' Wt p2 o .refl
   ·cases he
  ·cases he
 ·cases hm
theorem xY (b:SE C n) (ok:XOk C X c) {e:E} {x:Stmt} {fl:Fl} (hm:mS (m+1) c (.expr e) x=true) (s:SOk X.K F H σ δ W) (he:evS C (n+1) (.expr e) δ=some fl) (k:Fin X C.lock F H W σ D fl):tWS X x D σ H:=by
 unfold mS at hm
 simp only at hm
 split at hm
 ·rw [Bool.and_eq_true,Bool.not_eq_true'] at hm
  unfold evS at he
  simp only at he
  split at he
  ·rename_i a δ1 d
   cases he
   exact bc (ps_expr aq (ES hm.2 _ _ _)) (b ok hm.1 s d fun v F' H' W' Wt p h=>k σ F' H' W' p.drop .refl)
  ·cases he
 ·cases hm
theorem DZ (d:ST C n) (ih:SSs C n) (ok:XOk C X c) {e:E} {a b:List S} {x:Stmt} {fl:Fl} (hm:mS (m+1) c (.ifs e a b) x=true) (s:SOk X.K F H σ δ W) (he:evS C (n+1) (.ifs e a b) δ=some fl) (k:Fin X C.lock F H W σ D fl):tWS X x D σ H:=by
 unfold mS at hm
 simp only at hm
 split at hm
 ·simp only [Bool.and_eq_true] at hm
  obtain ⟨⟨g,h⟩,i⟩:=hm
  unfold evS at he
  simp only at he
  split at he
  ·rename_i δ1 f
   refine bc (ps_if eX eO eO) (d ok g s f fun F' H' W' p=>?_)
   rw [if_pos rfl]
   exact ih ok h p.ok he (k.after p .refl)
  ·rename_i δ1 f
   refine bc (ps_if eX eO eO) (d ok g s f fun F' H' W' p=>?_)
   rw [if_neg Bool.false_ne_true]
   exact ih ok i p.ok he (k.after p .refl)
  ·cases he
 ·cases hm
theorem sW {ts ys:List Expr} {k k2:Nat} {p p2:Pos} {env:Env} (h:(ts.length==2||ts.length==3)=false):swappedStores [.Tuple ts k p] (.Tuple ys k2 p2) env=pure none:=by
 unfold swappedStores
 simp [h]
theorem lJ {ts ys:List Expr} {k k2:Nat} {p p2:Pos} {env:Env} (h:ys.all (foldedForSure 8)=true):swappedStores [.Tuple ts k p] (.Tuple ys k2 p2) env=pure none:=by
 unfold swappedStores
 simp only [h]
 simp
theorem nq (ok:XOk C X c) {ts ys:List Expr} {k k2:Nat} {p p2:Pos} (h:ts.all (yD c (kD ts))=false):swappedStores [.Tuple ts k p] (.Tuple ys k2 p2) X.env=pure none:=by
 have b:(ts.head?.map (·.pos.line)).getD 0=kD ts:=by cases ts<;>rfl
 unfold swappedStores
 simp only [b]
 simp
 intro _ _ _ _ hall
 exfalso
 rw [List.all_eq_false] at h
 obtain ⟨x,d,hn⟩:=h
 have a:=hall x d
 apply hn
 unfold yD
 cases x with
 | Name id pos =>
  simp only at a ⊢
  split at a
  ·rename_i cc
   have c1:c.sc.names.lookup id=some .local:=by
    have:=cc.1
    rw [show X.env.kindOf id=c.sc.names.lookup id by show X.env.scope.names.lookup id=_;rw [ok.sc]] at this
    exact this
   rw [Bool.and_eq_true]
   exact ⟨by unfold loB;rw [c1],by simpa using cc.2⟩
  ·simp at a
 | _=>simp at a
theorem uC {x y:Str} {c py p p2:Pos} {a b:Expr} {k k2:Nat} {env:Env} (hk:env.scope.kind=.function) (d:env.scope.names.lookup x=some .local) (f:env.scope.names.lookup y=some .local) (g:(py.line==c.line)=true) (ne:x≠y) (ns:noStar [a,b]=true) (hf:Ao [a,b]=true) :
  swappedStores [.Tuple [.Name x c,.Name y py] k p] (.Tuple [a,b] k2 p2) env=pure (some [x,y]):=by
 have i:(env.kindOf x==some .local)=true:=by show (env.scope.names.lookup x==some .local)=true;rw [d];rfl
 have j:(env.kindOf y==some .local)=true:=by show (env.scope.names.lookup y==some .local)=true;rw [f];rfl
 have l:(env.blockKind != .function)=false:=by unfold Env.blockKind;rw [hk];rfl
 unfold Ao at hf
 rw [Bool.and_eq_true,Bool.not_eq_true',Bool.not_eq_true'] at hf
 have st:([a,b].any fun | .Starred ..=>true | _=>false)=false:=by
  cases a<;>first | (cases b<;>first | rfl | simp [noStar] at ns) | simp [noStar] at ns
 have dd:[x,y].eraseDups=[x,y]:=by
  have:(y==x)=false:=by rw [beq_eq_false_iff_ne];exact fun e=>ne e.symm
  simp [List.eraseDups_cons,this]
 unfold swappedStores
 simp only [List.head?_cons,Option.map_some,Option.getD_some,Expr.pos,List.filterMap_cons,i,j,g,l,hf.1,hf.2,st,dd]
 simp [dd]
 intro h
 exfalso
 rcases h with h | h
 ·cases a<;>simp_all [noStar]
 ·cases b<;>first | (simp at h;done) | (cases a<;>simp [noStar] at ns)
theorem pd {x y z:Str} {c py g p p2:Pos} {a b d:Expr} {k k2:Nat} {env:Env} (hk:env.scope.kind=.function) (i:env.scope.names.lookup x=some .local) (j:env.scope.names.lookup y=some .local) (l:env.scope.names.lookup z=some .local) (m:(py.line==c.line)=true) (f:(g.line==c.line)=true)
  (ne:x≠y) (ne2:x≠z) (ne3:y≠z) (ns:noStar [a,b,d]=true) (hf:Ao [a,b,d]=true) :
  swappedStores [.Tuple [.Name x c,.Name y py,.Name z g] k p] (.Tuple [a,b,d] k2 p2) env=pure (some [x,y,z]):=by
 have n:(env.kindOf x==some .local)=true:=by show (env.scope.names.lookup x==some .local)=true;rw [i];rfl
 have o:(env.kindOf y==some .local)=true:=by show (env.scope.names.lookup y==some .local)=true;rw [j];rfl
 have q:(env.kindOf z==some .local)=true:=by show (env.scope.names.lookup z==some .local)=true;rw [l];rfl
 have r:(env.blockKind != .function)=false:=by unfold Env.blockKind;rw [hk];rfl
 unfold Ao at hf
 rw [Bool.and_eq_true,Bool.not_eq_true',Bool.not_eq_true'] at hf
 have dd:[x,y,z].eraseDups=[x,y,z]:=by
  have s:(y==x)=false:=by rw [beq_eq_false_iff_ne];exact fun e=>ne e.symm
  have t:(z==x)=false:=by rw [beq_eq_false_iff_ne];exact fun e=>ne2 e.symm
  have u:(z==y)=false:=by rw [beq_eq_false_iff_ne];exact fun e=>ne3 e.symm
  simp [List.eraseDups_cons,s,t,u]
 unfold swappedStores
 simp only [List.head?_cons,Option.map_some,Option.getD_some,Expr.pos,List.filterMap_cons,n,o,q,m,f,r,hf.1,hf.2,dd]
 simp [dd]
 intro h
 exfalso
 rcases h with h | h | h
 ·cases a<;>simp_all [noStar]
 ·cases b<;>first | (simp at h;done) | (cases a<;>simp [noStar] at ns)
 ·cases d<;>first | (simp at h;done) | (cases a<;>cases b<;>simp [noStar] at ns)
theorem qS:∀ {is:List Nat},dist is=true→is.Nodup
 | [],_=>.nil
 | i::is,h=>by
  unfold dist at h
  rw [Bool.and_eq_true,Bool.not_eq_true'] at h
  refine List.nodup_cons.mpr ⟨fun q=>?_,qS h.2⟩
  have:is.contains i=true:=by simpa using q
  rw [this] at h
  cases h.1
theorem gR {l:Nat} {x:Expr} (h:yD c l x=true):∃ n p,x=.Name n p∧loB c n=true∧(p.line==l)=true:=by
 unfold yD at h
 split at h
 ·rw [Bool.and_eq_true] at h
  exact ⟨_,_,rfl,h.1,h.2⟩
 ·cases h
theorem iB {i:Nat} {n:Str} {p:Pos} (h:mNm c i (.Name n p)=true):nmB c i n=true∧stB c n=true:=by
 simpa [mNm] using h
theorem Bn (ih:SAs C n) (ok:XOk C X c) {is:List Nat} {es:List E} {x:Stmt} {fl:Fl} (hm:mS (m+1) c (.par is es) x=true) (s:SOk X.K F H σ δ W) (he:evS C (n+1) (.par is es) δ=some fl) (k:Fin X C.lock F H W σ D fl):tWS X x D σ H:=by
 unfold mS at hm
 simp only at hm
 split at hm
 ·rename_i ts k1 p1 ys k2 p2 pos
  rw [Bool.and_eq_true,Bool.and_eq_true,Bool.and_eq_true,Bool.and_eq_true,Bool.and_eq_true,Bool.and_eq_true] at hm
  obtain ⟨⟨⟨⟨⟨⟨J,B⟩,f⟩,h4⟩,h5⟩,G⟩,M⟩:=hm
  have h4:=beq_iff_eq.mp h4
  have h5:=of_decide_eq_true h5
  unfold evS at he
  simp only at he
  split at he
  ·rename_i as δ1 e1
   split at he
   ·rename_i ds δ2 e2
    split at he
    ·rename_i δ3 N
     cases he
     have P:ts.length=is.length:=by
      have:∀ {is:List Nat} {ts:List Expr},j7 c is ts=true→ts.length=is.length:=by
       intro is
       induction is with
       | nil=>intro ts h;cases ts<;>simp_all [j7]
       | cons i is ih =>
        intro ts h
        cases ts with
        | nil=>simp [j7] at h
        | cons t ts =>
         simp only [j7,Bool.and_eq_true] at h
         rw [List.length_cons,List.length_cons,ih h.2]
      exact this f
     have d:swappedStores [.Tuple ts k1 p1] (.Tuple ys k2 p2) X.env=pure none→tWS X (.Assign [.Tuple ts k1 p1] (.Tuple ys k2 p2) pos) D σ H:=fun hw=>by
      obtain ⟨n1,n2⟩:=eG X.env f
      refine bc (ps_asg (pe_tup (av B)) (pg_tup (ok.calm M) (js ok f) n1 n2) rfl hw rfl) (ih ok J s e1 fun vs F' H' W' Wt p h=>?_)
      obtain ⟨F2,g,o⟩:=p.bC h e2
      have l2:=o.length
      have l3:=jM e2
      have l4:=jO e1
      have l5:=mO J
      have:=aA
      have:(10:Nat)≤cap:=by decide
      refine ⟨by omega,fun q hq=>⟨q,vs,rfl,SqT.of upd_same,by omega,?_⟩⟩
      have nw:=New.tuple (vs:=vs) g.ok.sub hq
      obtain ⟨dj,p3⟩:=g.tR nw
      have o3:=o.keep (F':=upd F2 q (.tup vs)) (H':=upd H' q (.tup vs)) nw.ext.fsub (nw.ext.apart fun _ _ z=>z)
      exact ft (p3.lY fun b z=>.inl z) o3 N fun σ' W'' R V _=>k _ _ _ _ R V
     simp only [Bool.or_eq_true,Bool.and_eq_true,Bool.not_eq_true',decide_eq_true_eq] at G
     rcases G with ((G | G) | G) | G
     ·obtain ⟨⟨⟨a1,a2⟩,a3⟩,a4⟩:=G
      have nd:=qS a3
      rw [List.all_eq_true] at a1
      rcases a4 with a4 | a4
      ·match is,ts,ys,P,a4,h4,a1,f,B,J,nd,N,a2 with
       | [i,j],[t1,t2],[y1,y2],_,_,_,a1,f,B,J,nd,N,a2 =>
        obtain ⟨Y,q1,rfl,lo1,_⟩:=gR (a1 t1 (by simp))
        obtain ⟨x2,q2,rfl,y,ln⟩:=gR (a1 t2 (by simp))
        simp only [j7,Bool.and_eq_true] at f
        obtain ⟨m1,_⟩:=iB f.1
        obtain ⟨L,_⟩:=iB f.2.1
        have I:i≠j:=by
         have:=nd
         simp at this
         exact this
        have nx:Y≠x2:=fun e=>by
         have g1:=ok.nm m1
         have g2:=ok.nm L
         rw [e] at g1
         exact I ((List.getElem?_inj (List.getElem?_eq_some_iff.mp g1).1 ok.nd).mp (g1.trans g2.symm))
        refine bc (ps_par (ok.calm M) ok.nd (ok.nm m1) (ok.nm L) I (ok.lo lo1) (ok.lo y) (av B) (uC (by rw [ok.sc];exact ok.kind) (ok.lo lo1) (ok.lo y) ln nx B a2)) (ih ok J s e1 fun vs F' H' W' Wt p h=>?_)
        obtain ⟨F2,g,o⟩:=p.bC h e2
        obtain ⟨v,r,rfl,w,r2,rfl,rfl,q⟩:=ft (Q:=D.nx) g o N fun σ' W'' R V _=>k _ _ _ _ R V
        exact ⟨v,w,rfl,q⟩
      ·match is,ts,ys,P,a4,h4,a1,f,B,J,nd,N,a2 with
       | [i,j,l],[t1,t2,t3],[y1,y2,y3],_,_,_,a1,f,B,J,nd,N,a2 =>
        obtain ⟨Y,q1,rfl,lo1,_⟩:=gR (a1 t1 (by simp))
        obtain ⟨x2,q2,rfl,y,ln⟩:=gR (a1 t2 (by simp))
        obtain ⟨x3,q3,rfl,Z,aa⟩:=gR (a1 t3 (by simp))
        simp only [j7,Bool.and_eq_true] at f
        obtain ⟨m1,_⟩:=iB f.1
        obtain ⟨L,_⟩:=iB f.2.1
        obtain ⟨m3,_⟩:=iB f.2.2.1
        have a:i≠j∧i≠l∧j≠l:=by
         have:=nd
         simp at this
         exact ⟨this.1.1,this.1.2,this.2⟩
        have O:∀ {i j:Nat} {Y x2:Str},i≠j→nmB c i Y=true→nmB c j x2=true→Y≠x2:=fun I m1 L e=>by
         have g1:=ok.nm m1
         have g2:=ok.nm L
         rw [e] at g1
         exact I ((List.getElem?_inj (List.getElem?_eq_some_iff.mp g1).1 ok.nd).mp (g1.trans g2.symm))
        refine bc (ps_par3 (ok.calm M) ok.nd (ok.nm m1) (ok.nm L) (ok.nm m3) a.1 a.2.1 a.2.2 (ok.lo lo1) (ok.lo y) (ok.lo Z) (av B)
         (pd (by rw [ok.sc];exact ok.kind) (ok.lo lo1) (ok.lo y) (ok.lo Z) ln aa (O a.1 m1 L) (O a.2.1 m1 m3) (O a.2.2 L m3) B a2)) (ih ok J s e1 fun vs F' H' W' Wt p h=>?_)
        obtain ⟨F2,g,o⟩:=p.bC h e2
        obtain ⟨v,r,rfl,w,r2,rfl,u,r3,rfl,rfl,q⟩:=ft (Q:=D.nx) g o N fun σ' W'' R V _=>k _ _ _ _ R V
        exact ⟨v,w,u,rfl,q⟩
     ·exact d (sW (by simp;omega))
     ·exact d (lJ G)
     ·exact d (nq ok G)
    ·cases he
   ·cases he
  ·cases he
 ·cases hm
theorem qf (b:SV C n) (ok:XOk C X c) {t:Tg} {e:E} {a y:Expr} {pos:Pos} {m1:Nat} {d:Ev.D} {δ2:Dl} (f:mE m1 c e y=true) (g:mTg c t a=true) (hs:swapsWithSole [a] y pos.line X.env=pure false) (hw:swappedStores [a] y X.env=pure none) (h:(assignEach [a] X.env).map (·.2)=[assign a X.env])
  (s:SOk X.K F H σ δ W) (i:evV C n e δ=some (d,δ1)) (j:setT C.lock t d δ1=some δ2) (k:Fin X C.lock F H W σ D (.nx δ2)):tWS X (.Assign [a] y pos) D σ H :=
 bc (ps_asg aq wm hs hw h) (b ok f s i fun v F' H' W' Wt p o=>uP ok g p o j fun m W'' q l _=>k _ _ _ _ q l)
def NxF (C:Ctx) (X:Cx) (n:Nat) (F H:Hp) (W:Fp) (σ:L2.St) (F1:Hp) (tg:Tg) (body:List S) (xs:List Ev.D) (fl:Fl):L2.St→Hp→Prop:=fun σ' H'=>∃ Fc Wc δc,aC X.K F H W Fc H' σ' δc Wc No∧bB C.lock σ σ'∧Same F1 Fc∧forL (setT C.lock tg) (aT C n body) xs δc=some fl
theorem zg (r:SSs C n) (ok:XOk C X c) (hn:PassesOwn (model X.prog X.w) X.A X.env X.xe) {m1 m2 m3:Nat} {tg:Tg} {R:ItK} {its:List E} {body:List S} {t it:Expr} {l:List Stmt} {pos:Pos} {xs:List Ev.D} {fl:Fl} (M:SIt C n) (h1:mTg c tg t=true) (V:mI m1 c t R its it=true) (h3:mSs m2 c body l=true) (N:c.cm=true)
  (s:SOk X.K F H σ δ W) (e1:cH C n R its δ=some (xs,δ1)) (e2:forL (setT C.lock tg) (aT C n body) xs δ1=some fl) (k:Fin X C.lock F H W σ D fl):tWS X (.For t it l [] pos) D σ H:=by
 refine bc (ps_for hn (ok.calm N) p5 wm eO (MI.free V X.env)) (M ok V s e1 fun F1 H1 W1 J p w=>?_)
 refine ⟨fun i m σc u=>m=xs.length-i∧i≤xs.length∧∃ Fc Wc δc,aC X.K F H W Fc u σc δc Wc No∧bB C.lock σ σc∧Same F1 Fc∧forL (setT C.lock tg) (aT C n body) (xs.drop i) δc=some fl,
  ⟨_,rfl,Nat.zero_le _,F1,W1,δ1,p,.refl,fun _ _ z=>z,e2⟩,?_⟩
 rintro i m σc u ⟨rfl,hi,Fc,Wc,δc,q,Y,sm,e⟩
 by_cases b:i<xs.length
 ·refine .inr ⟨w.goes i Fc u sm q.ok.sub b,NxF C X n F H W σ F1 tg body (xs.drop (i+1)) fl,
   fun I H' nx=>⟨xs.length-(i+1),by omega,rfl,b,nx⟩,fun x H' yl=>?_⟩
  obtain ⟨F',rx,nw⟩:=w.yields i Fc u x H' (xs[i]) sm q.ok.sub (by simp [b]) yl
  have Z:=q.vP nw
  have y:=sm.trans nw.ext.fsub
  rw [List.drop_eq_getElem_cons b] at e
  unfold forL at e
  split at e
  ·cases e
  ·rename_i δ2 e3
   refine uP ok h1 (.refl Z.ok) (.frz rx) e3 fun σ2 W2 r1 O _=>?_
   have f:=Y.trans O
   have L:=Z.aD r1
   have go:∀ {j:Fl} {P:Ends},aT C n body δ2=some j→Fin X C.lock F' H' W2 σ2 P j→vi X l P σ2 H':=fun {j P} g kf=>r ok h3 r1.ok g kf
   split at e
   ·rename_i δ3 g
    exact go g fun I B Q G h a=>⟨B,G,δ3,L.aD h,f.trans a,y.trans h.ext.fsub,e⟩
   ·rename_i δ3 g
    exact go g fun I B Q G h a=>⟨B,G,δ3,L.aD h,f.trans a,y.trans h.ext.fsub,e⟩
   ·rename_i δ3 g
    cases e
    exact go g fun I B Q G h a=>k _ _ _ _ (L.aD h) (f.trans a)
   ·rename_i d δ3 g
    cases e
    exact go g fun v I B Q G Wt h o a=>k _ _ _ _ _ _ (L.aD h) o (f.trans a)
   ·cases e
 ·have ei:i=xs.length:=by omega
  subst ei
  rw [List.drop_length] at e
  simp only [forL] at e
  cases e
  exact .inl ⟨w.stops Fc u sm q.ok.sub,k _ _ _ _ q Y⟩
theorem qp (p:ST C n) (b:SSs C n) (ok:XOk C X c) (hn:PassesOwn (model X.prog X.w) X.A X.env X.xe) {m1 M f:Nat} {e:E} {body:List S} {t:Expr} {l:List Stmt} {pos:Pos} {fl:Fl} (J:mT m1 c e t=true) (z:mSs M c body l=true)
  (s:SOk X.K F H σ δ W) (N:fC (evT C n e) (aT C n body) f δ=some fl) (k:Fin X C.lock F H W σ D fl):tWS X (.While t l [] pos) D σ H:=by
 refine bc (ps_while hn eX eO) ?_
 refine ⟨fun i σc L=>∃ Fc Wc δc,aC X.K F H W Fc L σc δc Wc No∧bB C.lock σ σc∧fC (evT C n e) (aT C n body) i δc=some fl,⟨f,F,W,δ,.refl s,.refl,N⟩,?_⟩
 rintro i σc L ⟨Fc,Wc,δc,q,u,g⟩
 cases i with
 | zero=>simp [fC] at g
 | succ i =>
  unfold fC at g
  split at g
  ·cases g
  ·rename_i δ2 G
   cases g
   refine p ok J q.ok G fun O P W2 r=>?_
   rw [if_neg Bool.false_ne_true]
   exact k _ _ _ _ (q.aD r) u
  ·rename_i δ2 G
   refine p ok J q.ok G fun O P W2 r=>?_
   rw [if_pos rfl]
   have B:=q.aD r
   refine ⟨fun h H'=>∃ Fc Wc δc,aC X.K F H W Fc H' h δc Wc No∧bB C.lock σ h∧fC (evT C n e) (aT C n body) i δc=some fl,fun h H' nx=>⟨i,Nat.lt_succ_self _,nx⟩,?_⟩
   split at g
   ·rename_i δ3 j
    exact b ok z r.ok j fun h x I y m a=>⟨x,y,δ3,B.aD m,u.trans a,g⟩
   ·rename_i δ3 j
    exact b ok z r.ok j fun h x I y m a=>⟨x,y,δ3,B.aD m,u.trans a,g⟩
   ·rename_i δ3 j
    cases g
    exact b ok z r.ok j fun h x I y m a=>k _ _ _ _ (B.aD m) (u.trans a)
   ·rename_i d δ3 j
    cases g
    exact b ok z r.ok j fun v h x I y Wt m o a=>k _ _ _ _ _ _ (B.aD m) o (u.trans a)
   ·cases g
end
end Ev
namespace Ev.Ob
open PySem PySem.Spec L2 PyProof.Rows
def gSl (K:Frag) (ta:TE) (f:Str):TG:=fun v σ H Q=>ta σ H fun x H2=>∃ a C dx p vs i,x=.ref a∧SlX.Slt H2 a C dx vs∧SlX.SCls K C∧SlX.Slot1 K C f p i∧Q σ (SlX.slH H2 a C dx (SlX.putS i v vs))
theorem DK {X:Cx} {o:Expr} {f:Str} {ta:TE} {pos:Pos} (ha:PE X o ta) (he:∀ v,assign (.Attribute o f pos) X.env v=(do
   let b ← holding [v] (eval o X.env)
   standAt pos.atName
   holding [v,b] (setAttr b f v)
   release [v,b] []):=by intro _;rfl):PG X (.Attribute o f pos) (gSl X.K ta f):=by
 refine ⟨fun pins s σ H v u Q I r h=>?_⟩
 rw [he]
 refine wpAny_bind (wpAny_holding (thn (ha.run pins s σ H _ I h) fun b s2 ⟨x,l,e,g,a,C,dx,p,vs,i,ex,d,c,t,j⟩=>?_))
 subst ex
 obtain rfl:b=Value.ref a:=g
 refine wpAny_bind (wpAny_standAt (wpAny_bind (wpAny_holding (SlX.setslot_ok e d c t r fun s3 k=>?_))))
 exact wpAny_release ⟨σ,_,k,j⟩
end Ev.Ob
namespace Ob
open PySem PySem.Spec PyProof.Rows L2
end Ob
namespace Ev
open PySem PySem.Spec PyProof.Rows L2
section
variable {K:Frag} {F H F0 H0:Hp} {W0 W Wt:Fp} {σ:L2.St} {δ:Dl}
theorem OwL.vwl:∀ {vs:List V} {ds:List D} {W:Fp},OwL K F H vs ds W→VwL K F H vs ds
 | _,_,_,.nil=>.nil
 | _,_,_,.cons h t _ _ _=>.cons ⟨_,h⟩ (OwL.vwl t)
theorem VwL.rpl:∀ {vs:List V} {ds:List D},VwL K F H vs ds→fzs ds=true→RpL K F vs ds
 | _,_,.nil,_=>.nil
 | _,_,.cons h t,e=>by
  simp only [fzs,Bool.and_eq_true] at e
  obtain ⟨U,o⟩:=h
  exact .cons (o.fz e.1) (VwL.rpl t e.2)
theorem fj {k:Str} {ks:List Str} {y:Option Expr} {keys:List (Option Expr)} (h:dI (k::ks) (y::keys)=true):∃ i p,y=some (.Constant (.str k) i p)∧dI ks keys=true:=by
 unfold dI at h
 split at h
 ·cases ‹_::_=[]›
 ·rename_i a b
  cases a
  cases b
  rw [Bool.and_eq_true] at h
  cases ak h.1
  exact ⟨_,_,rfl,h.2⟩
 ·cases h
theorem iO:∀ {ks:List Str} {keys:List (Option Expr)},dI ks keys=true→keys.all (·.isSome)=true∧ks.length=keys.length
 | [],[],_=>⟨rfl,rfl⟩
 | [],_::_,h=>by simp [dI] at h
 | _::_,[],h=>by simp [dI] at h
 | k::ks,y::keys,h=>by
  obtain ⟨i,p,rfl,a⟩:=fj h
  obtain ⟨b,c⟩:=iO a
  exact ⟨by rw [List.all_cons,b];rfl,by rw [List.length_cons,List.length_cons,c]⟩
theorem wa:∀ {ks:List Str},ks.Nodup→(ks.map (Sum.inr:Str→Key)).Nodup
 | [],_=>List.nodup_nil
 | k::ks,h=>by
  rw [List.nodup_cons] at h
  rw [List.map_cons,List.nodup_cons]
  refine ⟨fun z=>?_,wa h.2⟩
  obtain ⟨y,a,e⟩:=List.mem_map.mp z
  exact h.1 (Sum.inr.inj e▸a)
theorem fJ {ks:List Str} {vs:List V} (e:ks.length=vs.length):(eM ks vs).length=ks.length:=by
 unfold eM
 rw [List.length_zip,List.length_map,e,Nat.min_self]
theorem oI {k:Str}:∀ {ks:List Str} {vs:List V} {ds:List D} {d:D},RpL K F vs ds→(ks.zip ds).lookup k=some d→∃ v,valV (eM ks vs) (.inr k:Key)=some v∧Rp K F v d
 | [],_,_,d,_,e=>by simp at e
 | _::_,_,_,d,.nil,e=>by simp at e
 | x::ks,_,_,d,.cons (v:=v) (d:=d0) h t,e=>by
  simp only [List.zip_cons_cons,List.lookup_cons] at e
  by_cases a:k=x
  ·subst a
   simp only [beq_self_eq_true,Option.some.injEq] at e
   subst e
   refine ⟨v,?_,h⟩
   unfold eM valV
   simp
  ·have:(k==x)=false:=by simpa using a
   simp only [this] at e
   obtain ⟨u,b,r⟩:=oI (ks:=ks) t e
   refine ⟨u,?_,r⟩
   unfold eM valV at b ⊢
   rw [List.map_cons,List.zip_cons_cons,List.find?_cons_of_neg (by simpa using Ne.symm a)]
   exact b
theorem qe {k:Str}:∀ {ks:List Str} {i:Nat},ixK k ks=some i→ks[i]?=some k
 | [],i,e=>by simp [ixK] at e
 | x::ks,i,e=>by
  unfold ixK at e
  split at e
  ·rename_i h
   cases e
   simp [h]
  ·rw [Option.map_eq_some_iff] at e
   obtain ⟨j,a,rfl⟩:=e
   simpa using qe a
theorem u7 {k:Str} {v:V} {ks:List Str} {vs:List V} {i:Nat} (nd:ks.Nodup) (e:ks.length=vs.length) (g:ks[i]?=some k):putK (eM ks vs) (.inr k:Key) v=eM ks (vs.set i v):=by
 have hi:i<ks.length:=(List.getElem?_eq_some_iff.mp g).1
 have a:ks[i]=k:=(List.getElem?_eq_some_iff.mp g).2
 have c:=fJ e
 have any:(eM ks vs).any (fun d=>decide (d.1=(.inr k:Key)))=true:=by
  rw [List.any_eq_true]
  refine ⟨(.inr k,vs[i]),?_,by simp⟩
  rw [List.mem_iff_getElem]
  refine ⟨i,by omega,?_⟩
  simp [eM,a]
 unfold putK
 rw [if_pos any]
 apply List.ext_getElem
 ·rw [List.length_map,c,fJ (by rw [List.length_set];exact e)]
 ·intro j f h
  rw [List.length_map] at f
  simp only [List.getElem_map,eM,List.getElem_zip]
  by_cases b:j=i
  ·subst b
   simp [a]
  ·have:ks[j]'(by omega)≠k:=fun z=>b (List.getElem_inj nd |>.mp (z.trans a.symm))
   rw [if_neg (by simpa using this),List.getElem_set_ne (Ne.symm b)]
theorem tc {v0:V} {i:Nat} {ks:List Str} {xs:List D} {j:Nat} {k:Str} {y:V} {d:D} (q:aC K F0 H0 W0 F H σ δ W Wt) (es:slot δ i=some (.dct true ks xs)) (v:σ[i]?=some (some v0)) (G:j<xs.length) (w:ks[j]?=some k) (r:Rp K F y d) :
  ∃ (a:Addr) (vs:List V),v0=.ref a∧H a=some (.dK (eM ks vs))∧ks.length=vs.length∧∃ W',aC K F0 H0 W0 F (upd H a (.dK (putK (eM ks vs) (.inr k:Key) y))) σ (δ.set i (some (.dct true ks (xs.set j d)))) W' No:=by
 obtain ⟨x,u,R,g,o0,s1,s2,z,st,z0⟩:=q.ok.st.zip (aQ es)
 rw [v] at g
 cases g
 cases o0 with
 | frz r=>cases r
 | @dct a _ vs _ _ h e0 nd f1 t l =>
  refine ⟨a,vs,rfl,h,e0,?_⟩
  rw [u7 nd e0 w]
  have B:W a:=s1 _ t
  have c:∀ b,b≠a→upd H a (.dK (eM ks (vs.set j y))) b=H b:=fun b C=>upd_ne C
  have m:upd H a (.dK (eM ks (vs.set j y))) a=some (.dK (eM ks (vs.set j y))):=upd_same
  generalize upd H a (.dK (eM ks (vs.set j y)))=H' at *
  have o:Ow K F H' (.ref a) (.dct true ks (xs.set j d)) u:=.dct m (by rw [List.length_set];exact e0) nd f1 t (l.set j r)
  have k0:Kept F H F H' W u:=fun b y n ob e f=>⟨by rw [c b (fun p=>n (p▸t))];exact e,f⟩
  have stN:=z0 (fun _ _ e=>e) o k0 (fun b y=>.inl y) (W':=Un2 W Wt) (fun b y=>.inl y) fun b y=>.inl (s1 b y)
  have lv:∀ b,H b≠none→H' b≠none:=fun b y=>by
   by_cases s:b=a
   ·rw [s,m];simp
   ·rw [c b s];exact y
  refine ⟨Un2 W Wt,⟨fun b ob e=>?_,stN,fun b y=>?_⟩,fun _ y=>y.elim,fun _ y=>y.elim,?_⟩
  ·rw [c b (fun p=>by rw [p,f1] at e;cases e)]
   exact q.ok.sub b ob e
  ·rcases y with y | y
   ·exact lv b (q.ok.lv b y)
   ·exact lv b (q.lt b y)
  ·refine q.ext.trans ⟨fun _ _ e=>e,fun b ob e=>.inl e,fun b ob e n=>?_,fun b e=>?_,fun b y=>?_⟩
   ·rw [c b (fun p=>n (.inr (p▸B)))]
    exact e
   ·by_cases s:b=a
    ·rw [s,m] at e;cases e
    ·rw [c b s] at e;exact e
   ·rcases y with y | y | y
    ·exact y.elim
    ·exact .inl (.inr y)
    ·exact .inl (.inl y)
end
section
variable {C:Ctx} {X:Cx} {c:Cxt} {n m:Nat} {σ:L2.St} {δ δ':Dl} {F H:Hp} {W:Fp} {a:A} {Q:VK}
theorem C5 (ih:SE C n) (ok:XOk C X c) {b:E} {nm:Str} {x:Expr} (hm:mE (m+1) c (.key b nm) x=true) (s:SOk X.K F H σ δ W) (he:evE C (n+1) (.key b nm) δ=some (a,δ')) (k:af X F H W σ δ' a Q):tW X x σ H Q:=by
 unfold mE at hm
 simp only at hm
 split at hm
 ·rename_i l s0 p1 p2 pos
  simp only [Bool.and_eq_true] at hm
  obtain ⟨f,i⟩:=hm
  cases ak f
  unfold evE at he
  simp only at he
  split at he
  ·rename_i x0 δ1 b
   split at he
   ·rename_i o ks xs j
    split at he
    ·rename_i d q
     cases he
     have e:X.A.units+1<cLine:=by have:=ok.units;omega
     refine aw (pe_dget e aq pe_str (lU rfl)) (ih ok i s b fun v F' H' W' Wt p h=>?_)
     obtain ⟨t,vs,rfl,hd,u,nd,l⟩:=(h.look p.ok j).dct p.ok.sub
     obtain ⟨v,g,r⟩:=oI l q
     exact ⟨t,v,rfl,by rw [← g];exact DGet.k (k:=.inr _) hd,k.atom p r⟩
    ·cases he
   ·cases he
  ·cases he
 ·cases hm
theorem yc {x:Stmt} {v:Nat} {b:Str} {e:E} {D:Ends} {fl:Fl} (ih:SE C n) (f:SV C n) (ok:XOk C X c) (hm:mS (m+1) c (.setK v b e) x=true) (s:SOk X.K F H σ δ W) (he:evS C (n+1) (.setK v b e) δ=some fl) (k:Fin X C.lock F H W σ D fl):tWS X x D σ H:=by
 unfold mS at hm
 simp only at hm
 split at hm
 ·rename_i y p s0 p1 p2 p3 z pos
  simp only [Bool.and_eq_true] at hm
  obtain ⟨⟨l,q⟩,t⟩:=hm
  cases ak l
  unfold evS at he
  simp only at he
  split at he
  ·rename_i d δ1 u
   split at he
   ·rename_i sl δ2 w
    split at he
    ·rename_i ks xs B
     split at he
     ·rename_i j G
      split at he
      ·rename_i i
       simp only [Bool.and_eq_true,decide_eq_true_eq] at i
       obtain ⟨c3,c4⟩:=i
       cases he
       have g:X.A.units+1<cLine:=by have:=ok.units;omega
       refine bc (ps_dput g aq pe_str aq (by cases z<;>rfl)) ?_
       refine f ok q s u fun N F1 H1 W1 Wt p1 o=>?_
       obtain ⟨F1,p1,r⟩:=p1.v9 o
       refine ih ok t p1.ok w fun O P Q W2 I p2 h=>?_
       cases h with
       | @bor v0 _ _ _ _ J pt =>
        cases pt
        obtain ⟨a,vs,rfl,hs,L,W',p3⟩:=tc p2 B J c3 (qe G) (r.mono p2.ext.fsub)
        have M:(eM ks vs).length<sizeLine:=by
         rw [fJ L]
         rw [sizeLine_eq];omega
        exact ⟨a,_,rfl,.inl ⟨_,.inr b,hs,rfl,M,rfl⟩,k _ _ _ _ (p1.drop.aD p3) .refl⟩
      ·cases he
     ·cases he
    ·cases he
   ·cases he
  ·cases he
 ·cases hm
def xN (X:Cx):List (Option Expr)→List Expr→List (TE × TE)
 | some k::ks,v::vs=>(tW X k,tW X v)::xN X ks vs
 | _,_=>[]
theorem kG {pos:Pos}:∀ {ks:List Str} {keys:List (Option Expr)} {vals:List Expr},dI ks keys=true→keys.length=vals.length→PPs X pos keys vals (xN X keys vals)
 | [],[],[],_,_=>pps_nil
 | [],[],_::_,_,h=>by cases h
 | [],_::_,_,h,_=>by simp [dI] at h
 | _::_,[],_,h,_=>by simp [dI] at h
 | _::_,none::_,_,h,_=>by simp [dI] at h
 | _::_,some _::_,[],_,h=>by cases h
 | k::ks,some e::keys,v::vals,h,a=>by
  obtain ⟨i,p,e0,hk⟩:=fj h
  exact pps_cons aq aq (kG hk (by simpa using a))
theorem kg:∀ {ks:List Str} {keys:List (Option Expr)} {vals:List Expr} {σ:L2.St} {H:Hp} {R:List V→Hp→Prop} {Q:List (V × V)→Hp→Prop},dI ks keys=true→keys.length=vals.length→bM X vals σ H R→(∀ vs a,ks.length=vs.length→R vs a→Q ((ks.map V.str).zip vs) a)→tPairs (xN X keys vals) σ H Q
 | [],[],[],_,_,_,_,_,_,h,q=>q [] _ rfl h
 | [],[],_::_,_,_,_,_,_,h,_,_=>by cases h
 | [],_::_,_,_,_,_,_,h,_,_,_=>by simp [dI] at h
 | _::_,[],_,_,_,_,_,h,_,_,_=>by simp [dI] at h
 | _::_,none::_,_,_,_,_,_,h,_,_,_=>by simp [dI] at h
 | _::_,some _::_,[],_,_,_,_,_,h,_,_=>by cases h
 | k::ks,some e::keys,v::vals,σ,H,R,Q,h,b,hn,q=>by
  obtain ⟨i,p,e0,hk⟩:=fj h
  cases e0
  refine aw pe_str (ay hn fun y H1 z=>?_)
  exact kg hk (by simpa using b) z fun vs a l r=>q (y::vs) a (by rw [List.length_cons,List.length_cons,l]) r
theorem putK_new {acc:List (Key × V)} {k:Key} {v:V} (h:∀ z∈acc,z.1≠k):putK acc k v=acc++[(k,v)]:=by
 unfold putK
 rw [if_neg]
 simp only [List.any_eq_true,decide_eq_true_eq,not_exists,not_and]
 exact h
theorem nv:∀ {more acc:List (Key × V)},(more.map (·.1)).Nodup→(∀ z∈acc,∀ y∈more,z.1≠y.1)→mergeK acc more=acc++more
 | [],acc,_,_=>by simp [mergeK]
 | p::more,acc,nd,h=>by
  rw [List.map_cons,List.nodup_cons] at nd
  show mergeK (putK acc p.1 p.2) more=_
  rw [putK_new fun z a=>h z a p List.mem_cons_self,nv nd.2,List.append_assoc]
  ·rfl
  ·intro z a y b
   rcases List.mem_append.mp a with a | a
   ·exact h z a y (List.mem_cons_of_mem _ b)
   ·simp only [List.mem_cons,List.not_mem_nil,or_false] at a
    rw [a]
    exact fun e=>nd.1 (List.mem_map.mpr ⟨y,b,e.symm⟩)
theorem tH {ks:List Str} {vs:List V} (e:ks.length=vs.length):(eM ks vs).map (·.1)=ks.map Sum.inr:=by
 unfold eM
 rw [List.map_fst_zip (by rw [List.length_map,e];exact Nat.le_refl _)]
theorem iX:∀ {ks:List Str} {vs:List V},(ks.map V.str).zip vs=(eM ks vs).map fun a=>(kV a.1,a.2)
 | [],_=>by simp [eM]
 | _::_,[]=>by simp [eM]
 | k::ks,v::vs=>by
  have:=iX (ks:=ks) (vs:=vs)
  simp only [eM,List.map_cons,List.zip_cons_cons] at this ⊢
  rw [this]
  rfl
theorem CD (ih:SAs C n) (ok:XOk C X c) {ks:List Str} {es:List E} {x:Expr} (hm:mE (m+1) c (.dct ks es) x=true) (s:SOk X.K F H σ δ W) (he:evE C (n+1) (.dct ks es) δ=some (a,δ')) (k:af X F H W σ δ' a Q):tW X x σ H Q:=by
 unfold mE at hm
 simp only at hm
 split at hm
 ·rename_i keys vals pos
  simp only [Bool.and_eq_true,decide_eq_true_eq,Bool.not_eq_true'] at hm
  obtain ⟨⟨⟨⟨⟨R,v⟩,V⟩,L⟩,M⟩,w⟩:=hm
  unfold evE at he
  simp only at he
  split at he
  ·rename_i as δ1 Y
   split at he
   ·rename_i ds δ2 Z
    split at he
    ·rename_i hc
     cases he
     simp only [decide_eq_true_eq] at hc
     obtain ⟨d,aa⟩:=iO v
     refine aw (pe_disp (kG v w) d w (fun z=>by rw [z] at M;cases M) V) ?_
     intro p g
     have B:∀ {G:Hp},Same G H→G p=none:=fun {G} sm=>by
      cases e:G p with
      | none=>rfl
      | some o=>rw [sm _ _ e] at g;cases g
     have N:aC X.K F H W F (upd H p (.dK [])) σ δ W No:=aC.new s (New.rh s.sub g)
     have I:¬ W p:=fun z=>s.lv p z g
     refine kg v w (ih ok R N.ok Y (Q:=fun vs j=>ks.length=vs.length→j p=some (.dK [])∧Q (.ref p) (upd j p (.dK (eM ks vs)))) fun vs F2 j W2 Wt p2 h hlen=>?_) fun vs j l r=>?_
     ·obtain ⟨u,p3,o3⟩:=p2.bC h Z
      obtain ⟨u,p3,rz⟩:=p3.gL o3
      have J:j p=some (.dK []):=p3.ext.keep p _ upd_same I
      refine ⟨J,?_⟩
      have O:u p=none:=by
       cases e:u p with
       | none=>rfl
       | some o =>
        rcases p3.ext.fnew p o e with z | z | z
        ·rw [B s.sub] at z;cases z
        ·exact absurd z I
        ·rw [upd_same] at z;cases z
      have i:¬ W2 p:=fun z=>by
       rcases p3.ext.wnew p (.inr z) with y | y
       ·exact I y
       ·rw [upd_same] at y;cases y
      have t:=N.ext.trans (p3.ext.mono (fun b q=>.inr q) fun b q=>.inl q)
      refine k (.ref p) u (upd j p (.dK (eM ks vs))) W2 (At p) ⟨⟨fun b o e=>?_,p3.ok.st.keep (fun _ _ e=>e) fun b q o e f=>⟨by rw [upd_ne (fun z:b=p=>i (by rw [← z];exact q))];exact e,f⟩,fun b q z=>?_⟩,fun b q r=>by rw [show b=p from q] at r;exact i r,fun b q z=>?_,⟨t.fsub,t.fnew,fun b o e n=>?_,fun b e=>?_,fun b q=>?_⟩⟩ (.tmp (.dct upd_same hlen L O rfl rz))
      ·rw [upd_ne fun z=>by rw [z,O] at e;cases e]
       exact p3.ok.sub _ _ e
      ·rw [upd_ne (fun z:b=p=>i (by rw [← z];exact q))] at z
       exact p3.ok.lv b q z
      ·rw [show b=p from q,upd_same] at z;cases z
      ·rw [upd_ne fun z=>by rw [z,g] at e;cases e]
       exact t.keep b o e n
      ·by_cases P:b=p
       ·rw [P];exact g
       ·rw [upd_ne P] at e
        exact t.live b e
      ·rcases q with q | q
       ·refine Or.inr ?_
        rw [show b=p from q];exact g
       ·exact t.wnew b (Or.inr q)
     ·obtain ⟨r1,r2⟩:=r l
      refine ⟨r1,eM ks vs,iX,?_,?_⟩
      ·rw [fJ l]
       omega
      ·rw [nv (by rw [tH l];exact wa L) (fun z hz=>by cases hz)]
       exact r2
    ·cases he
   ·cases he
  ·cases he
 ·cases hm
def gFs (K:Frag) (v:Nat):List (Str × Nat)→TGs
 | []=>gNil
 | p::fs=>gCons (Ev.Ob.gSl K (tVar v) p.1) (gFs K v fs)
theorem mN {v:Nat} {cn:Str} {p:Str × Nat} {fs:List (Str × Nat)} {t:Expr} {ts:List Expr} (h:mFs c v cn (p::fs) (t::ts)=true):∃ y a b,t=.Attribute (.Name y a) p.1 b∧(cn,p.1,p.2)∈c.sl∧nmB c v y=true∧i8 c y=true∧ax y=true∧mFs c v cn fs ts=true:=by
 unfold mFs at h
 split at h
 ·cases ‹_::_=[]›
 ·rename_i d e
  cases d
  cases e
  simp only [Bool.and_eq_true] at h
  obtain ⟨⟨⟨⟨⟨f,g⟩,i⟩,j⟩,k⟩,l⟩:=h
  cases ak f
  exact ⟨_,_,_,rfl,of_decide_eq_true g,i,j,k,l⟩
 ·cases h
theorem we (ok:XOk C X c) {v:Nat} {cn:Str}:∀ {fs:List (Str × Nat)} {ts:List Expr},mFs c v cn fs ts=true→PGs X ts (gFs X.K v fs)
 | [],[],_=>pgs_nil
 | [],_::_,h=>by simp [mFs] at h
 | _::_,[],h=>by simp [mFs] at h
 | p::fs,t::ts,h=>by
  obtain ⟨y,f,g,rfl,_,a,b,d,e⟩:=mN h
  obtain ⟨d1,d2⟩:=aU d
  exact pgs_cons (Ev.Ob.DK (pe_var (ok.nm a) (ok.vis b) d1 d2)) (we ok e) rfl
theorem nu (env:Env) {v:Nat} {cn:Str}:∀ {fs:List (Str × Nat)} {ts:List Expr},mFs c v cn fs ts=true→(assignEach ts env).length=fs.length∧(assignEach ts env).findIdx? (·.1)=none
 | [],[],_=>⟨rfl,rfl⟩
 | [],_::_,h=>by simp [mFs] at h
 | _::_,[],h=>by simp [mFs] at h
 | p::fs,t::ts,h=>by
  obtain ⟨y,a,b,rfl,_,e,f,g,d⟩:=mN h
  obtain ⟨l1,l2⟩:=nu env d
  have q:assignEach (.Attribute (.Name y a) p.1 b::ts) env=(false,assign (.Attribute (.Name y a) p.1 b) env)::assignEach ts env:=rfl
  rw [q]
  exact ⟨by rw [List.length_cons,l1];rfl,by rw [List.findIdx?_cons];simp [l2]⟩
theorem wR (ok:XOk C X c) {v:Nat} {cn:Str} {v0:V} (f:σ[v]?=some (some v0)) {F0 H0:Hp} {W0:Fp}:∀ {fs:List (Str × Nat)} {ts:List Expr} {ds:List Ev.D} {vs:List V} {xs:List Ev.D} {δ:Dl} {H:Hp} {W:Fp} {Q:L2.St→Hp→Prop},mFs c v cn fs ts=true→aC X.K F0 H0 W0 F H σ δ W No→slot δ v=some (.mob cn xs)→v<δ.length→RpL X.K F vs ds→ds.length=fs.length→fs.all (fun p=>decide (p.2<xs.length))=true →
  (∀ H' W',aC X.K F0 H0 W0 F H' σ (δ.set v (some (.mob cn (uY xs fs ds)))) W' No→Q σ H')→gFs X.K v fs vs σ H Q
 | [],_,[],_,xs,δ,H,W,Q,hm,p,es,lt,.nil,b,e,k=>by
  refine ⟨rfl,k H W ?_⟩
  have:δ.set v (some (.mob cn (uY xs [] [])))=δ:=fO (aQ es)
  rw [this]
  exact p
 | [],_,_::_,_,_,_,_,_,_,_,_,_,_,_,b,_,_=>by cases b
 | _::_,_,[],_,_,_,_,_,_,_,_,_,_,_,b,_,_=>by cases b
 | _::_,[],_::_,_,_,_,_,_,_,hm,_,_,_,_,_,_,_=>by simp [mFs] at hm
 | g::fs,t::ts,d::ds,_,xs,δ,H,W,Q,hm,p,es,lt,.cons (v:=y) r rs,b,e,k=>by
  obtain ⟨_,_,_,_,h,_,_,_,i⟩:=mN hm
  rw [List.all_cons,Bool.and_eq_true,decide_eq_true_eq] at e
  obtain ⟨j,e⟩:=e
  obtain ⟨Ca,l,sc,m,s1⟩:=ok.sl _ _ _ h
  obtain ⟨a,n,dx,vs',rfl,hn,hs,W',p3⟩:=kA p es f j r
  cases bg l hn
  refine ⟨y,_,rfl,_,f,a,_,dx,m,_,g.2,rfl,hs,sc,s1,?_⟩
  have es':slot (δ.set v (some (.mob cn (xs.set g.2 d)))) v=some (.mob cn (xs.set g.2 d)):=slot_of (by rw [List.getElem?_set_self lt])
  refine wR ok f i p3 es' (by rw [List.length_set];exact lt) rs (by simpa using b) (by rw [List.length_set];exact e) fun H' W' p4=>?_
  rw [List.set_set] at p4
  exact k H' W' p4
theorem yA {x:Stmt} {v:Nat} {cn:Str} {fs:List (Str × Nat)} {es:List E} {D:Ends} {fl:Fl} (ih:SE C n) (d:SAs C n) (ok:XOk C X c) (hm:mS (m+1) c (.parF v cn fs es) x=true) (s:SOk X.K F H σ δ W) (he:evS C (n+1) (.parF v cn fs es) δ=some fl) (k:Ev.Fin X C.lock F H W σ D fl):tWS X x D σ H:=by
 unfold mS at hm
 simp only at hm
 split at hm
 ·rename_i ts k1 p1 ys k2 p2 pos
  simp only [Bool.and_eq_true,decide_eq_true_eq,Bool.not_eq_true'] at hm
  obtain ⟨⟨⟨⟨⟨l,r⟩,e⟩,I⟩,t⟩,f⟩:=hm
  unfold evS at he
  simp only at he
  split at he
  ·rename_i as δ1 u
   split at he
   ·rename_i ds δ2 w
    split at he
    ·rename_i sl δ3 a
     split at he
     ·rename_i cn' xs g
      split at he
      ·rename_i j
       simp only [Bool.and_eq_true,decide_eq_true_eq] at j
       obtain ⟨⟨⟨c1,c2⟩,c3⟩,c4⟩:=j
       subst c1
       cases he
       obtain ⟨y,z⟩:=nu X.env e
       refine bc (ps_asg (pe_tup (av r)) (pg_tup (ok.calm f) (we ok e) y z) rfl (nq ok t) rfl) (d ok l s u fun vs F' H' W' Wt p h=>?_)
       obtain ⟨J,b,o⟩:=p.bC h w
       have l2:=o.length
       have:=aA
       have:(10:Nat)≤cap:=by decide
       have rz:=o.vwl.rpl c2
       have i:sl=v∧δ3=δ2:=by
        cases n with
        | zero=>simp [evE] at a
        | succ n =>
         unfold evE at a
         simp only at a
         split at a
         ·split at a
          ·cases a
          ·cases a;exact ⟨rfl,rfl⟩
         ·cases a
       obtain ⟨rfl,rfl⟩:=i
       obtain ⟨v0,_,_,B,_⟩:=b.ok.st.zip (aQ g)
       refine ⟨by omega,fun q G=>⟨q,vs,rfl,SqT.of upd_same,by omega,?_⟩⟩
       have nw:=New.tuple (vs:=vs) b.ok.sub G
       obtain ⟨dj,p3⟩:=b.tR nw
       refine wR ok B e p3.drop g ?_ (rz.mono nw.ext.fsub) c3 c4 fun L W2 p4=>k _ _ _ _ p4 .refl
       exact (List.getElem?_eq_some_iff.mp (aQ g)).1
      ·cases he
     ·cases he
    ·cases he
   ·cases he
  ·cases he
 ·cases hm
end
end Ev
namespace Ev
open PySem PySem.Spec PyProof.Rows L2
section
variable {X:Cx}
end
section
variable {C:Ctx} {X:Cx} {c:Cxt} {n m:Nat} {σ:L2.St} {δ δ':Dl} {F H:Hp} {W:Fp} {a:A} {Q:VK}
end
end Ev
namespace Ev
open PySem PySem.Spec PyProof.Rows L2
section
variable {C:Ctx} {X:Cx} {c:Cxt} {n m:Nat} {σ:L2.St} {δ δ':Dl} {F H:Hp} {W:Fp} {a:A} {Q:VK}
theorem n7 {CX:CXT} {b:Nat} {f Ca:Addr} {fd:FuncData} {ps:List Str} {sp:Sp} {E:XK} {x:Str} {e:Expr} {es:List Expr} {t:TA} {p pos:Pos} (M:Mk X.K Ca f) (d:FnOk X.prog X.w X.K X.mg X.base CX b f fd ps sp) (g:Room (b+1) X.A) (i:Binds X.K fd ps []) (j:Passes CX X E) (ha:PA X (e::es) t)
  (he:starEach (e::es) X.env=(false,eval e X.env)::starEach es X.env) (a:(backTo pos (starEach es X.env)).any (·.1)=false)
  (h:tW X (.Name x p) σ H fun v H1=>v=.ref Ca∧tMake Ca sp [] E t σ H1 Q):tW X (.Call (.Name x p) (e::es) [] pos) σ H Q:=by
 intro pins s I
 refine wpAny_Call_Name_kw (thn (h pins s I) fun u s1 ⟨v,H1,k,r1,ev,q⟩=>?_)
 subst ev
 cases r1
 refine PySem.W.callWith_K (h₀:=X.base) I.ok.mod.kin M.kp (thn (ha.run pos pins s1 σ H1 _ k q) fun us s2 ⟨vs,l,c,r,q⟩=>⟨c.kIn,?_⟩) he a
 exact run_make M d g i .nil j c r q
theorem Vw.cls {K:Frag} {x:V} {cn:Str} (h:Vw K F H x (.cls cn)):∃ Ca:Addr,x=.ref Ca∧nsIn K mainGlobals cn=some (some (.ref Ca)):=by
 obtain ⟨W,h⟩:=h
 cases h with
 | frz r =>
  cases r with
  | cls n=>exact ⟨_,rfl,n⟩
theorem Ag (l:SE C n) (ih:SAs C n) (ok:XOk C X c) {v:Nat} {cn nm:Str} {f:Nat} {st:Bool} {es:List E} {x:Expr} (hm:mE (m+1) c (.clsC v cn nm f st es) x=true) (s:SOk X.K F H σ δ W) (he:evE C (n+1) (.clsC v cn nm f st es) δ=some (a,δ')) (k:af X F H W σ δ' a Q):tW X x σ H Q:=by
 unfold mE at hm
 simp only at hm
 split at hm
 ·rename_i g p0 y ys pos
  simp only [Bool.and_eq_true] at hm
  obtain ⟨⟨⟨⟨⟨i,M⟩,N⟩,j⟩,h6⟩,_⟩:=hm
  have i:=of_decide_eq_true i
  unfold evE at he
  simp only at he
  split at he
  ·rename_i cn' δ0 e0
   split at he
   ·rename_i b
    have b:=of_decide_eq_true b
    subst b
    split at he
    ·rename_i as δ1 O
     cases st with
     | false =>
      simp only [Bool.false_eq_true,if_false] at he i
      unfold obD at he
      simp only at he
      split at he
      ·rename_i a0
       split at he
       ·rename_i rs δ2 P
        cases he
        obtain ⟨ds,r,outs,ec⟩:=bo P
        obtain ⟨Ca,o,hn | ⟨w,room,B,d⟩⟩:=ok.vn f _ i
        ·rw [hn] at ec
         cases ec
        ·obtain ⟨fI,fi,fl,fdI,fdl,mk,G,Z,aa,I,c3,F3,b3,fdi,F4,b4⟩:=w.ex
         refine n7 mk G (room.mono (by omega)) I pass0 (av j) (ah _ j) (ao _ _ (aj j)) (l ok M s e0 fun v1 F1 H1 W1 J p1 o1=>?_)
         obtain ⟨Cb,rfl,hn⟩:=(o1.look p1.ok rfl).cls
         cases bg o.nsC hn
         refine ⟨rfl,?_⟩
         have go:=ih ok N p1.ok O (Q:=fun vs H1=>j4 X.K ((obC C cn').call f) [] vs H1 Q) fun vs F' H' W' Wt p h=>by
          have cc:=(cL (p1.drop.aD p) h (gF P) fun v F2 R W2 Wu q hq=>k v F2 R W2 Wu q hq).2
          rwa [show (obC C cn').io f=[] from B] at cc
         exact au go fun vs H1 h=>nF o d h
       ·cases he
      ·cases he
     | true =>
      simp only [if_true] at he i
      unfold obD at he
      simp only at he
      obtain ⟨V,B0,Y,rfl,rfl,r,rs,outs,ec,rfl⟩:=rq he
      obtain ⟨Ca,o,OA,hn | ⟨w,room,d⟩⟩:=ok.vs f _ i
      ·rw [hn] at ec
       cases ec
      ·obtain ⟨A1,B1,U1,ea,u⟩:=d _ _ _ ec
       cases ea
       by_cases lt:Y<V
       ·rw [if_pos lt] at u
        cases u
        obtain ⟨fI,fdI,mk,G,I,_⟩:=w.ex
        refine n7 mk G (room.mono (by omega)) I pass0 (av j) (ah _ j) (ao _ _ (aj j)) (l ok M s e0 fun v1 F1 H1 W1 J p1 o1=>?_)
        obtain ⟨Cb,rfl,hn⟩:=(o1.look p1.ok rfl).cls
        cases bg o.nsC hn
        refine ⟨rfl,?_⟩
        refine ih ok N p1.ok O fun vs F' H' W' Wt p h=>?_
        intro x dx hx L e
        rw [List.append_nil,sS p.ok h]
        exact ⟨x,dx,V,B0,Y,rfl,lt,(.inl ⟨upd_same,rfl⟩),by rw [upd_ne e,upd_same];exact fun z=>(nomatch z),e,fun R t hs ht nt fr lv=>⟨rfl,rR k (p1.drop.aD p) o.nsC hx L e hs ht nt fr lv⟩⟩
       ·rw [if_neg lt] at u
        cases u
    ·cases he
   ·cases he
  ·cases he
 ·cases hm
end
end Ev
namespace Ev
open PySem PySem.Spec PyProof.Rows L2
def SEC (C:Ctx) (n:Nat):Prop:=∀ {X:Cx} {c:Cxt},XOk C X c→∀ {m:Nat} {e:E} {x:Expr} {σ:L2.St} {δ:Dl} {F H:Hp} {W:Fp} {a:A} {δ':Dl} {nm:Str} {p:Pos} {spos:Pos} {i:Nat} {D:Ends},mE m c e x=true→swB c nm p.line x=true→nmB c i nm=true→SOk X.K F H σ δ W→evE C n e δ=some (a,δ') →
 af X F H W σ δ' a (fun v H1=>D.nx (σ.set i (some v)) H1)→tWS X (.Assign [.Name nm p] x spos) D σ H
def SVC (C:Ctx) (n:Nat):Prop:=∀ {X:Cx} {c:Cxt},XOk C X c→∀ {m:Nat} {e:E} {x:Expr} {σ:L2.St} {δ:Dl} {F H:Hp} {W:Fp} {d:D} {δ':Dl} {nm:Str} {p:Pos} {spos:Pos} {i:Nat} {D:Ends},mE m c e x=true→swB c nm p.line x=true→nmB c i nm=true→SOk X.K F H σ δ W→evV C n e δ=some (d,δ') →
 wA X F H W σ δ' d (fun v H1=>D.nx (σ.set i (some v)) H1)→tWS X (.Assign [.Name nm p] x spos) D σ H
section
variable {C:Ctx} {n m:Nat}
theorem zV {c:Cxt} {nm:Str} {l:Nat} {x:Expr} (h:swB c nm l x=true):∃ y a s p,x=.ListComp y a s p∧loB c nm=true∧(l==p.line)=true∧(s.names.any fun (n,k)=>n==nm&&(k==.local||k==.cell))=false:=by
 unfold swB at h
 split at h
 ·simp only [Bool.and_eq_true,Bool.not_eq_true'] at h
  exact ⟨_,_,_,_,rfl,h.1.1,h.1.2,h.2⟩
 ·cases h
theorem EX (d:SIt C n) (r:SV C n) (si:tV C n):SEC C (n+1):=by
 intro X c ok m e x σ δ F H W a δ' nm p spos i D hm hs hi s he k
 obtain ⟨y,u,sc,j,rfl,lo,ln,na⟩:=zV hs
 have h:swapsWith (.ListComp y u sc j) (some (.Name nm p)) spos.line X.env=pure true:=sw_true (by rw [ok.sc];exact ok.kind) (ok.lo lo) ln na
 cases m with
 | zero=>simp [mE] at hm
 | succ m =>
 cases e with
 | lc elt tg w its ifs own =>
  obtain ⟨z,t,it,fs,scope,pos,ex,L,hf,go⟩:=EN ok d r si hm s he
  cases ex
  have:=ps_setLc (X:=X) (spos:=spos) (py:=p) (pos:=j) (elt:=y) (tg:=t) (ifs:=fs) (g:=aG X sc t) (tt:=aTs X sc fs) (te:=aE X sc y) (own:=rT c own) (ok.calm L.cm) ok.nd (ok.nm hi) (ok.lo lo) h p5 (L.ok ok) (fun s H C cl fp=>pf s H C cl fp) (fun s H C cl fp=>fh s H C cl fp) (fun s H C cl fp=>vh s H C cl fp) hf
  rw [dG] at this
  exact bc this (go (Q:=fun v H1=>D.nx (σ.set i (some v)) H1) k)
 | lc2 elt tg w its tg2 k2 its2 own own2 =>
  obtain ⟨z,t,it,t2,it2,scope,pos,ex,L,hf,q,go⟩:=BG ok d r si hm s he
  cases ex
  have:=ps_setLc2 (X:=X) (spos:=spos) (py:=p) (pos:=j) (elt:=y) (tg:=t) (tg1:=t2) (ifs:=[]) (ifs1:=[]) (g:=aG X sc t) (g1:=aG X sc t2) (tt:=aTs X sc []) (tt1:=aTs X sc []) (wi1:=aI X sc t2 it2) (te:=aE X sc y) (vs1:=own2) (own:=rT c own) (ok.calm L.cm) ok.nd (ok.nm hi) (ok.lo lo) h p5 (L.ok ok) (fun i hi=>by rw [dG];exact L.sub i hi)
   (fun s H C cl fp=>pf s H C cl fp) (fun s H C cl fp=>fh s H C cl fp) (fun s H C cl fp=>Bk s H C cl fp) (fun s H C cl fp=>pf s H C cl fp) (fun s H C cl fp=>fh s H C cl fp) (fun s H C cl fp=>vh s H C cl fp) hf q
  rw [dG] at this
  exact bc this (go (Q:=fun v H1=>D.nx (σ.set i (some v)) H1) k)
 | bi b es=>cases b<;>simp [mE] at hm
 | ob o cn nm f es=>cases o<;>simp [mE] at hm
 | disS l pre st post=>cases l<;>simp [mE] at hm
 | _=>simp [mE] at hm
theorem FV (ih:SEC C n):SVC C (n+1):=by
 intro X c ok m e x σ δ F H W d δ' nm p spos i D hm hs hi s he k
 unfold evV at he
 split at he
 ·rename_i a δ1 b
  refine ih ok hm hs hi s b fun v F' H' W' Wt q h=>?_
  obtain ⟨g,f,o⟩:=q.toV h he
  exact k _ _ _ _ _ f o
 ·cases he
theorem mP:∀ {p:List Nat} {d d':Ev.D} {f:Ev.D→Option Ev.D},d.lu p f=some d'→∃ x y,d.at p=some x∧f x=some y
 | [],d,d',f,h=>⟨d,d',rfl,h⟩
 | k::p,d,d',f,h=>by
  cases d with
  | lst o xs =>
   cases o with
   | true =>
    simp only [Ev.D.lu] at h
    split at h
    ·rename_i x ex
     split at h
     ·rename_i y a
      obtain ⟨u,v,b,c⟩:=mP a
      exact ⟨u,v,by simp only [Ev.D.at,ex];exact b,c⟩
     ·cases h
    ·cases h
   | false=>simp [Ev.D.lu] at h
  | _=>simp [Ev.D.lu] at h
theorem OwL.set {K:Frag} {F H:Hp}:∀ {vs:List V} {ds:List Ev.D} {U a Z:Fp} {v:V} {d:Ev.D} (j:Nat),OwL K F H vs ds U→Ow K F H v d a→Dj U a→(∀ b,U b→Z b)→(∀ b,a b→Z b)→OwL K F H (vs.set j v) (ds.set j d) Z
 | _,_,U,a,Z,v,d,j,.nil,o,dj,s1,s2=>by simpa using OwL.nil
 | _,_,U,a,Z,v,d,0,.cons g e h f c,o,dj,s1,s2=>by
  simp only [List.set_cons_zero]
  exact .cons o e (fun b q t=>dj b (c b t) q) s2 fun b q=>s1 b (c b q)
 | _,_,U,a,Z,v,d,j+1,.cons (W1:=W1) (W2:=W2) g e h f c,o,dj,s1,s2=>by
  simp only [List.set_cons_succ]
  refine .cons (W2:=Un2 W2 a) g (OwL.set j e o (fun b q=>dj b (c b q)) (fun b q=>.inl q) fun b q=>.inr q) (fun b q t=>?_) (fun b q=>s1 b (f b q)) fun b q=>?_
  ·rcases t with t | t
   ·exact h b q t
   ·exact dj b (f b q) t
  ·rcases q with q | q
   ·exact s1 b (c b q)
   ·exact s2 b q
theorem pU {o i:Expr} {pos:Pos} {env:Env} (h:isSlice i=false):∀ v,assign (.Subscript o i pos) env v=(do
   let a ← holding [v] (eval o env)
   let iv ← holding [v,a] (eval i env)
   standAt pos
   holding [v,a,iv] (setItem a iv v)
   release [v,a,iv] []):=fun v=>by cases i<;>first | rfl | simp [isSlice] at h
theorem vT {X:Cx} {c:Cxt} {σ:L2.St} {δ:Dl} {F H:Hp} {W:Fp} {D:Ends} (ih:SAs C n) (ok:XOk C X c) {o i e:E} {x:Stmt} {fl:Fl} (hm:mS (m+1) c (.setIx o i e) x=true) (s:SOk X.K F H σ δ W) (he:evS C (n+1) (.setIx o i e) δ=some fl) (k:Fin X C.lock F H W σ D fl):tWS X x D σ H:=by
 unfold mS at hm
 simp only at hm
 split at hm
 ·rename_i l r p1 y pos
  rw [Bool.and_eq_true,Bool.not_eq_true'] at hm
  unfold evS at he
  simp only at he
  split at he
  ·rename_i va sl Z G δ1 I
   split at he
   ·rename_i d δ2 J
    split at he
    ·rename_i δ3 u
     cases he
     refine bc (ps_asg aq (pg_sub aq aq set_list (pU hm.2)) (show swapsWithSole [.Subscript l r p1] y pos.line X.env=pure false from DX (o:=l) (i:=r) (p:=p1) pos.line X.env) (show swappedStores [.Subscript l r p1] y X.env=pure none by cases y<;>rfl) (by rfl)) ?_
     refine Er (R:=fun g v iv L=>rSetL v iv g L fun M=>D.nx σ M) (ih ok hm.1 s I fun vs F' H' W' Wt p h=>?_)
     rintro g v iv rfl
     cases h with
     | @cons _ _ _ _ _ V1 V2 a1 a2 a3 a4 a5 =>
      cases a2 with
      | cons N O b3 b4 b5 =>
       cases O with
       | cons c1 c2 c3 c4 c5 =>
        cases c2
        cases (c1.look p.ok rfl).int
        obtain ⟨F2,p2,t⟩:=(p.lY a4).toV a1 J
        cases N with
        | @bor v0 _ _ _ _ P pt =>
         have a:=u
         unfold bL at a
         split at a
         ·rename_i d1 es
          split at a
          ·rename_i d2 Q
           obtain ⟨z,z',V,f⟩:=mP Q
           split at f
           ·rename_i xs
            split at f
            ·rename_i j w
             cases f
             obtain ⟨ad,vs,U,rfl,Y,B,dj,fin⟩:=jG p2 es V P pt
             refine ⟨ad,vs,G,j,rfl,rfl,Y,by rw [B.length];exact w,?_⟩
             obtain ⟨W3,p3⟩:=fin (vs':=vs.set j g) (ds':=xs.set j d) (B.set j t dj (fun b q=>.inl q) fun b q=>.inr q) (by simp only [w]) u
             exact k _ _ _ _ p3 .refl
            ·cases f
           ·cases f
          ·cases a
         ·cases a
    ·cases he
   ·cases he
  ·cases he
 ·cases hm
theorem Ea {y o:Expr} {f:Str} {p:Pos} (l:Nat) (env:Env):swapsWith y (some (.Attribute o f p)) l env=pure false:=by
 cases y<;>rfl
theorem x8 {X:Cx} {c:Cxt} {σ:L2.St} {δ:Dl} {F H:Hp} {W:Fp} {D:Ends} (ih:SE C n) (b:SV C n) (ok:XOk C X c) {v:Nat} {cn nm:Str} {i:Nat} {e:E} {x:Stmt} {fl:Fl} (hm:mS (m+1) c (.setF v cn nm i e) x=true) (s:SOk X.K F H σ δ W) (he:evS C (n+1) (.setF v cn nm i e) δ=some fl) (k:Fin X C.lock F H W σ D fl):tWS X x D σ H:=by
 unfold mS at hm
 simp only at hm
 split at hm
 ·rename_i y p f p1 z pos
  simp only [Bool.and_eq_true] at hm
  obtain ⟨⟨⟨l,g⟩,q⟩,t⟩:=hm
  cases ak l
  have g:=of_decide_eq_true g
  unfold evS at he
  simp only at he
  split at he
  ·rename_i d δ1 u
   split at he
   ·rename_i sl δ2 w
    split at he
    ·rename_i cn' xs B
     split at he
     ·rename_i j
      simp only [Bool.and_eq_true,decide_eq_true_eq] at j
      obtain ⟨⟨c1,c2⟩,c3⟩:=j
      subst c1
      cases he
      obtain ⟨Ca,G,sc,L,s1⟩:=ok.sl _ _ _ g
      refine bc (SlX.ps_sl aq aq (Ea pos.line X.env)) ?_
      refine b ok q s u fun M F1 H1 W1 Wt p1 o=>?_
      have r:=o.fz c2
      refine ih ok t p1.ok w fun N O P W2 I p2 h=>?_
      cases h with
      | @bor v0 _ _ _ _ J pt =>
       cases pt
       obtain ⟨a,Q,dx,vs,rfl,hn,hs,W',p3⟩:=kA p2 B J c3 (r.mono p2.ext.fsub)
       cases bg G hn
       exact ⟨a,_,dx,_,_,_,rfl,hs,sc,s1,k _ _ _ _ (p1.drop.aD p3) .refl⟩
     ·cases he
    ·cases he
   ·cases he
  ·cases he
 ·cases hm
theorem kr {X:Cx} {c:Cxt} (m:SAs C n) (ok:XOk C X c) {o i:E} {l r:Expr} {m1:Nat} {d:Ev.D} {a:V} {σ:L2.St} {F H F1 H1:Hp} {W W1:Fp} {δ1 δ2 δ3:Dl} {sl:Nat} {s:Int} {Q:L2.St→Hp→Prop}
  (hm:mEs m1 c [o,i] [l,r]=true) (p0:aC X.K F H W F1 H1 σ δ1 W1 No) (G:Rp X.K F1 a d) (e:aL C n [o,i] δ1=some ([.bor sl [],.tmp (.int s)],δ2))
  (t:bL δ2 sl [] (fun x=>match x with
   | .lst true xs=>match ixN xs.length s with
    | some j=>some (.lst true (xs.set j d))
    | none=>none
   | _=>none)=some δ3) (k:∀ u v W2,aC X.K F H W u v σ δ3 W2 No→Same F1 u→Q σ v):gSub (tW X l) (tW X r) rSetL a σ H1 Q:=by
 refine yG (R:=fun w iv I=>rSetL w iv a I fun J=>Q σ J) (m ok hm p0.ok e fun vs F' H' W' Wt p h=>?_)
 rintro w iv rfl
 cases h with
 | @cons _ _ _ _ _ V1 Y L M Z b4 b5 =>
  cases M with
  | cons c1 c2 c3 c4 c5 =>
   cases c2
   cases (c1.look p.ok rfl).int
   have p2:=(p0.aD p).drop
   have fs:Same F1 F':=p.ext.fsub
   have f:=t
   cases L with
   | @bor v0 _ _ _ _ N pt =>
    unfold bL at f
    split at f
    ·rename_i d1 es
     split at f
     ·rename_i d2 eu2
      obtain ⟨z,z',O,g⟩:=mP eu2
      split at g
      ·rename_i xs
       split at g
       ·rename_i j y
        cases g
        obtain ⟨ad,vs,U,rfl,P,B,dj,fin⟩:=jG p2 es O N pt
        refine ⟨ad,vs,s,j,rfl,rfl,P,by rw [B.length];exact y,?_⟩
        obtain ⟨W3,p3⟩:=fin (vs':=vs.set j a) (ds':=xs.set j d) (B.set j (.frz (G.mono fs):Ow X.K F' H' a d No) (fun _ _ q=>q.elim) (fun b q=>.inl q) fun b q=>q.elim) (by simp only [y]) t
        exact k _ _ _ p3 fs
       ·cases g
      ·cases g
     ·cases f
    ·cases f
theorem ED {l1 r1 l2 a:Expr} {b c p:Pos} {kt:Nat} {y:Expr} {env:Env}:swappedStores [.Tuple [.Subscript l1 r1 b,.Subscript l2 a c] kt p] y env=pure none:=by
 cases y with
 | Tuple vs k2 p2 =>
  unfold swappedStores
  simp only
  split
  ·rfl
  ·split
   ·rfl
   ·simp
 | _=>rfl
theorem qC {X:Cx} {c:Cxt} {σ:L2.St} {δ:Dl} {F H:Hp} {W:Fp} {D:Ends} (g:SV C n) (d:SAs C n) (ok:XOk C X c) {o1 i1 o2 i2 e:E} {x:Stmt} {fl:Fl} (hm:mS (m+1) c (.swapIx o1 i1 o2 i2 e) x=true) (s:SOk X.K F H σ δ W) (he:evS C (n+1) (.swapIx o1 i1 o2 i2 e) δ=some fl) (k:Fin X C.lock F H W σ D fl):tWS X x D σ H:=by
 unfold mS at hm
 simp only at hm
 split at hm
 ·rename_i l1 r1 j l2 f l kt pt y pos
  simp only [Bool.and_eq_true,Bool.not_eq_true'] at hm
  obtain ⟨⟨⟨⟨⟨t,u⟩,w⟩,z⟩,B⟩,h⟩:=hm
  unfold evS at he
  simp only at he
  split at he
  ·rename_i a b δ1 G
   split at he
   ·rename_i s1 k1 δ2 I
    split at he
    ·rename_i δ3 J
     split at he
     ·rename_i s2 k2 P L
      split at he
      ·rename_i δ5 M
       cases he
       refine bc (ps_asg aq (pg_tup (n:=2) (ok.calm h) (pgs_cons (pg_sub aq aq set_list (pU z)) (pgs_cons (pg_sub aq aq set_list (pU B)) pgs_nil)) rfl rfl) (show swapsWithSole [.Tuple [.Subscript l1 r1 j,.Subscript l2 f l] kt pt] y pos.line X.env=pure false from yn (ts:=[.Subscript l1 r1 j,.Subscript l2 f l]) (k:=kt) (p:=pt) pos.line X.env) ED rfl) ?_
       refine g ok t s G fun v F' H' W' Wt p o=>?_
       obtain ⟨ad,xs,rfl,sq,r⟩:=Vw.tup ⟨_,o⟩
       cases r with
       | @cons q _ _ _ r1 N =>
        cases N with
        | @cons x2 _ _ _ f i =>
         cases i
         refine ⟨ad,[q,x2],rfl,aa p.ok.sub sq,rfl,?_⟩
         refine ⟨q,[x2],rfl,?_⟩
         refine kr d ok u p.drop r1 I J fun Q R W2 p2 fs=>?_
         refine ⟨x2,[],rfl,?_⟩
         refine kr d ok w p2 (f.mono fs) L M fun V Y Z p3 O=>?_
         exact ⟨rfl,k _ _ _ _ p3 .refl⟩
      ·cases he
     ·cases he
    ·cases he
   ·cases he
  ·cases he
 ·cases hm
theorem p9 {lock:List Nat} {i:Nat} {d:Ev.D} {δ:Dl} (a:i<δ.length) (b:lock.contains i=false):da lock i d δ=some (δ.set i (some d)):=by
 unfold da
 rw [b,decide_eq_true a]
 rfl
theorem yo {D:Ends} (q:SV C n) (ok:XOk C X c) {i j:Nat} {e:E} {t1 t2 y:Expr} {ps kt pt pos} {m1:Nat} {d x:Ev.D} {xs:List Ev.D} {δ1 δ2 δ3:Dl} (N:mE m1 c e y=true) (h:mNm c i t1=true) (l:mNm c j t2=true) (O:isTup y=false) (t:c.cm=true) (m:i≠j)
  (s:SOk X.K F H σ δ W) (P:evV C n e δ=some (d,δ1)) (f:lZ d=some (x,xs)) (Q:da C.lock i x δ1=some δ2) (R:da C.lock j (.lst true xs) δ2=some δ3) (k:Fin X C.lock F H W σ D (.nx δ3)):tWS X (.Assign [.Tuple [t1,.Starred t2 ps] kt pt] y pos) D σ H:=by
 unfold mNm at h l
 split at h
 ·rename_i nx u
  split at l
  ·rename_i ny py
   rw [Bool.and_eq_true] at h l
   obtain ⟨l1,f1⟩:=ok.st h.2
   obtain ⟨l2,f2⟩:=ok.st l.2
   have hw:swappedStores [.Tuple [.Name nx u,.Starred (.Name ny py) ps] kt pt] y X.env=pure none:=by
    cases y<;>first | rfl | simp [isTup] at O
   refine bc (ps_asg aq (yM (ok.calm t) ok.nd (ok.nm h.1) (ok.nm l.1) l1 l2 f1 f2) (show swapsWithSole [.Tuple [.Name nx u,.Starred (.Name ny py) ps] kt pt] y pos.line X.env=pure false from yn (ts:=[.Name nx u,.Starred (.Name ny py) ps]) (k:=kt) (p:=pt) pos.line X.env) hw rfl) (q ok N s P fun v F' H' W' Wt p o=>?_)
   obtain ⟨g1,g2,g3⟩:=g9 Q
   obtain ⟨J,Y,Z⟩:=g9 R
   subst g3
   rw [List.length_set] at J
   have e5:da C.lock j (.lst true xs) δ1=some (δ1.set j (some (.lst true xs))):=p9 J Y
   have e6:da C.lock i x (δ1.set j (some (.lst true xs)))=some ((δ1.set j (some (.lst true xs))).set i (some x)):=p9 (by rw [List.length_set];exact g1) g2
   have fin:∀ (a:Addr) (v0:V) (vs:List V),RpL X.K F' (v0::vs) (x::xs)→∀ g,H' g=none→D.nx ((σ.set i (some v0)).set j (some (.ref g))) (upd H' g (.lst vs)):=fun a v0 vs r g L=>by
    cases r with
    | cons w rs =>
     have q1:=p.drop.vP (New.list (vs:=vs) p.ok.sub L)
     have o1:Ow X.K F' (upd H' g (.lst vs)) (.ref g) (.lst true xs) (At g):=Ow.list p.ok.sub L rs
     obtain ⟨q2,B,_⟩:=q1.put o1 (fun _ z=>z) e5
     obtain ⟨q3,G,_⟩:=q2.put (.frz (W:=No) w) (fun _ z=>z) e6
     rw [List.set_comm _ _ m]
     have eδ:δ3=(δ1.set j (some (.lst true xs))).set i (some x):=by rw [Z,List.set_comm _ _ m]
     exact k _ _ _ _ (by rw [eδ];exact q3) (B.trans G)
   cases d with
   | lst b ys =>
    cases ys with
    | nil=>simp [lZ] at f
    | cons y0 ys =>
     simp only [lZ] at f
     split at f
     ·rename_i M
      cases f
      rw [Bool.and_eq_true] at M
      obtain ⟨a,vs,rfl,hH,hl,I⟩:=Vw.lst p.ok.sub ⟨_,o⟩
      cases vs with
      | nil=>simp at hl
      | cons v0 vs=>exact ⟨a,v0,vs,rfl,.inl hH,fin a v0 vs (I M.1)⟩
     ·cases f
   | tup ys =>
    cases ys with
    | nil=>simp [lZ] at f
    | cons y0 ys =>
     simp only [lZ] at f
     split at f
     ·cases f
      obtain ⟨a,vs,rfl,sq,I⟩:=Vw.tup ⟨_,o⟩
      cases I with
      | cons w rs=>exact ⟨a,_,_,rfl,.inr (aa p.ok.sub sq),fin a _ _ (.cons w rs)⟩
     ·cases f
   | _=>simp [lZ] at f
  ·cases l
 ·cases h
theorem s_s (h:SE C n) (g:SV C n) (l:SAs C n) (K:ST C n) (L:SIt C n) (M:SVC C n) (ih:SSs C n):SS C (n+1):=by
 intro X c ok m st x σ δ F H W fl D hm s he k
 cases m with
 | zero=>simp [mS] at hm
 | succ m =>
 have hn:PassesOwn (model X.prog X.w) X.A X.env X.xe:=ok.own
 cases st with
 | expr e=>exact xY h ok hm s he k
 | ret e=>exact Af h ok hm s he k
 | retN =>
  unfold mS at hm
  simp only at hm
  split at hm
  ·simp only [evS] at he
   cases he
   exact bc ps_retN (k .non σ F H W No (.refl s) (.frz .non) .refl)
  ·cases hm
 | asg t e =>
  unfold mS at hm
  simp only at hm
  split at hm
  ·rename_i tx y pos
   simp only [Bool.and_eq_true] at hm
   obtain ⟨⟨u,r⟩,f⟩:=hm
   simp only [evS] at he
   split at he
   ·rename_i d δ1 B
    split at he
    ·rename_i δ2 J
     cases he
     cases t with
     | nm i =>
      simp only at f
      split at f
      ·rename_i nm p
       rw [Bool.or_eq_true,Bool.or_eq_true,Bool.not_eq_true'] at f
       rcases f with (f | f) | f
       ·exact qf g ok u r (show swapsWithSole [.Name nm p] y pos.line X.env=pure false from ES f (some (.Name nm p)) pos.line X.env) rfl rfl s B J k
       ·have P:nmB c i nm=true:=by
         have:mNm c i (.Name nm p)=true:=r
         exact (iB this).1
        refine M ok u f P s B fun v F' H' W' Wt q o=>?_
        obtain ⟨Q,N,_⟩:=q.put o (fun _ z=>z) (show da C.lock i d δ1=some δ2 from J)
        exact k _ _ _ _ Q N
       ·have N:X.env.scope.names.lookup nm=some .cell:=by
         rw [ok.sc]
         unfold ceB at f
         split at f
         ·assumption
         ·cases f
        exact qf g ok u r (show swapsWithSole [.Name nm p] y pos.line X.env=pure false from Em pos.line N) rfl rfl s B J k
      ·cases f
     | tp is =>
      simp only [Bool.not_eq_true'] at f
      have G:=r
      simp only [mTg] at G
      split at G
      ·rename_i ts kt pt
       have hw:swappedStores [.Tuple ts kt pt] y X.env=pure none:=by
        cases y<;>first | rfl | simp [isTup] at f
       exact qf (pos:=pos) g ok u r (show swapsWithSole [.Tuple ts kt pt] y pos.line X.env=pure false from yn (ts:=ts) (k:=kt) (p:=pt) pos.line X.env) hw rfl s B J k
      ·cases G
    ·cases he
   ·cases he
  ·cases hm
 | par is es=>exact Bn l ok hm s he k
 | setIx o i e=>exact vT l ok hm s he k
 | setF v cn nm i e=>exact x8 h g ok hm s he k
 | parF v cn fs es=>exact yA h l ok hm s he k
 | setK v R e=>exact yc h g ok hm s he k
 | parK v ks es=>exact absurd hm (by simp [mS])
 | swapIx o1 i1 o2 i2 e=>exact qC g l ok hm s he k
 | aug i op e=>exact absurd hm (by simp [mS])
 | ifs e a b=>exact DZ K ih ok hm s he k
 | for_ tg R its body =>
  unfold mS at hm
  simp only at hm
  split at hm
  ·simp only [Bool.and_eq_true] at hm
   obtain ⟨⟨⟨u,r⟩,f⟩,I⟩:=hm
   simp only [evS] at he
   split at he
   ·rename_i xs δ1 B
    exact zg (m3:=0) ih ok hn L u r f I s B he k
   ·cases he
  ·cases hm
 | while_ e body =>
  unfold mS at hm
  simp only at hm
  split at hm
  ·rw [Bool.and_eq_true] at hm
   simp only [evS] at he
   exact qp K ih ok hn hm.1 hm.2 s he k
  ·cases hm
 | pass =>
  unfold mS at hm
  simp only at hm
  split at hm
  ·simp only [evS] at he
   cases he
   exact bc ps_pass (k _ _ _ _ (.refl s) .refl)
  ·cases hm
 | brk =>
  unfold mS at hm
  simp only at hm
  split at hm
  ·simp only [evS] at he
   cases he
   exact bc ps_break (k _ _ _ _ (.refl s) .refl)
  ·cases hm
 | cont =>
  unfold mS at hm
  simp only at hm
  split at hm
  ·simp only [evS] at he
   cases he
   exact bc ps_continue (k _ _ _ _ (.refl s) .refl)
  ·cases hm
 | bad=>simp [evS] at he
 | raise cn nms es=>simp [evS] at he
 | raiseF cn nms es cn2 nms2 es2=>simp [evS] at he
 | asgS i j e =>
  unfold mS at hm
  simp only at hm
  split at hm
  ·rename_i t1 t2 ps kt pt y pos
   simp only [Bool.and_eq_true,Bool.not_eq_true'] at hm
   obtain ⟨⟨⟨⟨u,r⟩,f⟩,V⟩,I⟩:=hm
   simp only [evS] at he
   split at he
   ·rename_i d δ1 B
    split at he
    ·rename_i x xs J
     split at he
     ·rename_i O
      split at he
      ·rename_i δ2 Y
       split at he
       ·rename_i δ3 Z
        cases he
        exact yo g ok u r f V I (by simpa using O) s B J Y Z k
       ·cases he
      ·cases he
     ·cases he
    ·cases he
   ·cases he
  ·cases hm
structure All (C:Ctx) (n:Nat):Prop where
 e:SE C n
 v:SV C n
 vs:SVs C n
 asI:SAI C n
 and:CK C n
 or:SOr C n
 t:ST C n
 tand:vH C n
 tor:BS C n
 ct:SCT C n
 it:SIt C n
 ifs:tV C n
 ec:SEC C n
 vc:SVC C n
 s:SS C n
 ss:SSs C n
theorem Fi:All C 0 where
 e:=by intro X c ok m e x σ δ F H W a δ' Q hm s he;simp [evE] at he
 v:=by intro X c ok m e x σ δ F H W a δ' Q hm s he;simp [evV] at he
 vs:=by intro X c ok m e x σ δ F H W a δ' Q hm s he;simp [wK] at he
 asI:=by intro X c ok m e x σ δ F H W a δ' Q hm s he;simp [aL] at he
 and:=by intro X c ok m e x p σ δ F H W a δ' Q hm s he;simp [tO] at he
 or:=by intro X c ok m e x p σ δ F H W a δ' Q hm s he;simp [xp] at he
 t:=by intro X c ok m e x σ δ F H W a δ' Q hm s he;simp [evT] at he
 tand:=by intro X c ok m e x p σ δ F H W a δ' Q hm s he;simp [eK] at he
 tor:=by intro X c ok m e x p σ δ F H W a δ' Q hm s he;simp [jw] at he
 ct:=by intro X c ok m e l os rs p σ δ F H W a δ' hm s he;simp [evE] at he
 it:=by intro X c ok m t k es x σ δ F H W a δ' Q hm s he;simp [cH] at he
 ifs:=by intro X c ok m e x σ δ F H W a δ' Q hm s he;simp [bR] at he
 ec:=by intro X c ok m e x σ δ F H W a δ' nm p sp i D hm hs hi s he;simp [evE] at he
 vc:=by intro X c ok m e x σ δ F H W a δ' nm p sp i D hm hs hi s he;simp [evV] at he
 s:=by intro X c ok m e x σ δ F H W a D hm s he;simp [evS] at he
 ss:=by intro X c ok m e x σ δ F H W a D hm s he;simp [aT] at he
theorem s_e (h:All C n):SE C (n+1):=by
 intro X c ok m e x σ δ F H W a δ' Q hm s he k
 cases m with
 | zero=>simp [mE] at hm
 | succ m =>
 have g:SAs C n:=SAI.as h.asI
 cases e with
 | non=>exact jS ok (.inl rfl) hm s he k
 | bl b=>exact jS ok (.inr (.inl ⟨_,rfl⟩)) hm s he k
 | int i=>exact jS ok (.inr (.inr (.inl ⟨_,rfl⟩))) hm s he k
 | str i=>exact jS ok (.inr (.inr (.inr ⟨_,rfl⟩))) hm s he k
 | con q=>exact Eo ok hm s he k
 | kin ne ps r=>exact Bf h.e ok hm s he k
 | kix ps r=>exact CF h.e ok hm s he k
 | var i=>exact En ok hm s he k
 | bin op a b=>exact C3 g ok hm s he k
 | neg a=>exact EA h.e ok hm s he k
 | cmp op a b=>exact AH g ok hm s he k
 | chain o1 o2 a b d=>exact uQ g h.e ok hm s he k
 | band es =>
  unfold mE at hm
  simp only at hm
  split at hm
  ·simp only [evE] at he
   exact h.and ok hm s he k
  ·cases hm
 | bor es =>
  unfold mE at hm
  simp only at hm
  split at hm
  ·simp only [evE] at he
   exact h.or ok hm s he k
  ·cases hm
 | bnot a=>exact Aj h.e ok hm s he k
 | ite d a b=>exact Ef h.t h.e ok hm s he k
 | tup es=>exact Ds g ok hm s he k
 | lst es=>exact DY g ok hm s he k
 | disS l pre st post=>exact AF h.v h.vs ok hm s he k
 | pur e=>exact absurd hm (by simp [mE])
 | sub a i=>exact DU g ok hm s he k
 | slice a lo hi=>exact yu h.asI ok hm s he k
 | rev a=>exact absurd hm (by simp [mE])
 | call f es=>exact BK g ok hm s he k
 | callK f es p=>exact absurd hm (by simp [mE])
 | callT f es=>exact absurd hm (by simp [mE])
 | bi b es=>exact Fm g ok hm s he k
 | isi a ts=>exact CP h.e ok hm s he k
 | xf a nm cns=>exact absurd hm (by simp [mE])
 | isx a t cns=>exact absurd hm (by simp [mE])
 | fld a cn nm i=>exact DL h.e ok hm s he k
 | wk a=>exact absurd hm (by simp [mE])
 | tupN a=>exact absurd hm (by simp [mE])
 | tix a cn nm i e=>exact absurd hm (by simp [mE])
 | mthM v cn nm f es=>exact Bb h.e g ok hm s he k
 | mthMK v cn nm f ks ps es=>exact absurd hm (by simp [mE])
 | dct ks es=>exact CD g ok hm s he k
 | key a j=>exact C5 h.e ok hm s he k
 | clsC v cn nm f st es=>exact Ag h.e g ok hm s he k
 | ob o cn nm f es =>
  cases o with
  | mth=>exact Dx h.asI ok hm s he k
  | len=>exact Dy g ok hm s he k
  | made=>exact AV g ok hm s he k
  | tupO=>exact Bw g ok hm s he k
  | isO=>exact absurd hm (by simp [mE])
  | madeK p=>exact absurd hm (by simp [mE])
  | new=>exact Dc g ok hm s he k
  | tR=>exact absurd hm (by simp [mE])
  | newL=>exact absurd hm (by simp [mE])
  | newLK kn=>exact absurd hm (by simp [mE])
  | contO ne=>exact absurd hm (by simp [mE])
  | bin sq=>exact Bo g ok hm s he k
  | una=>exact absurd hm (by simp [mE])
  | dcp=>exact absurd hm (by simp [mE])
  | inMix ne=>exact absurd hm (by simp [mE])
  | cm=>exact absurd hm (by simp [mE])
  | cmK kn=>exact absurd hm (by simp [mE])
  | mthK kn=>exact absurd hm (by simp [mE])
  | eqO ne=>exact absurd hm (by simp [mE])
  | cmpO op=>exact absurd hm (by simp [mE])
  | prop=>exact absurd hm (by simp [mE])
  | mobN ks=>exact absurd hm (by simp [mE])
  | mobP n ks=>exact absurd hm (by simp [mE])
  | st=>exact Fw g ok hm s he k
  | stK p=>exact absurd hm (by simp [mE])
  | binI=>exact absurd hm (by simp [mE])
  | rbinI=>exact absurd hm (by simp [mE])
 | meth mt o es=>exact BL h.e g ok hm s he k
 | lc elt tg j its ifs own=>exact Dh ok h.it h.v h.ifs hm s he k
 | lc2 elt tg j its tg2 k2 its2 own own2=>exact A6 ok h.it h.v h.ifs hm s he k
theorem nk:∀ n,All C n
 | 0=>Fi
 | n+1=>by
  have h:=nk n
  have a:SAs C n:=SAI.as h.asI
  exact ⟨s_e h,s_v h.e,FJ a,DE h.e h.asI,EC h.e h.and,FX h.e h.or,s_t h.e h.t h.tand h.tor h.ct,BA h.t h.tand,CM h.t h.tor,FT a h.e,E5 a,Et h.t,EX h.it h.v h.ifs,FV h.ec,s_s h.e h.v a h.t h.it h.vc h.ss,Fj h.s h.ss⟩
end
end Ev
namespace Ev
open PySem PySem.Spec PyProof.Rows L2
section
variable {K:Frag} {F H:Hp}
theorem StL.lO (s:Same F H) {U:Fp}:∀ {σ:L2.St} {δ:Dl} {W:Fp},StL K F H σ δ W→(∀ b,W b→U b)→StL K (fzH F H U) H σ (δ.map (Option.map D.frz)) No
 | _,_,_,.nil,_=>.nil
 | _,_,_,.gap h,k=>.gap (StL.lO s h k)
 | _,_,_,.one a c f d e,k=>.one (W1:=No) (W2:=No) (.frz (a.share s fun b z=>k b (d b z))) (StL.lO s c fun b z=>k b (e b z)) (fun _ z=>z.elim) (fun _ z=>z) (fun _ z=>z)
theorem vY {own:List Nat} {σ a:L2.St} (b:a.length=σ.length) (h:∀ i,i ∉ own→a[i]?=σ[i]?):wipe a own=wipe σ own:=by
 refine List.ext_getElem? fun i=>?_
 rw [dF,dF,b]
 split
 ·rfl
 ·rename_i n
  exact h i n
end
section
variable {C:Ctx} {X:Cx} {c:Cxt}
theorem XOk.AZ (ok:XOk C X c) (L:List Nat):XOk ⟨C.call,C.io,L⟩ X c:={ ok with call:=⟨ok.call.fn⟩ }
theorem mK (ok:XOk C X c):∀ n {m:Nat} {ss:List S} {xs rest:List Stmt} {σ:L2.St} {δ δ1:Dl} {F H:Hp} {W:Fp} {D:Ends},mSs m c ss xs=true→SOk X.K F H σ δ W→aT C n ss δ=some (.nx δ1)→(∀ a F' H' W',aC X.K F H W F' H' a δ1 W' No→bB C.lock σ a→vi X rest D a H')→vi X (xs++rest) D σ H
 | 0,m,ss,xs,rest,σ,δ,δ1,F,H,W,D,hm,s,he,k=>by simp [aT] at he
 | n+1,0,ss,xs,rest,σ,δ,δ1,F,H,W,D,hm,s,he,k=>by simp [mSs] at hm
 | n+1,m+1,ss,xs,rest,σ,δ,δ1,F,H,W,D,hm,s,he,k=>by
  cases ss with
  | nil =>
   cases xs with
   | cons _ _=>simp [mSs] at hm
   | nil =>
    simp only [aT] at he
    cases he
    exact k _ _ _ _ (.refl s) .refl
  | cons st ss =>
   cases xs with
   | nil=>simp [mSs] at hm
   | cons x xs =>
    simp only [mSs,Bool.and_eq_true] at hm
    simp only [aT] at he
    split at he
    ·rename_i δ2 d
     rw [List.cons_append]
     exact lI (pss_cons AW eO) ((nk n).s ok hm.1 s d fun a F' H' W' p e=>mK ok n hm.2 p.ok he fun f g h W2 q l=>k f g h W2 (p.aD q) (e.trans l))
    ·rename_i b
     exact absurd he (b δ1)
theorem zT (ok:XOk C X c) {t:Tr} {vars:List Nat} {m:Nat} {xs rest:List Stmt} {σ:L2.St} {δ δ1:Dl} {F H:Hp} {W:Fp} {D:Ends} (hm:mSs m c t.body xs=true) (s:SOk X.K F H σ δ W) (he:Au C t vars δ=some (.nx δ1))
  (k:∀ d F' H' W',aC X.K F H W F' H' d δ1 W' No→bB C.lock σ d→vi X rest D d H'):vi X (xs++rest) D σ H:=by
 unfold Au at he
 split at he
 ·rename_i δ2 r
  split at he
  ·rename_i u
   cases he
   have s1:SOk X.K (fzH F H W) H σ (δ.map (Option.map Ev.D.frz)) No:=⟨iI s.sub,s.st.lO s.sub fun _ z=>z,fun _ z=>z.elim⟩
   refine mK (ok.AZ _) 100 hm s1 r fun d F' H' W' p q=>?_
   have g:∀ i,i<δ.length→i ∉ vars→d[i]?=σ[i]?:=fun i hi v=>q i (by
    rw [List.contains_iff_mem,List.mem_append]
    exact .inl (List.mem_filter.mpr ⟨List.mem_range.mpr hi,by simpa using v⟩))
   have kept:∀ b o,W b→H b=some o→H' b=some o:=fun b o w e=>p.ok.sub b o (p.ext.fsub b o (by rw [cI w];exact e))
   have l0:=s.st.length
   have l1:d.length=σ.length:=by
    have a:=p.ok.st.length
    rw [a,u,l0]
   have j:StL X.K F H' σ δ W:=s.st.keep (fun _ _ e=>e) fun b w o e f=>⟨kept b o w e,f⟩
   have l:StL X.K F H' d (bu δ vars) W:=by
    refine StL.fX (own:=vars) ?_
    rw [vY l1 fun i hi=>?_]
    ·exact j.kE vars
    ·by_cases h:i<δ.length
     ·exact g i h hi
     ·rw [List.getElem?_eq_none (by omega),List.getElem?_eq_none (by omega)]
   refine k d F H' W ⟨⟨fun b o e=>p.ok.sub b o (p.ext.fsub b o (cg s.sub b o e)),l,fun b w e=>s.lv b w (p.ext.live b e)⟩,fun _ z=>z.elim,fun _ z=>z.elim,⟨fun _ _ e=>e,fun _ _ e=>.inl e,fun b o e n=>p.ext.keep b o e (fun z=>z.elim),p.ext.live,fun b z=>z.elim (fun z=>z.elim) .inl⟩⟩ fun i hi=>q i (by
    rw [List.contains_iff_mem,List.mem_append]
    exact .inr (by simpa using hi))
  ·cases he
 ·cases he
end
end Ev
namespace Ob
open PySem PySem.Spec PyProof.Rows L2 Ev
section
variable {P:Program} {w:World} {K:Frag} {mg:Str→Option Value} {base:Heap} {C:Addr}
theorem nD {d:D} {rs:List D} (h:u5 d=some rs):ji d rs:=by
 unfold u5 at h
 split at h
 ·rename_i δ1 a
  split at h
  ·rename_i δ2 b
   split at h
   ·rename_i c e
    split at h
    ·rename_i fz
     cases h
     exact ⟨δ1,δ2,a,b,e,fz⟩
    ·cases h
   ·cases h
  ·cases h
 ·cases h
end
end Ob
namespace Ob
open PySem PySem.Spec PyProof.Rows L2 Ev
section
variable {X:Cx} {CX:CXT} {k i:Nat} {f C:Addr} {fd:FuncData} {ps:List Str} {sp:Sp} {E:XK} {x:Str} {e:Expr} {es:List Expr} {t:TA} {p pos:Pos}
end
theorem pG {ways:List (Str × Nat)} (h:ways.length<9):qA ways=none:=by
 unfold qA
 split
 ·simp at h
 ·rfl
theorem vX {C0:Ev.Ctx} {it:Nat} {ways:List (Str × Nat)} {ds:List D} {rs:List D} (hw:ways.length<9) (h:u9 C0 it ways ds=some rs):∃ rule items lap,ds=[rule,items,lap]∧iJ C0 it ways rule items lap rs:=by
 unfold u9 at h
 split at h
 ·rename_i rule items lap
  split at h
  ·rename_i δ1 a
   split at h
   ·rename_i w δ2 b
    split at h
    ·rename_i f c
     split at h
     ·rename_i e
      split at h
      ·rename_i d δ3 g
       exact ⟨rule,items,lap,rfl,w,f,d,δ1,δ2,δ3,a,b,c,e,g,nD h⟩
      ·cases h
     ·cases h
    ·cases h
   ·cases h
  ·cases h
 ·unfold dkF at h
  split at h
  ·rw [pG hw] at h
   cases h
  ·cases h
 ·cases h
def mJ (P:Program) (w:World) (K:Frag) (mg:Str→Option Value) (base:Heap) (k:Nat) (C0:Ev.Ctx) (tab:List Str) (kt:Nat→List KwP):Prop :=
 ∀ f g,tab[f]?=some g→ax g=true→∀ ds r outs,C0.call f ds=some (r,outs)→∃ (a:Addr) (fd:FuncData) (ps:List Str) (sp:Sp),mg g=some (.ref a)∧keepIn K (.ref a)=true∧FnOk P w K mg base CX0 k a fd ps sp∧Binds K fd ps []∧(∀ p∈kt f,ue K fd ps p) ∧
  ∀ vs H Q E,j4 K (C0.call f) (C0.io f) vs H Q→sp vs H Q E
section
variable {P:Program} {w:World} {K:Frag} {mg:Str→Option Value} {base:Heap} {C:Addr}
end
end Ob
namespace Ob
open PySem PySem.Spec PyProof.Rows L2 Ev
theorem A5 {C0:Ev.Ctx} {it:Nat} {ds rs:List D} (h:ldF C0 it ds=some rs):EV C0 it ds rs:=by
 unfold ldF at h
 split at h
 ·rename_i items rule way wk d en
  split at h
  ·rename_i as δ1 e
   split at h
   ·rename_i a b δ2 f
    split at h
    ·rename_i c
     cases h
     rw [Bool.and_eq_true] at c
     exact ⟨items,rule,a,b,way,en,wk,d,as,δ1,δ2,rfl,rfl,e,f,c.1,c.2⟩
    ·cases h
   ·cases h
  ·cases h
 ·cases h
def RlH (x dx:Addr) (H1 Hn:Hp):Prop:=∀ b,(b≠x→b≠dx→∀ o,H1 b=some o→Hn b=some o)∧(Hn b=none→H1 b=none)
section
variable {P:Program} {w:World} {K:Frag} {mg:Str→Option Value} {base:Heap} {C:Addr}
end
end Ob
namespace Ev
open PySem PySem.Spec PyProof.Rows L2
structure Def where
 name:Str
 st:Stmt
 N:List Str
 ps:List Str
 f:Fn
 kw:List KwP:=[]
 gc:List (Str × Kc):=[]
 cn:Str:=""
 mt:Option (Str × Str × Str):=none
 sl:List (Str × Str × Nat):=[]
 xt:DW:={}
 pr:Bool:=false
 ko:List (List Str × List Str):=[]
 cmf:Bool:=false
def Def.fnm (d:Def):Str:=match d.mt with
 | some (_,m,_)=>m
 | none=>d.name
def Def.qual (d:Def):Str:=match d.mt with
 | some (_,_,q)=>q
 | none=>d.name
def w6:Nat→List Def→List (Nat × Str × Str)
 | _,[]=>[]
 | i,d::ds=>match d.mt with
  | some (cn,m,_)=>if d.pr||!d.ko.isEmpty||d.cmf then w6 (i+1) ds else (i,cn,m)::w6 (i+1) ds
  | none=>w6 (i+1) ds
theorem nA:∀ (i:Nat) (l:List Def) (f:Nat) (cn nm:Str),(f,cn,nm)∈w6 i l→∃ j d q,f=i+j∧l[j]?=some d∧d.mt=some (cn,nm,q)∧d.pr=false∧d.ko=[]∧d.cmf=false
 | i,[],f,cn,nm,h=>by simp [w6] at h
 | i,d::l,f,cn,nm,h=>by
  have a:(f,cn,nm)∈w6 (i+1) l→∃ j d' q,f=i+j∧(d::l)[j]?=some d'∧d'.mt=some (cn,nm,q)∧d'.pr=false∧d'.ko=[]∧d'.cmf=false:=fun h=>by
   obtain ⟨j,d',e,o,g,k⟩:=nA (i+1) l f cn nm h
   exact ⟨j+1,d',e,by omega,by simpa using g,k⟩
  unfold w6 at h
  split at h
  ·rename_i c m q n
   split at h
   ·exact a h
   ·rename_i b
    rcases List.mem_cons.mp h with h | h
    ·cases h
     simp only [Bool.or_eq_true,not_or,Bool.not_eq_true,Bool.not_eq_false',List.isEmpty_iff] at b
     exact ⟨0,d,q,rfl,rfl,n,b.1.1,b.1.2,b.2⟩
    ·exact a h
  ·exact a h
def wV:Nat→List Def→List (Nat × Str × Str × List Str × List Str)
 | _,[]=>[]
 | i,d::ds=>match d.mt with
  | some (cn,m,_)=>if d.pr||d.cmf then wV (i+1) ds else (d.ko.map fun p=>(i,cn,m,p.1,p.2))++wV (i+1) ds
  | none=>wV (i+1) ds
theorem n8:∀ (i:Nat) (l:List Def) (f:Nat) (cn nm:Str) (ks al:List Str),(f,cn,nm,ks,al)∈wV i l→∃ j d q,f=i+j∧l[j]?=some d∧d.mt=some (cn,nm,q)∧(d.pr=false∧d.cmf=false)∧(ks,al)∈d.ko
 | i,[],f,cn,nm,ks,al,h=>by simp [wV] at h
 | i,d::l,f,cn,nm,ks,al,h=>by
  have a:(f,cn,nm,ks,al)∈wV (i+1) l→∃ j d' q,f=i+j∧(d::l)[j]?=some d'∧d'.mt=some (cn,nm,q)∧(d'.pr=false∧d'.cmf=false)∧(ks,al)∈d'.ko:=fun h=>by
   obtain ⟨j,d',g,s,k,n⟩:=n8 (i+1) l f cn nm ks al h
   exact ⟨j+1,d',g,by omega,by simpa using k,n⟩
  unfold wV at h
  split at h
  ·rename_i c m q o
   split at h
   ·exact a h
   ·rename_i r
    rcases List.mem_append.mp h with h | h
    ·obtain ⟨p,b,e⟩:=List.mem_map.mp h
     cases e
     exact ⟨0,d,q,rfl,rfl,o,by simpa using r,b⟩
    ·exact a h
  ·exact a h
def wd:Nat→List Def→List (Nat × Str × Str)
 | _,[]=>[]
 | i,d::ds=>match d.mt with
  | some (cn,m,_)=>if d.pr&&!d.cmf then (i,cn,m)::wd (i+1) ds else wd (i+1) ds
  | none=>wd (i+1) ds
theorem nB:∀ (i:Nat) (l:List Def) (f:Nat) (cn nm:Str),(f,cn,nm)∈wd i l→∃ j d q,f=i+j∧l[j]?=some d∧d.mt=some (cn,nm,q)∧d.pr=true∧d.cmf=false
 | i,[],f,cn,nm,h=>by simp [wd] at h
 | i,d::l,f,cn,nm,h=>by
  have a:(f,cn,nm)∈wd (i+1) l→∃ j d' q,f=i+j∧(d::l)[j]?=some d'∧d'.mt=some (cn,nm,q)∧d'.pr=true∧d'.cmf=false:=fun h=>by
   obtain ⟨j,d',b,o,e,g⟩:=nB (i+1) l f cn nm h
   exact ⟨j+1,d',b,by omega,by simpa using e,g⟩
  unfold wd at h
  split at h
  ·rename_i c m q k
   split at h
   ·rename_i n
    rcases List.mem_cons.mp h with h | h
    ·cases h
     exact ⟨0,d,q,rfl,rfl,k,by simpa using n⟩
    ·exact a h
   ·exact a h
  ·exact a h
def v8:Nat→List Def→List (Nat × Str × Str)
 | _,[]=>[]
 | i,d::ds=>match d.mt with
  | some (cn,m,_)=>if d.cmf&&d.ko.isEmpty then (i,cn,m)::v8 (i+1) ds else v8 (i+1) ds
  | none=>v8 (i+1) ds
theorem oH:∀ (i:Nat) (l:List Def) (f:Nat) (cn nm:Str),(f,cn,nm)∈v8 i l→∃ j d q,f=i+j∧l[j]?=some d∧d.mt=some (cn,nm,q)∧d.cmf=true∧d.ko=[]
 | i,[],f,cn,nm,h=>by simp [v8] at h
 | i,d::l,f,cn,nm,h=>by
  have a:(f,cn,nm)∈v8 (i+1) l→∃ j d' q,f=i+j∧(d::l)[j]?=some d'∧d'.mt=some (cn,nm,q)∧d'.cmf=true∧d'.ko=[]:=fun h=>by
   obtain ⟨j,d',b,o,e,g⟩:=oH (i+1) l f cn nm h
   exact ⟨j+1,d',b,by omega,by simpa using e,g⟩
  unfold v8 at h
  split at h
  ·rename_i c m q k
   split at h
   ·rename_i n
    rcases List.mem_cons.mp h with h | h
    ·cases h
     exact ⟨0,d,q,rfl,rfl,k,by simpa [List.isEmpty_iff] using n⟩
    ·exact a h
   ·exact a h
  ·exact a h
def StandsAt (K:Frag) (mg:Str→Option Value) (d:Def) (a:Addr):Prop:=match d.mt with
 | none=>mg d.name=some (.ref a)
 | some (cn,m,_)=>∃ Ca:Addr,nsIn K mainGlobals cn=some (some (.ref Ca))∧SlX.SCls K Ca∧if d.cmf then (mg cn=some (.ref Ca)∧∃ mc p,ClX.CRead K Ca mc∧ClX.CMet K Ca mc m p a) else if d.pr then ∃ p,Ob.Ad K Ca m p a else L2.Meth K Ca m a
abbrev tabOf (ds:List Def):List Str:=ds.map (·.name)
abbrev dS (ds:List Def):List Fn:=ds.map (·.f)
abbrev ij (ds:List Def):Nat→List KwP:=fun i=>((ds[i]?).map (·.kw)).getD []
def jR (f:Fn):Bool:=match f.vt with
 | some (_,_::ws)=>decide (ws.length<8)
 | _=>false
def mY (f:Fn):Bool:=match f.vt with
 | some (it,[])=>it != stN&&!decide (8000≤it)
 | _=>false
def vW (f:Fn):Bool:=match f.vt with
 | some (it,[])=>it==stN
 | _=>false
def uq (f:Fn):Bool:=match f.vt with
 | some (it,[])=>decide (8000≤it)
 | _=>false
theorem p7 {f:Fn} (h:uq f=true):∃ it,f.vt=some (it,[])∧8000≤it:=by
 unfold uq at h
 split at h
 ·exact ⟨_,by assumption,of_decide_eq_true h⟩
 ·cases h
theorem mz {f:Fn} (h:jR f=true):∃ it w ws,f.vt=some (it,w::ws)∧ws.length<8:=by
 unfold jR at h
 split at h
 ·exact ⟨_,_,_,by assumption,of_decide_eq_true h⟩
 ·cases h
theorem oY {f:Fn} (h:mY f=true):∃ it,f.vt=some (it,[])∧it≠stN∧¬ 8000≤it:=by
 unfold mY at h
 split at h
 ·exact ⟨_,by assumption,by simpa using h⟩
 ·cases h
theorem tj {f:Fn} (h:vW f=true):f.vt=some (stN,[]):=by
 unfold vW at h
 split at h
 ·rename_i e
  rw [e,beq_iff_eq.mp h]
 ·cases h
def zN:Nat→List Def→Option (Nat × Str)
 | _,[]=>none
 | i,d::ds=>if jR d.f then some (i,d.cn) else zN (i+1) ds
def AE:Nat→List Def→Option (Nat × Str)
 | _,[]=>none
 | i,d::ds=>if mY d.f then some (i,d.cn) else AE (i+1) ds
def Aq:Nat→List Def→Option (Nat × Str)
 | _,[]=>none
 | i,d::ds=>if vW d.f then some (i,d.cn) else Aq (i+1) ds
theorem oD:∀ (i:Nat) (l:List Def) (f:Nat) (cn:Str),Aq i l=some (f,cn)→∃ j d,f=i+j∧l[j]?=some d∧vW d.f=true∧d.cn=cn
 | i,[],f,cn,h=>by simp [Aq] at h
 | i,d::l,f,cn,h=>by
  unfold Aq at h
  split at h
  ·rename_i a
   cases h
   exact ⟨0,d,rfl,rfl,a,rfl⟩
  ·obtain ⟨j,d',g,b,c,e⟩:=oD (i+1) l f cn h
   exact ⟨j+1,d',by omega,by simpa using b,c,e⟩
def Am:Nat→List Def→Option (Nat × Str)
 | _,[]=>none
 | i,d::ds=>if uq d.f then some (i,d.cn) else Am (i+1) ds
theorem oC:∀ (i:Nat) (l:List Def) (f:Nat) (cn:Str),Am i l=some (f,cn)→∃ j d,f=i+j∧l[j]?=some d∧uq d.f=true∧d.cn=cn
 | i,[],f,cn,h=>by simp [Am] at h
 | i,d::l,f,cn,h=>by
  unfold Am at h
  split at h
  ·rename_i a
   cases h
   exact ⟨0,d,rfl,rfl,a,rfl⟩
  ·obtain ⟨j,d',g,b,c,e⟩:=oC (i+1) l f cn h
   exact ⟨j+1,d',by omega,by simpa using b,c,e⟩
def Def.cxt (d:Def) (ds:List Def):Cxt:=⟨d.N,defScope d.st,fun _=>true,tabOf ds,ij ds,d.gc,zN 0 ds,w6 0 ds,d.sl,AE 0 ds,d.xt,true,Aq 0 ds,wd 0 ds,Am 0 ds,wV 0 ds,v8 0 ds⟩
def namesOf:List Expr→Option (List Str)
 | []=>some []
 | .Name x _::es=>(namesOf es).map (x::·)
 | _=>none
def ye:Expr→Option (List Str)
 | .Name x _=>some [x]
 | .Tuple es _ _=>namesOf es
 | _=>none
def DM (d:Def) (ds:List Def) (t:Tr):Bool:=match (defBody d.st).drop d.f.body.length with
 | .Try body [.ExceptHandler (some tst) (some en) [.Assign [.Name xn _] (.Name en' _) q3] _] [] [] _::post =>
  mSs 200 (d.cxt ds) d.f.body ((defBody d.st).take d.f.body.length)&&mSs 200 (d.cxt ds) t.body body&&mSs 200 (d.cxt ds) t.post post&&same en' en&&decide (d.N[t.ei]?=some en)&&decide (d.N[t.ci]?=some xn)&&loB (d.cxt ds) en&&loB (d.cxt ds) xn&&ax en &&
   decide (ye tst=some d.xt.xh)&&d.xt.xh.all (fun x=>glB (d.cxt ds) x&&ax x)&&d.xt.xc.isEmpty
 | _=>false
def DF (d:Def) (ds:List Def) (t:Tr) (ss:List S):Bool:=match (defBody d.st).drop d.f.body.length with
 | .Try body [.ExceptHandler (some tst) (some en) (b0::suite) _] [] [] _::post =>
  mSs 200 (d.cxt ds) d.f.body ((defBody d.st).take d.f.body.length)&&mSs 200 (d.cxt ds) t.body body&&mSs 200 (d.cxt ds) t.post post&&mSs 200 (d.cxt ds).su ss (b0::suite)&&decide (d.N[t.ei]?=some en)&&loB (d.cxt ds) en &&
   decide (ye tst=some d.xt.xh)&&d.xt.xh.all (fun x=>glB (d.cxt ds) x&&ax x)&&d.xt.xc.isEmpty
 | _=>false
def EK (d:Def) (ds:List Def) (t:Tr) (ss:List S):Bool:=match (defBody d.st).drop d.f.body.length with
 | .Try body [.ExceptHandler (some tst) none (b0::suite) _] [] [] _::post =>
  mSs 200 (d.cxt ds) d.f.body ((defBody d.st).take d.f.body.length)&&mSs 200 (d.cxt ds) t.body body&&mSs 200 (d.cxt ds) t.post post&&mSs 200 (d.cxt ds).su ss (b0::suite) &&
   decide (ye tst=some d.xt.xh)&&d.xt.xh.all (fun x=>glB (d.cxt ds) x&&ax x)&&d.xt.xc.isEmpty
 | _=>false
def Dg (d:Def) (ds:List Def) (t:Tr) (ss:List S):Bool:=match ss with
 | [.ifs (.isx (.var e) _ _) sa sz]=>match (defBody d.st).drop d.f.body.length with
  | .Try body [.ExceptHandler (some (.Name x1 _)) (some en) (b1::su1) _,.ExceptHandler (some (.Name x2 _)) (some en') (b2::su2) _] [] [] _::post =>
   mSs 200 (d.cxt ds) d.f.body ((defBody d.st).take d.f.body.length)&&mSs 200 (d.cxt ds) t.body body&&mSs 200 (d.cxt ds) t.post post&&mSs 200 (d.cxt ds).su sa (b1::su1)&&mSs 200 (d.cxt ds).su sz (b2::su2)&&decide (d.N[t.ei]?=some en)&&loB (d.cxt ds) en &&
    decide (d.xt.xh=[x1,x2])&&d.xt.xh.all (fun x=>glB (d.cxt ds) x&&ax x)&&d.xt.xc.isEmpty&&decide (e=t.ei)&&same en' en
  | _=>false
 | _=>false
def wc (d:Def) (ds:List Def) (t:Tr):Bool:=mSs 200 (d.cxt ds) d.f.body ((defBody d.st).take d.f.body.length)&&mSs 200 (d.cxt ds) t.body (((defBody d.st).drop d.f.body.length).take t.body.length)&&mSs 200 (d.cxt ds) t.post (((defBody d.st).drop d.f.body.length).drop t.body.length)
def xB (d:Def) (ds:List Def) (t:Tr):Bool:=match t.rz,(defBody d.st).drop d.f.body.length with
 | some (cC,cB),[.Try body [.ExceptHandler (some (.Name x _)) (some en) [.Raise (some (.Call (.Name x2 _) [] [] _)) (some (.Name en' _)) _] _] [] [] _] =>
  mSs 200 (d.cxt ds) d.f.body ((defBody d.st).take d.f.body.length)&&mSs 200 (d.cxt ds) t.body body&&t.post.isEmpty&&t.cs.isEmpty&&t.nm&&t.su.isNone&&t.sco.isNone&&same en' en&&decide (d.N[t.ei]?=some en)&&loB (d.cxt ds) en&&ax en &&
   glB (d.cxt ds) x&&ax x&&glB (d.cxt ds) x2&&ax x2&&decide (x=cC)&&decide (x2=cB)&&d.xt.xz.contains cB
 | _,_=>false
def C8 (ds:List Def) (dv:Nat):Bool:=match ds[dv]? with
 | some dd=>match dd.f.vt with
  | some (_,_::ws)=>decide (8≤ws.length)
  | _=>false
 | none=>false
def DD (d:Def) (ds:List Def) (t:Tr):Bool:=match (defBody d.st).drop d.f.body.length,t.post with
 | [.Assign [.Name xd _] (.Call (.Name cD _) [.Name x1 _,.Name x2 _,.Name x3 _] [] _) _,.Return (some (.ListComp (.Call (.Attribute (.Name xd2 _) mA ap) [.Name xr _] [] cp) [⟨.Name xr2 _,.Name x4 _,[],0⟩] scope _)) _],[.ret (.call dv [.var i1,.var i2,.var i3,.var i4])] =>
  C8 ds dv&&mSs 200 (d.cxt ds) d.f.body ((defBody d.st).take d.f.body.length)&&t.body.isEmpty&&same xd2 xd&&same xr2 xr&&same cD "Desk" && same mA "answer" && (ap.endLine==cp.line)&&decide (d.N[i1]?=some x1)&&i8 (d.cxt ds) x1&&ax x1&&decide (d.N[i2]?=some x2)&&i8 (d.cxt ds) x2&&ax x2 &&
   decide (d.N[i3]?=some x3)&&i8 (d.cxt ds) x3&&ax x3&&decide (d.N[i4]?=some x4)&&i8 (d.cxt ds) x4&&ax x4&&decide (d.N[t.ei]?=some xd)&&ax xd&&stB (d.cxt ds) xd&&glB (d.cxt ds) "Desk" && blkC d.N (defScope d.st) scope (rT (d.cxt ds) [t.ci]) &&
   i8 ((d.cxt ds).blk scope) xd&&decide (d.N[t.ci]?=some xr)&&i8 ((d.cxt ds).blk scope) xr&&ax xr&&stB ((d.cxt ds).blk scope) xr&&decide (t.ei≠t.ci)&&decide (i4≠t.ei)
 | _,_=>false
def jL (d:Def) (ds:List Def):Bool:=match d.f.tr with
 | none=>mSs 200 (d.cxt ds) d.f.body (defBody d.st)
 | some t=>if t.rz.isSome then xB d ds t else if t.sco.isSome then wc d ds t else match t.su with
  | none=>if t.nm then DM d ds t else DD d ds t
  | some ss=>if t.nm then DF d ds t ss||Dg d ds t ss else EK d ds t ss
theorem tn {d:Def} {ds:List Def} {t:Tr} (h:xB d ds t=true):∃ cC cB body x pn en x2 p1 p2 p3 p4 pos' pos,t.rz=some (cC,cB)∧(defBody d.st).drop d.f.body.length=[.Try body [.ExceptHandler (some (.Name cC pn)) (some en) [.Raise (some (.Call (.Name cB p1) [] [] p2)) (some (.Name en p3)) p4] pos'] [] [] pos]∧x=cC∧x2=cB ∧
  mSs 200 (d.cxt ds) d.f.body ((defBody d.st).take d.f.body.length)=true∧mSs 200 (d.cxt ds) t.body body=true∧t.post=[]∧t.cs=[]∧t.nm=true∧t.su=none∧t.sco=none∧d.N[t.ei]?=some en∧loB (d.cxt ds) en=true∧ax en=true∧glB (d.cxt ds) cC=true∧ax cC=true∧glB (d.cxt ds) cB=true∧ax cB=true∧cB∈d.xt.xz:=by
 unfold xB at h
 split at h
 ·rename_i cC cB body x pn en x2 p1 p2 m p3 p4 pos' pos n hd
  simp only [Bool.and_eq_true,decide_eq_true_eq,List.isEmpty_iff,Option.isNone_iff_eq_none,List.contains_iff_mem] at h
  obtain ⟨⟨⟨⟨⟨⟨⟨⟨⟨⟨⟨⟨⟨⟨⟨⟨⟨m1,o⟩,m3⟩,p⟩,q⟩,r⟩,s⟩,u⟩,v⟩,a⟩,b⟩,c⟩,e⟩,g⟩,i⟩,j⟩,k⟩,l⟩:=h
  have w:=of_decide_eq_true u
  subst w
  subst j
  subst k
  exact ⟨_,_,_,_,_,_,_,_,_,_,_,_,_,n,hd,rfl,rfl,m1,o,m3,p,q,r,s,v,a,b,c,e,g,i,l⟩
 ·cases h
theorem lH {d:Def} {ds:List Def} {t:Tr} {vars:List Nat} (ht:d.f.tr=some t) (hs:t.sco=some vars) (h:jL d ds=true):t.rz=none:=by
 unfold jL at h
 rw [ht] at h
 simp only at h
 cases a:t.rz with
 | none=>rfl
 | some p =>
  simp only [a,Option.isSome_some,if_true] at h
  obtain ⟨_,_,_,_,_,_,_,_,_,_,_,_,_,_,_,_,_,_,_,_,_,_,_,q,_⟩:=tn h
  rw [hs] at q
  cases q
def Def.chk (d:Def) (ds:List Def):Bool:=if d.f.vt.isSome then same d.name "__debug__" && decide (d.f.io=[])&&d.mt.isNone&&d.ko.isEmpty else jL d ds&&decide (d.N.length=d.f.n)&&decide (d.ps.length=d.f.ps)&&decide (d.ps.length≤d.N.length)&&(d.mt.isNone||same d.name "__debug__")&&(d.ko.isEmpty||(d.mt.isSome&&!d.pr))
structure cG (K:Frag) (w:World) (mg:Str→Option Value) (d:Def):Prop where
 ex:∃ (a:Addr) (fd:FuncData),Fun K d.fnm d.qual d.st a fd∧StandsAt K mg d a∧keepIn K (.ref a)=true∧(d.ko=[]→Binds K fd d.ps [])∧(∀ p∈d.kw,ue K fd d.ps p)∧∀ p∈d.ko,Eb K fd d.ps p.1 p.2
 sc:FnScope d.N d.ps (defScope d.st)
 con:∀ y k,d.gc.lookup y=some k→uw K w mg y k
 slo:∀ cn nm i,(cn,nm,i)∈d.sl→∃ Ca:Addr,nsIn K mainGlobals cn=some (some (.ref Ca))∧SlX.SCls K Ca∧∃ p:Addr,SlX.Slot1 K Ca nm p i
 xat:CB K mg d.xt
theorem cw {K:Frag} {fd:FuncData} {ps:List Str}:∀ p∈([]:List KwP),ue K fd ps p:=fun p a=>by cases a
theorem xx {K:Frag} {w:World} {mg:Str→Option Value}:∀ y k,([]:List (Str × Kc)).lookup y=some k→uw K w mg y k:=fun y k h=>by cases h
section
variable {K:Frag} {F H:Hp}
theorem jo:∀ {vs:List V} {ds:List D} {W:Fp} (k:Nat),OwL K F H vs ds W→StL K F H (vs.map some++List.replicate k none) (ds.map some++List.replicate k none) W
 | [],_,_,0,.nil=>.nil
 | [],_,_,k+1,.nil=>by
  have:=jo (vs:=[]) (ds:=[]) (W:=No) k (OwL.nil (K:=K) (F:=F) (H:=H))
  simp only [List.map_nil,List.nil_append,List.replicate_succ] at this ⊢
  exact .gap (this.weak fun _ q=>q.elim)
 | _::_,_,_,k,.cons a b c d e=>.one a (jo k b) c d e
theorem mF {io:List Nat} {σ:L2.St} {δ:Dl}:∀ {vs:List V} {j:Nat} {outs:List D} {δ2:Dl} {W2:Fp},aF δ io j vs.length=some outs→(∀ i,j≤i→δ2[i]?=δ[i]?)→StL K F H σ δ2 W2→(∀ i v,vs[i]?=some v→io.contains (j+i)=true→σ[j+i]?=some (some v))→wD K F H io j vs outs W2
 | [],j,outs,δ2,W2,e,ag,st,c=>by
  simp only [List.length_nil,aF] at e
  cases e
  exact .nil
 | v::vs,j,outs,δ2,W2,e,ag,st,c=>by
  simp only [List.length_cons,aF] at e
  have a:∀ i w,vs[i]?=some w→io.contains (j+1+i)=true→σ[j+1+i]?=some (some w):=fun i w k l=>by
   have:=c (i+1) w (by simpa using k) (by rw [show j+(i+1)=j+1+i by omega];exact l)
   rw [show j+(i+1)=j+1+i by omega] at this
   exact this
  split at e
  ·rename_i b
   split at e
   ·rename_i d ds m n
    split at e
    ·rename_i p
     cases e
     have g2:δ2[j]?=some (some d):=by rw [ag j (Nat.le_refl _)];exact aQ m
     obtain ⟨v',U,R,g,o,s1,s2,dj,f,_⟩:=st.zip g2
     have h:=c 0 v rfl (by simpa using b)
     rw [Nat.add_zero,g] at h
     cases h
     exact .one b (by simpa using p) o (mF n (fun i hi=>by rw [List.getElem?_set_ne (by omega)];exact ag i (by omega)) f a) dj s1 s2
    ·cases e
   ·cases e
  ·rename_i b
   exact .skip (by simpa using b) (mF e (fun i hi=>ag i (by omega)) st a)
end
section
variable {P:Program} {w:World} {K:Frag} {mg:Str→Option Value} {base:Heap} {ds:List Def}
theorem nL:∀ (i:Nat) (l:List Def) (f:Nat) (cn:Str),zN i l=some (f,cn)→∃ j d,f=i+j∧l[j]?=some d∧jR d.f=true∧d.cn=cn
 | i,[],f,cn,h=>by simp [zN] at h
 | i,d::l,f,cn,h=>by
  unfold zN at h
  split at h
  ·rename_i a
   cases h
   exact ⟨0,d,rfl,rfl,a,rfl⟩
  ·obtain ⟨j,d',g,b,c,e⟩:=nL (i+1) l f cn h
   exact ⟨j+1,d',by omega,by simpa using b,c,e⟩
theorem nr:∀ (i:Nat) (l:List Def) (f:Nat) (cn:Str),AE i l=some (f,cn)→∃ j d,f=i+j∧l[j]?=some d∧mY d.f=true∧d.cn=cn
 | i,[],f,cn,h=>by simp [AE] at h
 | i,d::l,f,cn,h=>by
  unfold AE at h
  split at h
  ·rename_i a
   cases h
   exact ⟨0,d,rfl,rfl,a,rfl⟩
  ·obtain ⟨j,d',g,b,c,e⟩:=nr (i+1) l f cn h
   exact ⟨j+1,d',by omega,by simpa using b,c,e⟩
def fD (K:Frag) (ds:List Def) (k g:Nat) (io:List Nat):Sp:=fun vs H Q _=>j4 K (evF (dS ds) k g) io vs H Q
theorem uZ {T:List Fn} {k g:Nat} {xs:List D} {r:D × List D} {f:Fn} (a:T[g]?=some f) (b:f.vt=none) (e:evF T k g xs=some r):∃ k',k=k'+1∧xs.length=f.ps:=by
 cases k with
 | zero=>simp [evF] at e
 | succ k =>
  simp only [evF,a,b] at e
  split at e
  ·rename_i c
   exact ⟨k,rfl,c⟩
  ·cases e
theorem cJ {T:List Fn} {k g it:Nat} {ways:List (Str × Nat)} {xs:List D} {r:D × List D} {f:Fn} (a:T[g]?=some f) (b:f.vt=some (it,ways)) (e:evF T k g xs=some r) :
  ∃ k' rs,k=k'+9∧qB ⟨evF T k',fun h=>((T[h]?).map (·.io)).getD [],[0]⟩ it ways xs=some rs∧r=(.lst true rs,[]):=by
 cases k with
 | zero=>simp [evF] at e
 | succ k =>
  by_cases hk:k<8
  ·have:evF T (k+1) g xs=none:=by
    rcases k with _ | _ | _ | _ | _ | _ | _ | _ | k<;>first | omega | simp only [evF,a,b]
   rw [this] at e
   cases e
  ·obtain ⟨k',rfl⟩:∃ k',k=k'+8:=⟨k-8,by omega⟩
   simp only [evF,a,b] at e
   rw [Option.map_eq_some_iff] at e
   obtain ⟨rs,c,d⟩:=e
   exact ⟨k',rs,rfl,c,d.symm⟩
theorem yU {g:Nat} {x:Str} (e:(tabOf ds)[g]?=some x):∃ d,ds[g]?=some d∧d.name=x:=by
 rw [List.getElem?_map] at e
 cases h:ds[g]? with
 | none=>rw [h] at e;cases e
 | some d=>rw [h] at e;exact ⟨d,rfl,by simpa using e⟩
abbrev ck (ds:List Def) (k:Nat) (lock:List Nat):Ctx:=⟨evF (dS ds) k,fun h=>(((dS ds)[h]?).map (·.io)).getD [],lock⟩
def kQ (P:Program) (w:World) (K:Frag) (mg:Str→Option Value) (base:Heap) (ds:List Def):Prop :=
 ∀ (gv:Nat) (dv:Def) (it:Nat) (ways:List (Str × Nat)),ds[gv]?=some dv→dv.f.vt=some (it,ways)→ways≠[]→ways.length<9→∀ k',Ob.mJ P w K mg base (2*k'+2) (ck ds k' [0]) (tabOf ds) (ij ds)→∃ Ca,Ob.tv P w K mg base dv.cn Ca (2*k'+3) (ck ds k' [0]) it ways
def sN (P:Program) (w:World) (K:Frag) (mg:Str→Option Value) (base:Heap) (ds:List Def):Prop :=
 ∀ (gv:Nat) (dv:Def) (it:Nat),ds[gv]?=some dv→dv.f.vt=some (it,[])→if it=stN then ∃ Ca,Ob.OcF K mg dv.cn Ca∧Ob.OsF K Ca∧Ob.OsR P w K mg base Ca else if 8000≤it then ∀ k',Ob.mJ P w K mg base (2*k'+2) (ck ds k' [0]) (tabOf ds) (ij ds)→∃ Ca,mg dv.cn=some (.ref Ca)∧nsIn K mainGlobals dv.cn=some (some (.ref Ca))∧Ob.LdR P w K mg base Ca (2*k'+3) (ck ds k' [0]) (it-8000) else ∃ Ca,Ob.OcF K mg dv.cn Ca∧Ob.OcR P w K mg base Ca
theorem uh (h:∀ d∈ds,d.f.vt=none):sN P w K mg base ds:=fun c b it hd a=>by
 rw [h b (List.mem_of_getElem? hd)] at a
 cases a
theorem qF (h:∀ d∈ds,d.f.vt=none):kQ P w K mg base ds:=fun c b it ways hd a _=>by
 rw [h b (List.mem_of_getElem? hd)] at a
 cases a
theorem dB {g:Nat} {d:Def} (hd:ds[g]?=some d):(dS ds)[g]?=some d.f:=by rw [List.getElem?_map,hd];rfl
theorem jy {d:Def} (h:d.chk ds=true) (v:d.f.vt≠none):d.name="__debug__" ∧ d.f.io=[]:=by
 unfold Def.chk at h
 rw [if_pos (by cases e:d.f.vt with
  | none=>exact absurd e v
  | some _=>rfl)] at h
 simp only [Bool.and_eq_true,decide_eq_true_eq] at h
 exact ⟨ak h.1.1.1,h.1.1.2⟩
theorem kS {d:Def} (h:d.chk ds=true) (v:d.mt.isSome=true):d.name="__debug__" ∧ d.f.vt=none:=by
 cases e:d.f.vt with
 | some z =>
  unfold Def.chk at h
  rw [if_pos (by rw [e];rfl)] at h
  simp only [Bool.and_eq_true] at h
  have:=h.1.2
  cases em:d.mt<;>rw [em] at this v<;>simp at this v
 | none =>
  refine ⟨?_,rfl⟩
  unfold Def.chk at h
  rw [if_neg (by rw [e];exact fun z=>by cases z)] at h
  simp only [Bool.and_eq_true,Bool.or_eq_true] at h
  rcases h.1.2 with q | q
  ·cases em:d.mt<;>rw [em] at q v<;>simp at q v
  ·exact ak q
theorem x9 (a:∀ d∈ds,d.chk ds=true) {d:Def} (hm:d∈ds) (nb:ax d.name=true):d.f.vt=none:=by
 cases e:d.f.vt with
 | none=>rfl
 | some _ =>
  rw [(jy (a d hm) (by rw [e];exact fun z=>by cases z)).1] at nb
  exact absurd nb (by decide)
theorem nV (a:∀ d∈ds,d.chk ds=true) {d:Def} (hm:d∈ds) (nb:ax d.name=true):d.mt=none:=by
 cases e:d.mt with
 | none=>rfl
 | some _ =>
  rw [(kS (a d hm) (by rw [e];rfl)).1] at nb
  exact absurd nb (by decide)
theorem wN {d:Def} (h:d.chk ds=true):d.ko=[]∨(d.mt.isSome=true∧d.pr=false):=by
 unfold Def.chk at h
 split at h
 ·simp only [Bool.and_eq_true,List.isEmpty_iff] at h
  exact .inl h.2
 ·simp only [Bool.and_eq_true,Bool.or_eq_true,List.isEmpty_iff,Bool.not_eq_true'] at h
  exact h.2
theorem EF {d:Def} (h:d.chk ds=true) (p:d.pr=true):d.ko=[]:=by
 rcases wN h with h | h
 ·exact h
 ·rw [p] at h
  cases h.2
theorem C7 (a:∀ d∈ds,d.chk ds=true) {d:Def} (hm:d∈ds) (nb:ax d.name=true):d.ko=[]:=by
 rcases wN (a d hm) with h | h
 ·exact h
 ·rw [nV a hm nb] at h
  cases h.1
theorem j0 {j k:Nat} (n:2*j≤k) (z:∀ d∈ds,d.f.vt=none→cG K w mg d) (o:∀ d∈ds,d.chk ds=true)
  (ih:∀ (g:Nat) (d:Def),ds[g]?=some d→d.f.vt=none→∀ (a:Addr) (fd:FuncData),Fun K d.fnm d.qual d.st a fd→FnOk P w K mg base CX0 (2*j) a fd d.ps (fD K ds j g d.f.io)) (lock:List Nat):Ob.mJ P w K mg base k (ck ds j lock) (tabOf ds) (ij ds):=by
 intro f x B nb xs r outs ec
 obtain ⟨d',e,rfl⟩:=yU B
 have b:=List.mem_of_getElem? e
 have y:=x9 o b nb
 obtain ⟨q,l,s,c,t,u,m,_⟩:=(z d' b y).ex
 have c:mg d'.name=some (.ref q):=by unfold StandsAt at c;rw [nV o b nb] at c;exact c
 refine ⟨q,l,d'.ps,fD K ds j f d'.f.io,c,t,(ih f d' e y q l s).mono n,u (C7 o b nb),fun p C=>m p (by
  have i:p∈ij ds f:=C
  unfold ij at i
  rw [e] at i
  exact i),fun vs H Q E h=>?_⟩
 have v:(ck ds j lock).io f=d'.f.io:=by
  show (((dS ds)[f]?).map (·.io)).getD []=d'.f.io
  rw [List.getElem?_map,e]
  rfl
 rw [v] at h
 exact h
abbrev Fd (P:Program) (w:World) (K:Frag) (mg:Str→Option Value) (base:Heap) (A':Around) (N:List Str) (s0:Shared) (H0:Hp) (env:Env) (o st:List Env) (ex:List Addr) (pn:List (Addr × Obj)) (xe:Value→Shared→Prop):Cx :=
 { prog:=P,w:=w,K:=K,mg:=mg,base:=base,A:=A',N:=N,s_0:=s0,H_0:=H0,env:=env,outer:=o,stack:=st,ex:=ex,calm:=true,fn:=fun _=>true,pn:=pn,xe:=xe }
theorem Ba (J:∀ d∈ds,d.f.vt=none→cG K w mg d) (R:∀ d∈ds,d.chk ds=true) (hB:∀ b∈tU,mg b=none) (hV:kQ P w K mg base ds) (hN:sN P w K mg base ds) (k:Nat)
  (ih:∀ j≤k,∀ (g:Nat) (d:Def),ds[g]?=some d→d.f.vt=none→∀ (a:Addr) (fd:FuncData),Fun K d.fnm d.qual d.st a fd→FnOk P w K mg base CX0 (2*j) a fd d.ps (fD K ds j g d.f.io))
  (d:Def) (F:d∈ds) (hn:d.f.vt=none) {A':Around} {s0:Shared} {H0:Hp} {env:Env} {o st:List Env} {ex:List Addr} {pn:List (Addr × Obj)} {xe:Value→Shared→Prop} (lock:List Nat) (he:env.scope=defScope d.st) (V:Room (2*k+1) A') (ab:PassesOwn (model P w) A' env xe) :
  XOk (ck ds k lock) (Fd P w K mg base A' d.N s0 H0 env o st ex pn xe) (d.cxt ds):=by
 have ac:=(J d F hn).sc
 let C:Ctx:=ck ds k lock
 refine ⟨rfl,ac.nd,he,rfl,fun _=>rfl,ac.kind,ab,?_,hB,⟨fun f x hx nb xs r outs ec=>?_⟩,(J d F hn).con,fun f cn i=>?_,fun f cn nm ai xs r outs ec=>?_,fun f cn am=>?_,(J d F hn).slo,(J d F hn).xat,fun f cn an=>?_,fun f cn ap=>?_,fun f cn nm ks al ar xs r outs ec=>?_,fun f cn nm aW xs r outs ec=>?_,fun f cn nm a0 xs r outs ec=>?_⟩
 ·have:=V.un
  show A'.units+65<cLine
  omega
 ·obtain ⟨a,fd,ps,sp,q1,q2,q3,q4,q5,q6⟩:=j0 (k:=2*k) (Nat.le_refl _) J R (ih k (Nat.le_refl k)) d.f.io f x hx nb xs r outs ec
  exact ⟨a,fd,ps,sp,2*k,q1,q2,V.mono (by omega),q3,q4,q5,q6⟩
 ·obtain ⟨j,X,m,e,s,G⟩:=nL 0 ds f cn i
  rw [Nat.zero_add] at m
  subst m
  subst G
  obtain ⟨it,w0,ad,t,a3⟩:=mz s
  ·generalize hways:w0::ad=ways at t
   have a1:ways≠[]:=by rw [← hways];exact fun z=>by cases z
   have ae:ways.length<9:=by rw [← hways,List.length_cons];omega
   by_cases hk:k<9
   ·refine .inl fun xs=>?_
    cases ec:C.call f xs with
    | none=>rfl
    | some r =>
     obtain ⟨k',rs,ek,_⟩:=cJ (dB e) t ec
     omega
   ·obtain ⟨k',ek⟩:∃ k',k=k'+9:=⟨k-9,by omega⟩
    obtain ⟨Ca,O⟩:=hV f X it ways e t a1 ae k' (j0 (by omega) J R (ih k' (by omega)) [0])
    refine .inr ⟨Ca,2*k'+3,it,ck ds k' [0],ways,O,V.mono (by omega),?_,fun xs r outs ec=>?_⟩
    ·show (((dS ds)[f]?).map (·.io)).getD []=[]
     rw [dB e]
     exact (jy (R X (List.mem_of_getElem? e)) (by rw [t];exact fun z=>by cases z)).2
    ·obtain ⟨k2,rs,Z,em,er⟩:=cJ (dB e) t ec
     obtain rfl:k2=k':=by omega
     cases er
     subst hways
     obtain ⟨rule,items,lap,ed,mo⟩:=Ob.vX ae (show u9 _ it (w0::ad) xs=some rs from em)
     exact ⟨rule,items,lap,rs,ed,rfl,rfl,mo⟩
 ·obtain ⟨j,dm,q,m,e,s,G,e5,e6⟩:=nA 0 ds f cn nm ai
  rw [Nat.zero_add] at m
  subst m
  have l:=List.mem_of_getElem? e
  have i:=(kS (R dm l) (by rw [s];rfl)).2
  obtain ⟨L,n,v,c,aa,M,I,_⟩:=(J dm l i).ex
  unfold StandsAt at c
  rw [s] at c
  simp only [G,e6,Bool.false_eq_true,if_false] at c
  obtain ⟨Ca,n1,n2,n3⟩:=c
  refine ⟨Ca,L,n,dm.ps,fD K ds k f dm.f.io,2*k,n1,n2,n3,V,ih k (Nat.le_refl k) f dm e i L n v,M e5,fun p hp=>I p (by
   have y:p∈ij ds f:=hp
   unfold ij at y
   rw [e] at y
   exact y),fun vs H Q E h=>?_⟩
  have B:(ck ds k d.f.io).io f=dm.f.io:=by
   show (((dS ds)[f]?).map (·.io)).getD []=dm.f.io
   rw [List.getElem?_map,e]
   rfl
  have h':j4 K ((ck ds k d.f.io).call f) ((ck ds k d.f.io).io f) vs H Q:=h
  rw [B] at h'
  exact h'
 ·obtain ⟨j,X,m,e,s,G⟩:=nr 0 ds f cn am
  rw [Nat.zero_add] at m
  subst m
  subst G
  obtain ⟨it,t,hit,Y⟩:=oY s
  have u:=hN f X it e t
  rw [if_neg hit,if_neg Y] at u
  obtain ⟨Ca,OF,OR⟩:=u
  refine ⟨Ca,OF,?_⟩
  by_cases hk:k<9
  ·refine .inl fun xs=>?_
   cases ec:C.call f xs with
   | none=>rfl
   | some r =>
    obtain ⟨k',rs,ek,_⟩:=cJ (dB e) t ec
    omega
  ·refine .inr ⟨OR,V.mono (by omega),?_,fun xs r outs ec=>?_⟩
   ·show (((dS ds)[f]?).map (·.io)).getD []=[]
    rw [dB e]
    exact (jy (R X (List.mem_of_getElem? e)) (by rw [t];exact fun z=>by cases z)).2
   ·obtain ⟨k2,rs,Z,em,er⟩:=cJ (dB e) t ec
    cases er
    unfold qB at em
    simp only at em
    rw [if_neg hit,if_neg Y] at em
    split at em
    ·exact ⟨_,rs,rfl,rfl,rfl,Ob.nD em⟩
    ·cases em
 ·obtain ⟨j,X,m,e,s,G⟩:=oD 0 ds f cn an
  rw [Nat.zero_add] at m
  subst m
  subst G
  have t:=tj s
  have u:=hN f X _ e t
  rw [if_pos rfl] at u
  obtain ⟨Ca,OF,OA,OR⟩:=u
  refine ⟨Ca,OF,OA,?_⟩
  by_cases hk:k<9
  ·refine .inl fun xs=>?_
   cases ec:C.call f xs with
   | none=>rfl
   | some r =>
    obtain ⟨k',rs,ek,_⟩:=cJ (dB e) t ec
    omega
  ·refine .inr ⟨OR,V.mono (by omega),fun xs r outs ec=>?_⟩
   obtain ⟨k2,rs,Z,em,er⟩:=cJ (dB e) t ec
   cases er
   unfold qB at em
   simp only [if_true] at em
   unfold stF at em
   split at em
   ·cases em
    exact ⟨_,_,_,rfl,rfl⟩
   ·cases em
 ·obtain ⟨j,X,m,e,s,G⟩:=oC 0 ds f cn ap
  rw [Nat.zero_add] at m
  subst m
  subst G
  obtain ⟨it,t,hit⟩:=p7 s
  have ag:it≠stN:=fun z=>by rw [z] at hit;exact absurd hit (by decide)
  by_cases hk:k<9
  ·refine .inl fun xs=>?_
   cases ec:C.call f xs with
   | none=>rfl
   | some r =>
    obtain ⟨k',rs,ek,_⟩:=cJ (dB e) t ec
    omega
  ·obtain ⟨k',ek⟩:∃ k',k=k'+9:=⟨k-9,by omega⟩
   have u:=hN f X it e t
   rw [if_neg ag,if_pos hit] at u
   obtain ⟨Ca,m1,m2,LR⟩:=u k' (j0 (by omega) J R (ih k' (by omega)) [0])
   refine .inr ⟨Ca,2*k'+3,it-8000,ck ds k' [0],m1,m2,LR,V.mono (by omega),fun xs r outs ec=>?_⟩
   obtain ⟨k2,rs,Z,em,er⟩:=cJ (dB e) t ec
   obtain rfl:k2=k':=by omega
   cases er
   refine ⟨rs,rfl,Ob.A5 ?_⟩
   unfold qB at em
   simp only at em
   rw [if_neg ag,if_pos hit] at em
   exact em
 ·obtain ⟨j,dm,q,m,e,s,⟨G,e6⟩,e5⟩:=n8 0 ds f cn nm ks al ar
  rw [Nat.zero_add] at m
  subst m
  have l:=List.mem_of_getElem? e
  have i:=(kS (R dm l) (by rw [s];rfl)).2
  obtain ⟨L,n,v,c,aa,_,_,a2⟩:=(J dm l i).ex
  unfold StandsAt at c
  rw [s] at c
  simp only [G,e6,Bool.false_eq_true,if_false] at c
  obtain ⟨Ca,n1,n2,n3⟩:=c
  refine ⟨Ca,L,n,dm.ps,fD K ds k f dm.f.io,2*k,n1,n2,n3,V,ih k (Nat.le_refl k) f dm e i L n v,a2 _ e5,fun vs H Q E h=>?_⟩
  have B:(ck ds k d.f.io).io f=dm.f.io:=by
   show (((dS ds)[f]?).map (·.io)).getD []=dm.f.io
   rw [List.getElem?_map,e]
   rfl
  have h':j4 K ((ck ds k d.f.io).call f) ((ck ds k d.f.io).io f) vs H Q:=h
  rw [B] at h'
  exact h'
 ·obtain ⟨j,dm,q,m,e,s,G,e6⟩:=nB 0 ds f cn nm aW
  rw [Nat.zero_add] at m
  subst m
  have l:=List.mem_of_getElem? e
  have i:=(kS (R dm l) (by rw [s];rfl)).2
  obtain ⟨L,n,v,c,aa,M,I,_⟩:=(J dm l i).ex
  unfold StandsAt at c
  rw [s] at c
  simp only [G,e6,Bool.false_eq_true,if_false,if_true] at c
  obtain ⟨Ca,n1,n2,p,n3⟩:=c
  refine ⟨Ca,p,L,n,dm.ps,fD K ds k f dm.f.io,2*k,n1,n2,n3,V,ih k (Nat.le_refl k) f dm e i L n v,M (EF (R dm l) G),fun vs H Q E h=>?_⟩
  have B:(ck ds k d.f.io).io f=dm.f.io:=by
   show (((dS ds)[f]?).map (·.io)).getD []=dm.f.io
   rw [List.getElem?_map,e]
   rfl
  have h':j4 K ((ck ds k d.f.io).call f) ((ck ds k d.f.io).io f) vs H Q:=h
  rw [B] at h'
  exact h'
 ·obtain ⟨j,dm,q,m,e,s,e6,e5⟩:=oH 0 ds f cn nm a0
  rw [Nat.zero_add] at m
  subst m
  have l:=List.mem_of_getElem? e
  have i:=(kS (R dm l) (by rw [s];rfl)).2
  obtain ⟨L,n,v,c,aa,M,I,_⟩:=(J dm l i).ex
  unfold StandsAt at c
  rw [s] at c
  simp only [e6,if_true] at c
  obtain ⟨Ca,n1,n2,g1,mc,p,r1,r2⟩:=c
  refine ⟨Ca,p,L,mc,n,dm.ps,fD K ds k f dm.f.io,2*k,g1,n1,r1,r2,V,ih k (Nat.le_refl k) f dm e i L n v,M e5,fun p hp=>I p (by
   have y:p∈ij ds f:=hp
   unfold ij at y
   rw [e] at y
   exact y),fun vs H Q E h=>?_⟩
  have B:(ck ds k d.f.io).io f=dm.f.io:=by
   show (((dS ds)[f]?).map (·.io)).getD []=dm.f.io
   rw [List.getElem?_map,e]
   rfl
  have h':j4 K ((ck ds k d.f.io).call f) ((ck ds k d.f.io).io f) vs H Q:=h
  rw [B] at h'
  exact h'
theorem xq (hT:∀ d∈ds,d.f.vt=none→cG K w mg d) (hC:∀ d∈ds,d.chk ds=true) (hB:∀ b∈tU,mg b=none) (hV:kQ P w K mg base ds) (hN:sN P w K mg base ds) (k:Nat)
  (ih:∀ j≤k,∀ (g:Nat) (d:Def),ds[g]?=some d→d.f.vt=none→∀ (a:Addr) (fd:FuncData),Fun K d.fnm d.qual d.st a fd→FnOk P w K mg base CX0 (2*j) a fd d.ps (fD K ds j g d.f.io))
  (g:Nat) (d:Def) (hd:ds[g]?=some d) (hn:d.f.vt=none) (n:d.f.tr=none∨∃ t vars,d.f.tr=some t∧t.sco=some vars) (a:Addr) (fd:FuncData) (hf:Fun K d.fnm d.qual d.st a fd):FnOk P w K mg base CX0 (2*k+1+1) a fd d.ps (fD K ds (k+1) g d.f.io):=by
 have x:d∈ds:=List.mem_of_getElem? hd
 have aa:=(hT d x hn).sc
 have m:=hC d x
 unfold Def.chk at m
 rw [if_neg (by rw [hn];exact fun z=>by cases z)] at m
 simp only [Bool.and_eq_true,decide_eq_true_eq] at m
 obtain ⟨⟨⟨⟨⟨c1,c2⟩,c3⟩,c4⟩,_⟩,_⟩:=m
 have gT:(dS ds)[g]?=some d.f:=dB hd
 have I:∀ vs H Q E,fD K ds (k+1) g d.f.io vs H Q E→vs.length=d.ps.length:=fun vs H Q E h=>by
  obtain ⟨F,W,xs,r,outs,_,o,_,e,_⟩:=h
  obtain ⟨k',_,hl⟩:=uZ gT hn e
  rw [o.length,hl,c3]
 refine hf.ok aa I fun ab A outer s H vs Q E hr ac=>⟨_,eO,?_⟩
 obtain ⟨F,W,xs,r,outs,sb,o,lv,e,cont⟩:=ac
 have O:=I vs H Q E ⟨F,W,xs,r,outs,sb,o,lv,e,cont⟩
 let X:=(cxOf CX0 P w K mg base d.N d.qual (defScope d.st) a ab A outer s H E).nox
 let C:Ctx:=ck ds k d.f.io
 have ok:XOk C X (d.cxt ds):=Ba hT hC hB hV hN k ih d x hn d.f.io rfl hr PassesOwn.never
 have key:∀ fl,vz C d.f (br d.f xs)=some fl→SOk K F H (start d.N vs) (br d.f xs) W→∀ D:Ends,Fin X d.f.io F H W (start d.N vs) D fl→vi X (defBody d.st) D (start d.N vs) H:=by
  intro fl u y D kf
  have ad:=c1
  unfold jL at c1
  unfold vz at u
  rcases n with n | ⟨t,vars,n,hsv⟩
  ·rw [n] at c1 u
   simp only at c1 u
   exact (nk 100).ss ok c1 y u kf
  ·have ae:=lH n hsv ad
   rw [n] at c1 u
   simp only [ae,Option.isSome_none,Bool.false_eq_true,if_false,hsv,Option.isSome_some,if_true] at c1 u
   unfold wc at c1
   simp only [Bool.and_eq_true] at c1
   obtain ⟨⟨m1,m2⟩,m3⟩:=c1
   split at u
   ·rename_i δ1 R
    rw [← List.take_append_drop d.f.body.length (defBody d.st)]
    refine mK ok 100 m1 y R fun L F' H' W' p J=>?_
    rw [← List.take_append_drop t.body.length ((defBody d.st).drop d.f.body.length)]
    cases G:Au C t vars δ1 with
    | none=>rw [G] at u;simp [rX] at u
    | some fl1 =>
     rw [G] at u
     obtain ⟨δ3,rfl⟩:∃ δ3,fl1=.nx δ3:=by
      unfold Au at G
      split at G
      ·split at G
       ·cases G
        exact ⟨_,rfl⟩
       ·cases G
      ·cases G
     simp only [rX] at u
     exact zT ok m2 p.ok G fun σ2 F2 H2 W2 q l=>(nk 100).ss ok m3 q.ok u ((kf.after p J).after q l)
   ·simp [rX] at u
 simp only [evF,gT,hn] at e
 split at e
 ·rename_i hl
  have y:SOk K F H (start d.N vs) (br d.f xs) W:=by
   refine ⟨sb,?_,lv⟩
   unfold L2.start br
   rw [c2,O,hl,c3]
   exact jo _ o
  have B:∀ i v,vs[i]?=some v→(start d.N vs)[0+i]?=some (some v):=fun i v Z=>by
   unfold L2.start
   rw [Nat.zero_add,List.getElem?_append_left (by rw [List.length_map];exact (List.getElem?_eq_some_iff.mp Z).1),List.getElem?_map,Z]
   rfl
  have fin:∀ {L:L2.St} {δ':Dl} {F' H':Hp} {W' Wt:Fp} {v:V} {c:List D} {r':D},aF δ' d.f.io 0 d.f.ps=some c→(r',c)=(r,outs)→aC K F H W F' H' L δ' W' Wt→Ow K F' H' v r' Wt→bB d.f.io (start d.N vs) L→Q v H':=fun {L δ' F' H' W' Wt v c r'} M Y p ov J=>by
   cases Y
   refine cont v F' H' Wt W' ov ?_ p.dj p.ok.sub (fun b q=>q.elim (p.lt b) (p.ok.lv b)) p.ext
   rw [← c3,← O] at M
   exact mF M (fun _ _=>rfl) p.ok.st fun i v Z ag=>by rw [J _ ag];exact B i v Z
  split at e
  ·rename_i r1 δ1 R
   rw [Option.map_eq_some_iff] at e
   obtain ⟨o1,M,Y⟩:=e
   exact key _ R y _ fun v L F' H' W' Wt p ov J=>fin M Y p ov J
  ·rename_i δ1 R
   rw [Option.map_eq_some_iff] at e
   obtain ⟨o1,M,Y⟩:=e
   exact key _ R y _ fun L F' H' W' p J=>fin M Y p (.frz .non) J
  ·cases e
 ·cases e
theorem zW (c:∀ d∈ds,d.f.vt=none→cG K w mg d) (i:∀ d∈ds,d.chk ds=true) (l:∀ b∈tU,mg b=none) (m:kQ P w K mg base ds) (hN:sN P w K mg base ds) (n:∀ d∈ds,d.f.tr=none∨∃ t vars,d.f.tr=some t∧t.sco=some vars) (k:Nat):∀ (g:Nat) (d:Def),ds[g]?=some d→d.f.vt=none→∀ (a:Addr) (fd:FuncData),Fun K d.fnm d.qual d.st a fd→FnOk P w K mg base CX0 (2*k) a fd d.ps (fD K ds k g d.f.io):=by
 induction k using Nat.strongRecOn with
 | _ k ih =>
  cases k with
  | zero =>
   intro g d hd hn a fd hf
   have no:∀ vs H Q E,¬ fD K ds 0 g d.f.io vs H Q E:=fun vs H Q E h=>by
    obtain ⟨_,_,_,_,_,_,_,_,e,_⟩:=h
    simp [evF] at e
   exact ⟨fun vs H Q E h=>absurd h (no _ _ _ _),fun A outer s H args us vs Q E _ _ _ _ h=>absurd h (no _ _ _ _)⟩
  | succ k=>exact fun g d hd hn a fd hf=>xq c i l m hN k (fun j o=>ih j (by omega)) g d hd hn (n d (List.mem_of_getElem? hd)) a fd hf
def rF (K:Frag) (most:Nat):Sp:=fun vs H Q _=>∃ (a:Addr) (ns:List Int),vs=[.ref a]∧SqL K H a (ns.map V.int)∧ns.length≤most∧(∀ z∈ns,Builtin.Int.intBits z≤1048576)∧∀ H',Q (.bl true) H'
theorem xK (c:∀ d∈ds,d.f.vt=none→cG K w mg d) (h:∀ d∈ds,d.chk ds=true) (i:∀ b∈tU,mg b=none) (j:kQ P w K mg base ds) (hN:sN P w K mg base ds) (l:∀ d∈ds,d.f.tr=none∨∃ t vars,d.f.tr=some t∧t.sco=some vars) {k g most:Nat} {d:Def} (hd:ds[g]?=some d) (hn:d.f.vt=none) (m:d.f.io=[])
  (law:∀ ns:List Int,ns.length≤most→(∀ z∈ns,Builtin.Int.intBits z≤1048576)→evF (dS ds) k g [.scr ns]=some (.bl true,[])) {a:Addr} {fd:FuncData} (hf:Fun K d.fnm d.qual d.st a fd):FnOk P w K mg base CX0 (2*k) a fd d.ps (rF K most):=by
 refine (zW c h i j hN l k g d hd hn a fd hf).imp fun vs H Q E ⟨ad,ns,ev,sq,n,o,q⟩=>?_
 subst ev
 refine ⟨H,No,[.scr ns],.bl true,[],fun _ _ e=>e,.cons (W1:=No) (W2:=No) (.frz (.scr sq)) .nil (fun _ q=>q.elim) (fun _ q=>q.elim) (fun _ q=>q.elim),fun _ q=>q.elim,law ns n o,fun v F' H' r s p _ _ _ _ _=>?_⟩
 cases (Vw.bl ⟨_,p⟩)
 exact q H'
theorem Bl (i:∀ d∈ds,cG K w mg d) (j:∀ d∈ds,d.chk ds=true) (l:∀ b∈tU,mg b=none) (c:∀ d∈ds,d.f.vt=none) (e:∀ d∈ds,d.f.tr=none∨∃ t vars,d.f.tr=some t∧t.sco=some vars) {k g most:Nat} {d:Def} (hd:ds[g]?=some d) (h:d.f.io=[])
  (law:∀ ns:List Int,ns.length≤most→(∀ z∈ns,Builtin.Int.intBits z≤1048576)→evF (dS ds) k g [.scr ns]=some (.bl true,[])) {a:Addr} {fd:FuncData} (hf:Fun K d.fnm d.qual d.st a fd):FnOk P w K mg base CX0 (2*k) a fd d.ps (rF K most) :=
 xK (fun d hd _=>i d hd) j l (qF c) (uh c) e hd (c d (List.mem_of_getElem? hd)) h law hf
end
end Ev
namespace Ev
open PySem
def aO:Fn:={ n:=6,ps:=2,io:=[0],body:=[.ifs (.cmp .gt (.sub (.var 0) (.int 0)) (.int 0)) [.asg (.nm 5) (.bin .mod (.bi .int1 [(.sub (.var 0) (.int 0))]) (.var 1)),
  .setIx (.var 0) (.int 0) (.bin .fdiv (.sub (.var 0) (.int 0)) (.var 1)),
  .ret (.var 5)] [],
  .setIx (.var 0) (.int 2) (.bin .add (.sub (.var 0) (.int 2)) (.int 1)),
  .asg (.nm 2) (.bin .mod (.bi .int1 [(.bin .mul (.bin .add (.sub (.var 0) (.int 1)) (.bin .mul (.int 48271) (.sub (.var 0) (.int 2)))) (.bin .add (.int 39373) (.sub (.var 0) (.int 2))))]) (.int 2147483647)),
  .asg (.nm 3) (.bin .add (.bin .mod (.bi .int1 [(.var 2)]) (.int 40009)) (.int 7)),
  .asg (.nm 4) (.bin .mod (.bi .int1 [(.bin .mul (.bin .add (.bin .add (.var 2) (.sub (.var 0) (.int 2))) (.bin .fdiv (.sub (.var 0) (.int 1)) (.int 1000003))) (.var 3))]) (.int 2147483629)),
  .ret (.bin .mod (.bi .int1 [(.bin .fdiv (.bin .mod (.bi .int1 [(.bin .add (.bin .mul (.var 4) (.int 48271)) (.var 2))]) (.int 2147483587)) (.int 64))]) (.var 1))] }
def bx (x0 x1 x2:Int):D:=.lst true [.int x0,.int x1,.int x2]
def cU (C:Ctx) (f:Fn) (ds:List D):Option (D × List D):=if ds.length=f.ps then match aT C 100 f.body (br f ds) with
    | some (.rt d δ)=>(aF δ f.io 0 f.ps).map fun o=>(d,o)
    | some (.nx δ)=>(aF δ f.io 0 f.ps).map fun o=>(.non,o)
    | _=>none
   else none
theorem bE {T:List Fn} {k g:Nat} {f:Fn} (h:T[g]?=some f) (ds:List D) (a:f.vt=none:=by rfl) (ht:f.tr=none:=by rfl):evF T (k+1) g ds=cU ⟨evF T k,fun h=>((T[h]?).map (·.io)).getD [],f.io⟩ f ds:=by
 simp only [evF,h,a,vz,ht,cU]
 all_goals rfl
theorem take1 {call:Nat→List D→Option (D × List D)} {io:Nat→List Nat} {x0 c x2 b:Int} (h0:0<x0) (d:0<b) (a:b<1073741824):cU ⟨call,io,[0]⟩ aO [bx x0 c x2,.int b]=some (.int (x0 % b),[bx (x0 / b) c x2]):=by
 have e0:decide (0<x0)=true:=decide_eq_true h0
 have e:decide (0<b)=true:=decide_eq_true d
 have f:decide (b<1073741824)=true:=decide_eq_true a
 simp [cU,aO,bx,br,aT,evS,evT,evE,aL,evV,slot,look,looks,settle,toV,bL,D.at,D.lu,D.fz,fzs,ia,mx,biD,ixN,setT,da,aF,bh,cS,D.flat,gH,e0,e,f,h0,d,a]
theorem sm {a:Int} (h0:-18446744073709551616<a) (b:a<18446744073709551616):small64 a=true:=by
 rw [fw]
 rw [decide_eq_true h0,decide_eq_true b]
 rfl
def once (x1 y:Int):Int:=(x1+48271*y)*(39373+y) % 2147483647
def far (x1 y:Int):Int:=once x1 y % 40009+7
def twice (x1 y:Int):Int:=(once x1 y+y+x1 / 1000003)*far x1 y % 2147483629
def rnd (x1 y b:Int):Int:=(twice x1 y*48271+once x1 y) % 2147483587 / 64 % b
theorem take2 {call:Nat→List D→Option (D × List D)} {io:Nat→List Nat} {x0 a x2 b:Int} (h0:¬ 0<x0) (c:0<b) (d:0≤x2) (f:x2<1000000000000):cU ⟨call,io,[0]⟩ aO [bx x0 a x2,.int b]=some (.int (rnd a (x2+1) b),[bx x0 a (x2+1)]):=by
 have e0:decide (0<x0)=false:=decide_eq_false h0
 have e:decide (0<b)=true:=decide_eq_true c
 have g1:small64 (39373+(x2+1))=true:=sm (by omega) (by omega)
 have m1:0≤once a (x2+1) % 40009:=Int.emod_nonneg _ (by decide)
 have g:once a (x2+1) % 40009<40009:=Int.emod_lt_of_pos _ (by decide)
 have g2:small64 (far a (x2+1))=true:=by unfold far;exact sm (by omega) (by omega)
 have g3:small64 48271=true:=by decide
 have d1:∀ y:Int,(a+48271*y)*(39373+y) % 2147483647=once a y:=fun _=>rfl
 have d2:∀ y:Int,once a y % 40009+7=far a y:=fun _=>rfl
 have d3:∀ y:Int,(once a y+y+a / 1000003)*far a y % 2147483629=twice a y:=fun _=>rfl
 have d4:∀ y:Int,(twice a y*48271+once a y) % 2147483587 / 64 % b=rnd a y b:=fun _=>rfl
 simp [cU,aO,bx,br,aT,evS,evT,evE,aL,evV,slot,look,looks,settle,toV,bL,D.at,D.lu,D.fz,fzs,ia,mx,biD,ixN,setT,da,aF,bh,cS,D.flat,gH,e0,e,h0,c,g1,g2,g3,d1,d2,d3,d4]
def Box (c:Int) (d:D):Prop:=∃ x0 x1 x2,d=bx x0 x1 x2∧0≤x2∧x2≤c
theorem Box.mono {c e:Int} {d:D} (h:Box c d) (l:c≤e):Box e d:=by
 obtain ⟨x0,a,x2,rfl,b,f⟩:=h
 exact ⟨x0,a,x2,rfl,b,by omega⟩
theorem y9 {call:Nat→List D→Option (D × List D)} {io:Nat→List Nat} {d:D} {c b:Int} (h:Box c d) (g:c<1000000000000) (a:0<b) (e:b<1073741824) :
  ∃ r d',cU ⟨call,io,[0]⟩ aO [d,.int b]=some (.int r,[d'])∧0≤r∧r<b∧Box (c+1) d':=by
 obtain ⟨x0,i,x2,rfl,f,j⟩:=h
 by_cases h0:0<x0
 ·exact ⟨_,_,take1 h0 a e,Int.emod_nonneg _ (by omega),Int.emod_lt_of_pos _ a,_,_,_,rfl,f,by omega⟩
 ·exact ⟨_,_,take2 h0 a f (by omega),Int.emod_nonneg _ (by omega),Int.emod_lt_of_pos _ a,_,_,_,rfl,by omega,by omega⟩
theorem cQ (d:D):d.at []=some d:=by unfold D.at;rfl
def bQ (t:Nat):Fn:={ n:=2,ps:=2,io:=[0],body:=[.ret (.sub (.var 1) (.call t [(.var 0),(.bi .len [(.var 1)])]))] }
theorem sX {n:Nat} {r:Int} (h0:0≤r) (a:r<n):ixN n r=some r.toNat:=by
 unfold ixN
 rw [if_pos h0,if_pos a]
theorem of_ok {call:Nat→List D→Option (D × List D)} {io:Nat→List Nat} {t:Nat} (a:io t=[0]) {d d':D} {c:Int} (hd:Box c d) {e:Int} (g:Box e d') {o:Bool} {xs:List D} {r:Int} {y:D} (h0:0≤r) (k:r<xs.length) (h:xs[r.toNat]?=some y) (i:y.fz=true)
  (b:call t [d,.int xs.length]=some (.int r,[d'])):cU ⟨call,io,[0]⟩ (bQ t) [d,.lst o xs]=some (y,[d']):=by
 obtain ⟨x0,l,x2,rfl,_⟩:=hd
 obtain ⟨m,n,p,rfl,_⟩:=g
 have j:=sX h0 k
 cases o with
 | true=>simp [cU,bQ,bx,br,aT,evS,evE,aL,slot,look,looks,settle,cQ,D.fz,fzs,biD,aY,eB,valOf,toV,aP,isAtom,a,aF,bh,cS,D.flat] at b ⊢;simp [b,j,h,i,cQ,look,aP,isAtom,a,aF,bh,cS,D.flat,slot]
 | false =>
  by_cases f:fzs xs=true
  ·simp [cU,bQ,bx,br,aT,evS,evE,aL,slot,look,looks,settle,cQ,D.fz,fzs,biD,aY,eB,valOf,toV,aP,isAtom,a,aF,bh,cS,D.flat,f] at b ⊢;simp [b,j,h,i,cQ,look,aP,isAtom,a,aF,bh,cS,D.flat,slot]
  ·simp [cU,bQ,bx,br,aT,evS,evE,aL,slot,look,looks,settle,cQ,D.fz,fzs,biD,aY,eB,valOf,toV,aP,isAtom,a,aF,bh,cS,D.flat,f] at b ⊢;simp [b,j,h,i,cQ,look,aP,isAtom,a,aF,bh,cS,D.flat,slot]
def bT:Fn:={ n:=3,ps:=2,io:=[],body:=[.asg (.nm 2) (.ite (.cmp .lt (.var 1) (.bi .len [(.var 0)])) (.sub (.var 0) (.var 1)) (.int 0)),
  .ret (.lst [(.bin .mul (.bi .abs [(.var 2)]) (.bi .int1 [(.cmp .ge (.bi .abs [(.var 2)]) (.bin .pow (.int 10) (.int 18)))])),(.bin .add (.bin .add (.bin .mod (.bi .int1 [(.var 2)]) (.int 2305843009213693951)) (.bin .mul (.int 39373) (.var 1))) (.int 241)),(.int 0)])] }
theorem dk:∀ cs:List Int,fzs (cs.map .int)=true
 | []=>rfl
 | c::cs=>by simp only [List.map_cons,fzs,D.fz,dk cs,Bool.and_self]
theorem zC {call:Nat→List D→Option (D × List D)} {io:Nat→List Nat} {cs:List Int} {k:Nat} {c:Int} (hk:cs[k]?=some c):∃ d,cU ⟨call,io,[]⟩ bT [.lst false (cs.map .int),.int k]=some (d,[])∧Box 0 d:=by
 have i:(k:Int)<((cs.map D.int).length:Nat):=by
  have:=(List.getElem?_eq_some_iff.mp hk).1
  rw [List.length_map]
  omega
 have e:=sX (Int.natCast_nonneg k) i
 have hg:(cs.map D.int)[k]?=some (.int c):=by rw [List.getElem?_map,hk];rfl
 have f:=dk cs
 have g3:small64 39373=true:=by decide
 have j:small64 10=true:=by decide
 have l:decide ((k:Int)<((cs.map D.int).length:Nat))=true:=decide_eq_true i
 simp only [List.length_map,Int.toNat_natCast] at e l
 have a:k<cs.length:=(List.getElem?_eq_some_iff.mp hk).1
 have b:cs[k]'a=c:=(List.getElem?_eq_some_iff.mp hk).2
 by_cases h:(1000000000000000000:Int)≤(if c<0 then -c else c)
 ·refine ⟨bx ((if c<0 then -c else c)*1) (c % 2305843009213693951+39373*k+241) 0,?_,_,_,_,rfl,by omega,by omega⟩
  have g:small64 1=true:=by decide
  simp [cU,bT,bx,br,aT,evS,evE,evT,aL,evV,slot,look,looks,settle,cQ,D.fz,fzs,biD,mx,ia,toV,bC,setT,da,f,e,a,hk,b,g3,j,h,g,aF,gH,cap]
 ·refine ⟨bx ((if c<0 then -c else c)*0) (c % 2305843009213693951+39373*k+241) 0,?_,_,_,_,rfl,by omega,by omega⟩
  have g:small64 0=true:=by decide
  simp [cU,bT,bx,br,aT,evS,evE,evT,aL,evV,slot,look,looks,settle,cQ,D.fz,fzs,biD,mx,ia,toV,bC,setT,da,f,e,a,hk,b,g3,j,h,g,aF,gH,cap]
end Ev
namespace Ev
open PySem
def cellBody:List S:=[.asg (.nm 5) (.bin .mod (.bi .int1 [(.var 3)]) (.var 1)),
  .setIx (.var 2) (.var 5) (.bin .add (.sub (.var 2) (.var 5)) (.bin .mul (.var 4) (.bin .add (.var 3) (.int 2))))]
def bj:Fn:={ n:=6,ps:=2,io:=[],body:=[.asg (.nm 2) (.bor [(.bi .list1 [(.slice (.var 0) none (some (.var 1)))]),(.lst [(.int 0)])]),
  .for_ (.tp [3,4]) .enum [(.slice (.var 0) (some (.var 1)) (some (.int 63)))] cellBody,
  .ret (.var 2)] }
theorem Fg (ns:List Int) (m:Nat):cutD (ns.map D.int) none (some (m:Int))=(ns.take m).map D.int:=by
 unfold cutD sIx
 have:¬ ((m:Int)<0):=by omega
 simp only [if_neg this,List.length_map,List.drop_zero,Nat.sub_zero]
 rw [← List.map_take]
 congr 1
 rw [show (min (m:Int) (ns.length:Int)).toNat=min m ns.length by omega]
 by_cases h:m≤ns.length
 ·rw [Nat.min_eq_left h]
 ·rw [Nat.min_eq_right (by omega),List.take_length,List.take_of_length_le (by omega)]
theorem FA (ns:List Int) (m:Nat):∃ rs:List Int,cutD (ns.map D.int) (some (m:Int)) (some 63)=rs.map D.int∧rs.length≤63∧(rs≠[]→m<ns.length):=by
 unfold cutD sIx
 have:¬ ((m:Int)<0):=by omega
 simp only [if_neg this,List.length_map]
 refine ⟨(ns.drop (min (m:Int) (ns.length:Int)).toNat).take ((if (63:Int)<0 then max (63+(ns.length:Int)) 0 else min 63 (ns.length:Int)).toNat-(min (m:Int) (ns.length:Int)).toNat),?_,?_,fun h=>?_⟩
 ·rw [List.map_take,List.map_drop]
 ·rw [List.length_take]
  omega
 ·cases Nat.lt_or_ge m ns.length with
  | inl q=>exact q
  | inr q =>
   exfalso
   apply h
   rw [List.drop_of_length_le (by omega),List.take_nil]
theorem r7 {C:Ctx} (o:C.lock=[]) {ns cs:List Int} {m k:Nat} {c:Int} {a5:Option D} (hm:0<m) (h:cs.length=m) (hk:k≤63) :
  ∃ (a:List Int) (b:Option D),a.length=m∧aT C 97 cellBody [some (.scr ns),some (.int m),some (.lst true (cs.map .int)),some (.int k),some (.int c),a5] =
   some (.nx [some (.scr ns),some (.int m),some (.lst true (a.map .int)),some (.int k),some (.int c),b]):=by
 obtain ⟨j,em,d⟩:∃ j:Nat,(k:Int) % (m:Int)=(j:Int)∧j<cs.length:=⟨k % m,by simp,by rw [h];exact Nat.mod_lt _ hm⟩
 obtain ⟨y,i⟩:∃ y,cs[j]?=some y:=⟨_,List.getElem?_eq_getElem d⟩
 refine ⟨cs.set j (y+c*((k:Int)+2)),some (.int j),by rw [List.length_set];exact h,?_⟩
 have l:=sX (n:=cs.length) (Int.natCast_nonneg j) (by omega)
 simp only [Int.toNat_natCast] at l
 have e:cs[j]'d=y:=(List.getElem?_eq_some_iff.mp i).2
 have g:small64 ((k:Int)+2)=true:=sm (by omega) (by omega)
 have f:=dk cs
 simp [cellBody,aT,evS,evE,aL,evV,slot,look,looks,settle,cQ,D.fz,fzs,biD,mx,toV,bL,D.lu,setT,da,o,em,l,i,d,e,g,f,hm]
theorem kX {C:Ctx} (i:C.lock=[]) {ns:List Int} {m:Nat} (hm:0<m):∀ (rs cs:List Int) (k:Nat) (a3 a4 a5:Option D),cs.length=m→k+rs.length≤63 →
  ∃ (a:List Int) (b d e:Option D),a.length=m∧forL (setT [] (.tp [3,4])) (aT C 97 cellBody) (cO k (rs.map .int)) [some (.scr ns),some (.int m),some (.lst true (cs.map .int)),a3,a4,a5] =
   some (.nx [some (.scr ns),some (.int m),some (.lst true (a.map .int)),b,d,e])
 | [],cs,k,a3,a4,a5,f,_=>⟨cs,a3,a4,a5,f,by simp [cO,forL]⟩
 | c::rs,cs,k,a3,a4,a5,f,hk=>by
  simp only [List.length_cons] at hk
  obtain ⟨g,j,l,n⟩:=r7 (C:=C) i (ns:=ns) (c:=c) (a5:=a5) hm f (k:=k) (by omega)
  obtain ⟨h,d3,d4,d5,o,p⟩:=kX (ns:=ns) i hm rs g (k+1) (some (.int k)) (some (.int c)) j l (by omega)
  refine ⟨h,d3,d4,d5,o,?_⟩
  simp [cO,forL,setT,cz,da,fzs,D.fz,n,p]
theorem uW {call:Nat→List D→Option (D × List D)} {io:Nat→List Nat} {ns:List Int} {m:Nat} (hm:0<m) (c:m≤63) :
  ∃ cs:List Int,1≤cs.length∧cs.length≤m∧cU ⟨call,io,[]⟩ bj [.scr ns,.int m]=some (.lst true (cs.map .int),[]):=by
 have c1:=Fg ns m
 obtain ⟨rs,c2,i,ne⟩:=FA ns m
 have f1:=dk (ns.take m)
 have f2:=dk rs
 have z2:frzs (rs.map D.int)=rs.map D.int:=by
  have:∀ l:List Int,frzs (l.map D.int)=l.map D.int:=fun l=>by
   induction l with
   | nil=>rfl
   | cons x l ih=>simp only [List.map_cons,frzs,D.frz,ih]
  exact this rs
 by_cases h0:ns.take m=[]
 ·have b:rs=[]:=by
   cases rs with
   | nil=>rfl
   | cons r rs =>
    have:=ne (by simp)
    have h:=congrArg List.length h0
    rw [List.length_take,List.length_nil] at h
    omega
  subst b
  refine ⟨[0],by simp,by simp;omega,?_⟩
  rw [h0] at c1
  simp only [List.map_nil] at c1 c2
  simp [cU,bj,br,aT,evS,evE,evT,xp,aL,evV,cH,slot,look,looks,settle,cQ,D.fz,fzs,biD,items,slD,partsOf,c1,c2,gH,toV,bC,setT,da,itC,itD,fU,cO,forL,D.frz,frzs,aF,cap]
 ·have a:(List.map D.int (ns.take m)).isEmpty=false:=by
   cases h:ns.take m with
   | nil=>exact absurd h h0
   | cons _ _=>rfl
  have ln:(ns.take m).length≤m:=by rw [List.length_take];omega
  have l1:1≤(ns.take m).length:=by
   cases h:ns.take m with
   | nil=>exact absurd h h0
   | cons _ _=>simp
  have l2:rs=[]∨(ns.take m).length=m:=by
   cases rs with
   | nil=>exact .inl rfl
   | cons r rs =>
    have:=ne (by simp)
    exact .inr (by rw [List.length_take];omega)
  generalize ns.take m=cs0 at c1 f1 a ln l1 l2 h0
  obtain ⟨cs,a3,a4,a5,d,e,f⟩:∃ (cs:List Int) (a3 a4 a5:Option D),1≤cs.length∧cs.length≤m∧forL (setT [] (.tp [3,4])) (aT ⟨call,io,[]⟩ 97 cellBody) (cO 0 (rs.map .int)) [some (.scr ns),some (.int m),some (.lst true (cs0.map .int)),none,none,none] =
    some (.nx [some (.scr ns),some (.int m),some (.lst true (cs.map .int)),a3,a4,a5]):=by
   rcases l2 with l2 | l2
   ·subst l2
    exact ⟨cs0,none,none,none,l1,ln,by simp [cO,forL]⟩
   ·obtain ⟨cs,a3,a4,a5,g1,g2⟩:=kX (C:=⟨call,io,[]⟩) (ns:=ns) rfl hm rs cs0 0 none none none l2 (by omega)
    exact ⟨cs,a3,a4,a5,by omega,by omega,g2⟩
  refine ⟨cs,d,e,?_⟩
  have g:=dk cs
  have ne1:cs0.isEmpty=false:=by
   cases cs0 with
   | nil=>exact absurd rfl h0
   | cons _ _=>rfl
  simp [cU,bj,br,aT,evS,evE,evT,xp,aL,evV,cH,slot,look,looks,settle,cQ,D.fz,fzs,biD,items,slD,partsOf,c1,c2,f1,f2,z2,a,ne1,h0,gH,toV,bC,setT,da,itC,itD,fU,D.frz,frzs,aF,cap]
  simp [f,slot,g,D.fz,aF]
end Ev
namespace Ev
open PySem
def Right (call:Nat→List D→Option (D × List D)) (ir:Nat) (s lim:Int):Prop:=∀ d c,Box c d→c≤lim→∃ d',call ir [d]=some (.bl true,[d'])∧Box (c+s) d'
def gJ (ic ib ir:Nat) (m t:Nat):Fn:={ n:=5,ps:=1,io:=[],body:=[.asg (.nm 1) (.call ic [(.var 0),(.int m)]),
  .for_ (.nm 2) .range [(.bi .len [(.var 1)])] [.asg (.nm 3) (.call ib [(.var 1),(.var 2)]),
  .ifs (.bnot (.bi .all1 [(.lc (.call ir [(.var 3)]) (.nm 4) .range [(.int t)] [] [4])])) [.ret (.bl false)] []],
  .ret (.bl true)] }
section
variable {call:Nat→List D→Option (D × List D)} {io:Nat→List Nat} {ic ib ir:Nat}
theorem nP (a:io ir=[0]) {s lim:Int} (e:Right call ir s lim) (hs:0≤s) {a0 a1 a2:Option D}:∀ (xs acc:List D) (c:Int) (d:D),Box c d→c+s*xs.length≤lim→acc.length+xs.length≤1000 →
  ∃ d',lcL (setT [] (.nm 4)) (bR ⟨call,io,[]⟩ 89 []) (evV ⟨call,io,[]⟩ 89 (.call ir [(.var 3)])) [4] xs acc [a0,a1,a2,some d,none]=some (acc++xs.map (fun _=>.bl true),[a0,a1,a2,some d',none])
 | [],acc,c,d,_,_,_=>⟨d,by simp [lcL]⟩
 | x::xs,acc,c,d,f,j,ha=>by
  have b:c+s*(xs.length+1:Nat)≤lim:=by simpa using j
  rw [Int.natCast_succ,Int.mul_add] at b
  have h0:0≤s*(xs.length:Int):=Int.mul_nonneg hs (by omega)
  obtain ⟨d',g,h⟩:=e d c f (by omega)
  simp only [List.length_cons] at ha
  obtain ⟨d2,i⟩:=nP a e hs (a0:=a0) (a1:=a1) (a2:=a2) xs (acc++[.bl true]) (c+s) d' h (by omega) (by simp;omega)
  obtain ⟨x0,l,x2,rfl,_⟩:=f
  obtain ⟨m,n,o,rfl,_⟩:=h
  have k:acc.length<cap:=by unfold cap;omega
  refine ⟨d2,?_⟩
  simp [lcL,setT,da,bR,evV,evE,aL,slot,settle,bx,D.fz,aY,eB,valOf,a,aP,isAtom,toV,bu] at g i ⊢
  simp [g,i,k,a,aP,isAtom,toV,bu,lcL,setT,da,bR,evV,evE,aL,slot,settle,bx,D.fz,aY,eB,valOf]
theorem ja:∀ xs:List D,boolsOf (xs.map fun _=>.bl true)=some (xs.map fun _=>true)
 | []=>rfl
 | x::xs=>by simp only [List.map_cons,boolsOf,ja xs,Option.map_some]
theorem sV:∀ (n:Nat) (lo st:Int),(az lo st n).length=n
 | 0,_,_=>rfl
 | n+1,lo,st=>by simp only [az,List.length_cons,sV n]
theorem nQ:∀ l:List Int,frzs (l.map D.int)=l.map D.int
 | []=>rfl
 | x::l=>by simp only [List.map_cons,frzs,D.frz,nQ l]
theorem all_true:∀ xs:List D,((xs.map fun _=>true).all id)=true
 | []=>rfl
 | x::xs=>by simp only [List.map_cons,List.all_cons,all_true xs];rfl
theorem DP {t:Nat} (h:t≤1000000):aX t=true:=by
 rw [iR]
 rw [decide_eq_true (by omega),decide_eq_true (by omega)]
 rfl
theorem CN {cs:List Int} {ns:List Int} {k:Nat} {o:Bool} {x0 b x2:Int} {a3:Option D} (a:io ib=[])
  (c:call ib [.lst false (cs.map .int),.int k]=some (bx x0 b x2,[])):evS ⟨call,io,[]⟩ 96 (.asg (.nm 3) (.call ib [(.var 1),(.var 2)])) [some (.scr ns),some (.lst o (cs.map .int)),some (.int k),a3,none]=some (.nx [some (.scr ns),some (.lst false (cs.map .int)),some (.int k),some (bx x0 b x2),none]):=by
 have f:=dk cs
 have z:=nQ cs
 cases o<;>simp [evS,evV,evE,aL,slot,look,settle,cQ,D.lu,bL,setT,da,aY,eB,valOf,toV,a,aP,isAtom,D.fz,D.frz,f,z,c,bx]
theorem oB (C:Ctx) (n:Nat) (elt:E) (tg:Tg) (k:ItK) (its ifs:List E) (own:List Nat) (δ:Dl) {xs ys:List D} {δ1 δ2:Dl} (a:cH C n k its δ=some (xs,δ1)) (b:dh δ1 own=true) (c:lcL (setT C.lock tg) (bR C n ifs) (evV C n elt) own xs [] (bu δ1 own)=some (ys,δ2)) :
  evE C (n+1) (.lc elt tg k its ifs own) δ=some (.tmp (.lst true ys),kM δ1 δ2 own):=by
 simp only [evE,a,b,c,if_true]
theorem yf (C:Ctx) (n:Nat) (k:ItK) (es:List E) (δ:Dl) {as:List A} {ds xs:List D} {δ1 δ2:Dl} (a:aL C n es δ=some (as,δ1)) (b:bC δ1 as=some (ds,δ2)) (c:itC C k (frzs ds)=some xs):cH C (n+1) k es δ=some (xs,δ2):=by
 simp only [cH,a,b,c]
theorem bH {t:Nat} (h:t≤1000000):aN [.int t]=some (az 0 1 t):=by
 have e:aN [.int t]=if aX t=true then some (az 0 1 (t:Int).toNat) else none:=by unfold aN;rfl
 rw [e,if_pos (DP h),Int.toNat_natCast]
theorem pW (ds:List D):itD .range ds=aN ds:=rfl
theorem yw (i:Int):frzs [D.int i]=[D.int i]:=rfl
theorem itR (C:Ctx) (n:Nat) (es:List E) (δ:Dl) {t:Nat} (h:t≤1000000) (a:aL C n es δ=some ([.tmp (.int t)],δ)):cH C (n+1) .range es δ=some (az 0 1 t,δ) :=
 yf C n .range es δ a (ds:=[.int t]) (δ2:=δ) (by simp only [bC,toV]) (by rw [show itC C .range (frzs [D.int (t:Int)])=itD .range (frzs [D.int (t:Int)]) from rfl,yw,pW];exact bH h)
theorem De {n t:Nat} (a:t≤100) {cs:List Int} {ns:List Int} {k:Nat} {d d2:D}
  (b:lcL (setT [] (.nm 4)) (bR ⟨call,io,[]⟩ (n+3) []) (evV ⟨call,io,[]⟩ (n+3) (.call ir [(.var 3)])) [4] (az 0 1 t) [] [some (.scr ns),some (.lst false (cs.map .int)),some (.int k),some d,none]=some ((az 0 1 t).map (fun _=>.bl true),[some (.scr ns),some (.lst false (cs.map .int)),some (.int k),some d2,none])) :
  evE ⟨call,io,[]⟩ (n+4) (.lc (.call ir [(.var 3)]) (.nm 4) .range [(.int t)] [] [4]) [some (.scr ns),some (.lst false (cs.map .int)),some (.int k),some d,none]=some (.tmp (.lst true ((az 0 1 t).map (fun _=>.bl true))),[some (.scr ns),some (.lst false (cs.map .int)),some (.int k),some d2,none]) :=
 oB ⟨call,io,[]⟩ (n+3) _ _ _ _ _ _ _ (itR ⟨call,io,[]⟩ (n+2) [(.int t)] [some (.scr ns),some (.lst false (cs.map .int)),some (.int k),some d,none] (t:=t) (by omega) (by simp only [aL,evE,settle])) rfl b
theorem Ec {n t:Nat} {δ δ2:Dl} {e:E} (h:evE ⟨call,io,[]⟩ (n+1) e δ=some (.tmp (.lst true ((az 0 1 t).map (fun _=>.bl true))),δ2)):evT ⟨call,io,[]⟩ (n+5) (.bnot (.bi .all1 [e])) δ=some (false,δ2):=by
 have a:=ja (az 0 1 t)
 have ha:=all_true (az 0 1 t)
 have a1:aL ⟨call,io,[]⟩ (n+2) [e] δ=some ([.tmp (.lst true ((az 0 1 t).map (fun _=>.bl true)))],δ2):=by simp only [aL,h,settle]
 have a2:evE ⟨call,io,[]⟩ (n+3) (.bi .all1 [e]) δ=some (.tmp (.bl true),δ2):=by simp only [evE,a1,looks,look,biD,a,ha]
 have a3:evT ⟨call,io,[]⟩ (n+4) (.bi .all1 [e]) δ=some (true,δ2):=by simp only [evT,a2,look,gH]
 have a4:evT ⟨call,io,[]⟩ (n+5) (.bnot (.bi .all1 [e])) δ=match evT ⟨call,io,[]⟩ (n+4) (.bi .all1 [e]) δ with
   | some (b,δ1)=>some (!b,δ1)
   | none=>none:=rfl
 rw [a4,a3]
 rfl
theorem jC (C:Ctx) (n:Nat) (s:S) (ss:List S) (δ:Dl) {δ1:Dl} (h:evS C n s δ=some (.nx δ1)):aT C (n+1) (s::ss) δ=aT C n ss δ1:=by simp only [aT,h]
theorem yY (C:Ctx) (n:Nat) (c:E) (a:List S) (δ:Dl) {δ1:Dl} (hn:True) (h:evT C (n+1) c δ=some (false,δ1)):evS C (n+2) (.ifs c a []) δ=some (.nx δ1):=by simp only [evS,h,aT]
theorem Av {t:Nat} (a:io ib=[]) (b:t≤100) {cs:List Int} {ns:List Int} {k:Nat} {o:Bool} {x0 c x2:Int} {d2:D} {a3:Option D}
  (d:call ib [.lst false (cs.map .int),.int k]=some (bx x0 c x2,[]))
  (e:lcL (setT [] (.nm 4)) (bR ⟨call,io,[]⟩ 89 []) (evV ⟨call,io,[]⟩ 89 (.call ir [(.var 3)])) [4] (az 0 1 t) [] [some (.scr ns),some (.lst false (cs.map .int)),some (.int k),some (bx x0 c x2),none]=some ((az 0 1 t).map (fun _=>.bl true),[some (.scr ns),some (.lst false (cs.map .int)),some (.int k),some d2,none])) :
  aT ⟨call,io,[]⟩ 97 [.asg (.nm 3) (.call ib [(.var 1),(.var 2)]),
  .ifs (.bnot (.bi .all1 [(.lc (.call ir [(.var 3)]) (.nm 4) .range [(.int t)] [] [4])])) [.ret (.bl false)] []] [some (.scr ns),some (.lst o (cs.map .int)),some (.int k),a3,none] =
   some (.nx [some (.scr ns),some (.lst false (cs.map .int)),some (.int k),some d2,none]):=by
 have f:=CN (o:=o) (ns:=ns) (a3:=a3) a d
 have g:evT ⟨call,io,[]⟩ 94 (.bnot (.bi .all1 [(.lc (.call ir [(.var 3)]) (.nm 4) .range [(.int t)] [] [4])])) [some (.scr ns),some (.lst false (cs.map .int)),some (.int k),some (bx x0 c x2),none]=some (false,[some (.scr ns),some (.lst false (cs.map .int)),some (.int k),some d2,none]):=Ec (n:=89) (De (n:=86) b e)
 refine (jC _ 96 _ _ _ f).trans ((jC _ 95 _ _ _ (yY _ 93 _ _ _ trivial g)).trans rfl)
theorem y7 (set:D→Dl→Option Dl) (body:Dl→Option Fl) (x:D) (xs:List D) (δ:Dl) {δ1 δ2:Dl} (a:set x δ=some δ1) (b:body δ1=some (.nx δ2)):forL set body (x::xs) δ=forL set body xs δ2:=by simp only [forL,a,b]
theorem iE {t:Nat} (g:io ir=[0]) (h:io ib=[]) {s lim:Int} (l:Right call ir s lim) (hs:0≤s) (ht:s*t≤lim) (i:t≤100) {cs:List Int} {ns:List Int}
  (a:∀ (k:Nat) (c:Int),cs[k]?=some c→∃ d,call ib [.lst false (cs.map .int),.int k]=some (d,[])∧Box 0 d) :
  ∀ (n k:Nat) (o:Bool) (a2 a3:Option D),k+n≤cs.length→∃ o' b f,forL (setT [] (.nm 2)) (aT ⟨call,io,[]⟩ 97 [.asg (.nm 3) (.call ib [(.var 1),(.var 2)]),
  .ifs (.bnot (.bi .all1 [(.lc (.call ir [(.var 3)]) (.nm 4) .range [(.int t)] [] [4])])) [.ret (.bl false)] []]) (az k 1 n) [some (.scr ns),some (.lst o (cs.map .int)),a2,a3,none] =
   some (.nx [some (.scr ns),some (.lst o' (cs.map .int)),b,f,none])
 | 0,k,o,a2,a3,_=>⟨o,a2,a3,by simp [az,forL]⟩
 | n+1,k,o,a2,a3,hk=>by
  obtain ⟨c,q⟩:∃ c,cs[k]?=some c:=⟨_,List.getElem?_eq_getElem (by omega)⟩
  obtain ⟨d,r,m⟩:=a k c q
  have j:(0:Int)+s*((az 0 1 t).length:Nat)≤lim:=by rw [sV];omega
  obtain ⟨d2,u⟩:=nP g l hs (a0:=some (.scr ns)) (a1:=some (.lst false (cs.map .int))) (a2:=some (.int k)) (az 0 1 t) [] 0 d m j (by rw [sV];simp;omega)
  obtain ⟨x0,w,x2,rfl,_⟩:=m
  obtain ⟨o',b,f,p⟩:=iE g h l hs ht i (ns:=ns) a n (k+1) false (some (.int k)) (some d2) (by omega)
  refine ⟨o',b,f,?_⟩
  have e:=Av (ir:=ir) (o:=o) (a3:=a3) h i r (by simpa using u)
  have v:((k:Int)+1)=((k+1:Nat):Int):=by omega
  rw [← v] at p
  exact (y7 (setT [] (.nm 2)) _ (.int k) (az ((k:Int)+1) 1 n) _ (δ1:=[some (.scr ns),some (.lst o (cs.map .int)),some (.int k),a3,none]) (by simp [setT,da]) e).trans p
theorem dc (C:Ctx) (n:Nat) (tg:Tg) (k:ItK) (its:List E) (body:List S) (δ:Dl) {xs:List D} {δ1:Dl} {r:Option Fl} (a:cH C n k its δ=some (xs,δ1)) (b:forL (setT C.lock tg) (aT C n body) xs δ1=r):evS C (n+1) (.for_ tg k its body) δ=r:=by
 simp only [evS,a]
 exact b
theorem vN {m t:Nat} (i:io ir=[0]) (j:io ib=[]) (l:io ic=[]) {s lim:Int} (o:Right call ir s lim) (hs:0≤s) (ht:s*t≤lim) (n:t≤100) (hm:m≤63)
  (g:∀ (cs:List Int) (k:Nat) (c:Int),cs[k]?=some c→∃ d,call ib [.lst false (cs.map .int),.int k]=some (d,[])∧Box 0 d)
  (a:∀ ns:List Int,∃ cs:List Int,1≤cs.length∧cs.length≤m∧call ic [.scr ns,.int m]=some (.lst true (cs.map .int),[])) (ns:List Int) :
  cU ⟨call,io,[]⟩ (gJ ic ib ir m t) [.scr ns]=some (.bl true,[]):=by
 obtain ⟨cs,l1,l2,p⟩:=a ns
 obtain ⟨o',b,e,q⟩:=iE i j o hs ht n (ns:=ns) (g cs) cs.length 0 true none none (by omega)
 have f:=dk cs
 have r:evS ⟨call,io,[]⟩ 99 (.asg (.nm 1) (.call ic [(.var 0),(.int m)])) [some (.scr ns),none,none,none,none]=some (.nx [some (.scr ns),some (.lst true (cs.map .int)),none,none,none]):=by
  simp [evS,evV,evE,aL,slot,look,settle,setT,da,aY,eB,valOf,toV,l,aP,isAtom,D.fz,p]
 have u:cH ⟨call,io,[]⟩ 97 .range [(.bi .len [(.var 1)])] [some (.scr ns),some (.lst true (cs.map .int)),none,none,none]=some (az 0 1 cs.length,[some (.scr ns),some (.lst true (cs.map .int)),none,none,none]):=by
  refine itR _ 96 _ _ (t:=cs.length) (by omega) ?_
  have e0:evE ⟨call,io,[]⟩ 95 (.bi .len [(.var 1)]) [some (.scr ns),some (.lst true (cs.map .int)),none,none,none]=some (.tmp (.int cs.length),[some (.scr ns),some (.lst true (cs.map .int)),none,none,none]):=by
   simp [evE,aL,slot,look,looks,settle,cQ,D.fz,biD]
  simp only [aL,e0,settle]
 have h:=q
 simp only [Int.natCast_zero] at h
 have v:evS ⟨call,io,[]⟩ 98 (.for_ (.nm 2) .range [(.bi .len [(.var 1)])] [.asg (.nm 3) (.call ib [(.var 1),(.var 2)]),
  .ifs (.bnot (.bi .all1 [(.lc (.call ir [(.var 3)]) (.nm 4) .range [(.int t)] [] [4])])) [.ret (.bl false)] []]) [some (.scr ns),some (.lst true (cs.map .int)),none,none,none]=some (.nx [some (.scr ns),some (.lst o' (cs.map .int)),b,e,none]):=by
  exact dc _ 97 _ _ _ _ _ u h
 have w:aT ⟨call,io,[]⟩ 98 [.ret (.bl true)] [some (.scr ns),some (.lst o' (cs.map .int)),b,e,none]=some (.rt (.bl true) [some (.scr ns),some (.lst o' (cs.map .int)),b,e,none]):=rfl
 have x:aT ⟨call,io,[]⟩ 100 (gJ ic ib ir m t).body [some (.scr ns),none,none,none,none]=some (.rt (.bl true) [some (.scr ns),some (.lst o' (cs.map .int)),b,e,none]) :=
  (jC _ 99 _ _ _ r).trans ((jC _ 98 _ _ _ v).trans w)
 unfold cU
 rw [if_pos (show [D.scr ns].length=(gJ ic ib ir m t).ps from rfl),show br (gJ ic ib ir m t) [.scr ns]=[some (.scr ns),none,none,none,none] from rfl,x]
 rfl
end
end Ev
namespace Ev
open PySem
theorem aK {α:Sort _} {a b:α} (h:a=b):a=b:=h
@[simp] theorem Ci (C:Ctx) (n:Nat) (δ:Dl):evE C (n+1) .non δ=(some (.tmp .non,δ)):=aK rfl
@[simp] theorem CH (C:Ctx) (n:Nat) {b} (δ:Dl):evE C (n+1) (.bl b) δ=(some (.tmp (.bl b),δ)):=aK rfl
@[simp] theorem uU (C:Ctx) (n:Nat) {i} (δ:Dl):evE C (n+1) (.int i) δ=(some (.tmp (.int i),δ)):=aK rfl
@[simp] theorem B3 (C:Ctx) (n:Nat) {s} (δ:Dl):evE C (n+1) (.str s) δ=(some (.tmp (.str s),δ)):=aK rfl
@[simp] theorem vo (C:Ctx) (n:Nat) {i} (δ:Dl):evE C (n+1) (.var i) δ=(match slot δ i with
   | some d=>if d.fz then some (.tmp d,δ) else some (.bor i [],δ)
   | none=>none):=aK rfl
@[simp] theorem uK (C:Ctx) (n:Nat) {op} {a} {b} (δ:Dl):evE C (n+1) (.bin op a b) δ=(match aL C n [a,b] δ with
   | some (as,δ1)=>match looks δ1 as with
    | some [x,y]=>match mx op x y with
     | some d=>some (.tmp d,δ1)
     | none=>match bC δ1 as with
      | some ([x,y],δ2)=>match mx op x.frz y.frz with
       | some d=>some (.tmp d,δ2)
       | none=>none
      | _=>none
    | _=>none
   | none=>none):=aK rfl
@[simp] theorem Ct (C:Ctx) (n:Nat) {op} {a} {b} (δ:Dl):evE C (n+1) (.cmp op a b) δ=(match aL C n [a,b] δ with
   | some (as,δ1)=>match looks δ1 as with
    | some [x,y]=>match ia op x y with
     | some t=>some (.tmp (.bl t),δ1)
     | none=>none
    | _=>none
   | none=>none):=aK rfl
@[simp] theorem vV (C:Ctx) (n:Nat) {c} {a} {b} (δ:Dl):evE C (n+1) (.ite c a b) δ=(match evT C n c δ with
   | some (true,δ1)=>evE C n a δ1
   | some (false,δ1)=>evE C n b δ1
   | none=>none):=aK rfl
@[simp] theorem B2 (C:Ctx) (n:Nat) {es} (δ:Dl):evE C (n+1) (.tup es) δ=(match aL C n es δ with
   | some (as,δ1)=>match bC δ1 as with
    | some (ds,δ2)=>if decide (ds.length≤cap) then some (.tmp (.tup (frzs ds)),δ2) else none
    | none=>none
   | none=>none):=aK rfl
@[simp] theorem Cr (C:Ctx) (n:Nat) {es} (δ:Dl):evE C (n+1) (.lst es) δ=(match aL C n es δ with
   | some (as,δ1)=>match bC δ1 as with
    | some (ds,δ2)=>if decide (ds.length≤cap) then some (.tmp (.lst true ds),δ2) else none
    | none=>none
   | none=>none):=aK rfl
@[simp] theorem BE (C:Ctx) (n:Nat) {l} {pre} {st} {post} (δ:Dl):evE C (n+1) (.disS l pre st post) δ=(match wK C n pre δ with
   | some (ds,δ1)=>match evV C n st δ1 with
    | some (d,δ2)=>match items d.frz with
     | some xs=>match wK C n post δ2 with
      | some (bs,δ3)=>if decide (ds.length+xs.length+bs.length≤cap) then some (.tmp (BX l (frzs ds++xs++frzs bs)),δ3) else none
      | none=>none
     | none=>none
    | none=>none
   | none=>none):=aK rfl
@[simp] theorem Cs (C:Ctx) (n:Nat) {a} {i} (δ:Dl):evE C (n+1) (.sub a i) δ=(match aL C n [a,i] δ with
   | some ([x,.tmp (.int k)],δ1)=>match look δ1 x with
    | some d=>match d with
     | .lst _ xs=>match ixN xs.length k with
      | some j=>match xs[j]? with
       | some y=>if y.fz then some (.tmp y,δ1) else match x with
        | .bor s p=>some (.bor s (p++[j]),δ1)
        | .tmp _=>none
       | none=>none
      | none=>none
     | .tup xs=>match ixN xs.length k with
      | some j=>match xs[j]? with
       | some y=>some (.tmp y,δ1)
       | none=>none
      | none=>none
     | .str z=>if decide (z.length≤cap) then match ixN z.cps.toList.length k with
       | some j=>match z.cps.toList[j]? with
        | some y=>some (.tmp (.str ⟨#[y]⟩),δ1)
        | none=>none
       | none=>none
      else none
     | _=>none
    | none=>none
   | _=>none):=aK rfl
@[simp] theorem zi (C:Ctx) (n:Nat) {a} {lo} {hi} (δ:Dl):evE C (n+1) (.slice a lo hi) δ=(match aL C n (a::(lo.toList++hi.toList)) δ with
   | some (x::as,δ1)=>match look δ1 x,partsOf lo.isSome hi.isSome as with
    | some d,some (l,h)=>match slD d l h with
     | some r=>some (.tmp r,δ1)
     | none=>match bC δ1 (x::as) with
      | some (d::_,δ2)=>match slD d.frz l h with
       | some r=>some (.tmp r,δ2)
       | none=>none
      | _=>none
    | _,_=>none
   | _=>none):=aK rfl
@[simp] theorem zU (C:Ctx) (n:Nat) {f} {es} (δ:Dl):evE C (n+1) (.call f es) δ=(match aL C n es δ with
   | some (as,δ1)=>aY C f as δ1
   | none=>none):=aK rfl
@[simp] theorem mH (C:Ctx) (n:Nat) {b} {es} (δ:Dl):evE C (n+1) (.bi b es) δ=(match aL C n es δ with
   | some (as,δ1)=>match looks δ1 as with
    | some ds=>match biD b ds with
     | some d=>some (.tmp d,δ1)
     | none=>none
    | none=>none
   | none=>none):=aK rfl
@[simp] theorem CA (C:Ctx) (n:Nat) {a} {ts} (δ:Dl):evE C (n+1) (.isi a ts) δ=(match evE C n a δ with
   | some (x,δ1)=>match look δ1 x with
    | some d=>if isObj d then none else some (.tmp (.bl (ts.any (hG d))),δ1)
    | none=>none
   | none=>none):=aK rfl
@[simp] theorem v5 (C:Ctx) (n:Nat) {elt} {tg} {k} {its} {tg2} {k2} {its2} {own} {own2} (δ:Dl):evE C (n+1) (.lc2 elt tg k its tg2 k2 its2 own own2) δ=(match cH C n k its δ with
   | some (xs,δ1)=>if dh δ1 own then match pR (setT C.lock tg) (cH C n k2 its2) (lcL (setT C.lock tg2) (bR C n []) (evV C n elt) own2) own own2 xs [] (bu δ1 own) with
     | some (ys,δ2)=>some (.tmp (.lst true ys),kM δ1 δ2 own)
     | none=>none
    else none
   | none=>none):=aK rfl
@[simp] theorem AI (C:Ctx) {n} {e} {δ}:evV C (n+1) e δ=(match evE C n e δ with
  | some (a,δ1)=>toV δ1 a
  | none=>none):=aK rfl
@[simp] theorem CV (C:Ctx) {n} {es} {δ}:wK C (n+1) es δ=(match aL C n es δ with
  | some (as,δ1)=>bC δ1 as
  | none=>none):=aK rfl
@[simp] theorem xb (C:Ctx) {n} {δ}:aL C (n+1) [] δ=(some ([],δ)):=aK rfl
@[simp] theorem gU (C:Ctx) {n} {e} {es} {δ}:aL C (n+1) (e::es) δ=(match evE C n e δ with
  | some (a,δ1)=>match settle es δ1 a with
   | some (a,δ2)=>match aL C n es δ2 with
    | some (as,δ3)=>some (a::as,δ3)
    | none=>none
   | none=>none
  | none=>none):=aK rfl
@[simp] theorem BP (C:Ctx) (n:Nat) {es} (δ:Dl):evT C (n+1) (.band es) δ=(eK C n es δ):=aK rfl
@[simp] theorem Cf (C:Ctx) (n:Nat) {es} (δ:Dl):evT C (n+1) (.bor es) δ=(jw C n es δ):=aK rfl
@[simp] theorem zB (C:Ctx) (n:Nat) {a} (δ:Dl):evT C (n+1) (.bnot a) δ=(match evT C n a δ with
   | some (b,δ1)=>some (!b,δ1)
   | none=>none):=aK rfl
@[simp] theorem BH (C:Ctx) {n} {e} {δ}:eK C (n+1) [e] δ=(evT C n e δ):=aK rfl
@[simp] theorem AA (C:Ctx) {a} {n} {e} {es} {δ}:eK C (n+1) (e::a::es) δ=(match evT C n e δ with
  | some (true,δ1)=>eK C n (a::es) δ1
  | some (false,δ1)=>some (false,δ1)
  | none=>none):=aK rfl
@[simp] theorem Cy (C:Ctx) {n} {e} {δ}:jw C (n+1) [e] δ=(evT C n e δ):=aK rfl
@[simp] theorem Ce (C:Ctx) {a} {n} {e} {es} {δ}:jw C (n+1) (e::a::es) δ=(match evT C n e δ with
  | some (false,δ1)=>jw C n (a::es) δ1
  | some (true,δ1)=>some (true,δ1)
  | none=>none):=aK rfl
@[simp] theorem Dm (C:Ctx) {n} {k} {es} {δ}:cH C (n+1) k es δ=(match aL C n es δ with
  | some (as,δ1)=>match bC δ1 as with
   | some (ds,δ2)=>match itC C k (frzs ds) with
    | some xs=>some (xs,δ2)
    | none=>none
   | none=>none
  | none=>none):=aK rfl
@[simp] theorem rO (C:Ctx) (n:Nat) {e} (δ:Dl):evS C (n+1) (.expr e) δ=(match evE C n e δ with
   | some (_,δ1)=>some (.nx δ1)
   | none=>none):=aK rfl
@[simp] theorem B6 (C:Ctx) (n:Nat) {e} (δ:Dl):evS C (n+1) (.ret e) δ=(match evE C n e δ with
   | some (.tmp d,δ1)=>some (.rt d δ1)
   | some (.bor i [],δ1)=>match slot δ1 i with
    | some d=>if C.lock.contains i then none else some (.rt d (δ1.set i none))
    | none=>none
   | some (.bor i p,δ1)=>match toV δ1 (.bor i p) with
    | some (d,δ2)=>some (.rt d δ2)
    | none=>none
   | none=>none):=aK rfl
@[simp] theorem BU (C:Ctx) (n:Nat) {t} {e} (δ:Dl):evS C (n+1) (.asg t e) δ=(match evV C n e δ with
   | some (d,δ1)=>match setT C.lock t d δ1 with
    | some δ2=>some (.nx δ2)
    | none=>none
   | none=>none):=aK rfl
@[simp] theorem uy (C:Ctx) (n:Nat) {is} {es} (δ:Dl):evS C (n+1) (.par is es) δ=(match aL C n es δ with
   | some (as,δ1)=>match bC δ1 as with
    | some (ds,δ2)=>match cz C.lock is ds δ2 with
     | some δ3=>some (.nx δ3)
     | none=>none
    | none=>none
   | none=>none):=aK rfl
@[simp] theorem Cw (C:Ctx) (n:Nat) {c} {a} {b} (δ:Dl):evS C (n+1) (.ifs c a b) δ=(match evT C n c δ with
   | some (true,δ1)=>aT C n a δ1
   | some (false,δ1)=>aT C n b δ1
   | none=>none):=aK rfl
@[simp] theorem CJ (C:Ctx) {n} {δ}:aT C (n+1) [] δ=(some (.nx δ)):=aK rfl
@[simp] theorem DJ (C:Ctx) {n} {s} {ss} {δ}:aT C (n+1) (s::ss) δ=(match evS C n s δ with
  | some (.nx δ1)=>aT C n ss δ1
  | r=>r):=aK rfl
@[simp] theorem BR (C:Ctx) (n:Nat) {op} {a} {b} (δ:Dl):evT C (n+1) (.cmp op a b) δ=(match evE C n (.cmp op a b) δ with
   | some (a,δ1)=>match look δ1 a with
    | some d=>match gH d with
     | some b=>some (b,δ1)
     | none=>none
    | none=>none
   | none=>none):=aK rfl
@[simp] theorem AS (C:Ctx) (n:Nat) {f} {es} (δ:Dl):evT C (n+1) (.call f es) δ=(match evE C n (.call f es) δ with
   | some (a,δ1)=>match look δ1 a with
    | some d=>match gH d with
     | some b=>some (b,δ1)
     | none=>none
    | none=>none
   | none=>none):=aK rfl
@[simp] theorem mL (C:Ctx) (n:Nat) {o es} (δ:Dl):evE C (n+1) (.meth .extend o es) δ=pb .extend (aL C n es) (evE C n o δ):=aK rfl
@[simp] theorem x6 (d:D) (δ:Dl):slot (some d::δ) 0=some d:=aK rfl
@[simp] theorem Ck (δ:Dl):slot (none::δ) 0=none:=aK rfl
@[simp] theorem yZ (x:Option D) (δ:Dl) (i:Nat):slot (x::δ) (i+1)=slot δ i:=aK rfl
@[simp] theorem vd (d:D):d.at []=some d:=by unfold D.at;rfl
@[simp] theorem tK (d:D) (f:D→Option D):d.lu [] f=f d:=by unfold D.lu;rfl
@[simp] theorem sj (δ:Dl) (d:D):look δ (.tmp d)=some d:=aK rfl
@[simp] theorem Aa (δ:Dl) (i:Nat):look δ (.bor i [])=slot δ i:=by
 unfold look
 simp only [vd]
 cases h:slot δ i<;>rfl
@[simp] theorem ph (δ:Dl):looks δ []=some []:=aK rfl
@[simp] theorem mM (δ:Dl) (a:A) (as:List A):looks δ (a::as)=(match look δ a,looks δ as with
 | some d,some ds=>some (d::ds)
 | _,_=>none):=aK rfl
@[simp] theorem y8 (δ:Dl) (i:Nat) (f:D→Option D):bL δ i [] f=(match slot δ i with
  | some d=>match f d with
    | some d'=>some (δ.set i (some d'))
    | none=>none
  | none=>none):=by
  unfold bL
  simp only [tK]
  all_goals (cases slot δ i<;>first
    | rfl
    | (rename_i d;cases f d<;>rfl)
    | (rename_i d;simp only;cases f d<;>rfl))
@[simp] theorem t8 (δ:Dl) (d:D):toV δ (.tmp d)=some (d,δ):=aK rfl
@[simp] theorem Cv (δ:Dl) (i:Nat):toV δ (.bor i [])=(match slot δ i with
 | some d=>some (d.frz,δ.set i (some d.frz))
 | none=>none):=by
 unfold toV
 simp
 cases slot δ i<;>simp
@[simp] theorem Bz (δ:Dl):bC δ []=some ([],δ):=aK rfl
@[simp] theorem zz (δ:Dl) (a:A) (as:List A):bC δ (a::as)=(match toV δ a with
  | some (d,δ1)=>match bC δ1 as with
   | some (ds,δ2)=>some (d::ds,δ2)
   | none=>none
  | none=>none):=aK rfl
@[simp] theorem lS {α:Type} (es:List α) (δ:Dl) (d:D):settle es δ (.tmp d)=some (.tmp d,δ):=aK rfl
@[simp] theorem xX {α:Type} (es:List α) (δ:Dl) (i:Nat):settle es δ (.bor i [])=some (.bor i [],δ):=aK rfl
@[simp] theorem CQ:D.non.fz=true:=aK rfl
@[simp] theorem yN (b:Int):(D.int b).fz=true:=aK rfl
@[simp] theorem DS (b:Str):(D.str b).fz=true:=aK rfl
@[simp] theorem fc (b:List D):(D.tup b).fz=fzs b:=by simp only [D.fz]
@[simp] theorem CU (o:Bool) (b:List D):(D.lst o b).fz=(!o&&fzs b):=by simp only [D.fz]
@[simp] theorem Cm:fzs []=true:=aK rfl
@[simp] theorem Be (d:D) (ds:List D):fzs (d::ds)=(d.fz&&fzs ds):=by simp only [fzs]
@[simp] theorem Cz (b:Int):(D.int b).frz=.int b:=aK rfl
@[simp] theorem Cg (b:Str):(D.str b).frz=.str b:=aK rfl
@[simp] theorem Cp (b:List D):(D.tup b).frz=.tup (frzs b):=by simp only [D.frz]
@[simp] theorem Cc (o:Bool) (b:List D):(D.lst o b).frz=.lst false (frzs b):=by simp only [D.frz]
@[simp] theorem zM:frzs []=[]:=aK rfl
@[simp] theorem zm (d:D) (ds:List D):frzs (d::ds)=d.frz::frzs ds:=by simp only [frzs]
@[simp] theorem BZ (C:Ctx) (ds:List D):itC C .val ds=itD .val ds:=aK rfl
@[simp] theorem zu (C:Ctx) (ds:List D):itC C .range ds=itD .range ds:=aK rfl
@[simp] theorem A3 (C:Ctx) (ds:List D):itC C .enum ds=itD .enum ds:=aK rfl
@[simp] theorem B9 (ds:List D):itD .val ds=ke ds:=aK rfl
@[simp] theorem zy (ds:List D):itD .range ds=aN ds:=aK rfl
@[simp] theorem Bv (ds:List D):itD .enum ds=fU ds:=aK rfl
@[simp] theorem zv (xs:List D):ke [.tup xs]=some xs:=aK rfl
@[simp] theorem zA (xs:List D):ke [.lst false xs]=some xs:=aK rfl
@[simp] theorem xF (xs:List D):fU [.tup xs]=some (cO 0 xs):=aK rfl
@[simp] theorem Cn (o:Bool) (xs:List D):biD .len [.lst o xs]=some (.int xs.length):=aK rfl
@[simp] theorem BY (xs:List D):biD .len [.tup xs]=some (.int xs.length):=aK rfl
@[simp] theorem Co (a b:Int):biD .min2 [.int a,.int b]=some (.int (if b<a then b else a)):=aK rfl
@[simp] theorem Bp (d:D):biD .tuple1 [d]=(items d).map .tup:=aK rfl
@[simp] theorem o8 (ds:List D):biD .lrange ds=(match aN ds with
  | some xs=>if decide (xs.length≤cap) then some (.lst true xs) else none
  | none=>none):=aK rfl
@[simp] theorem vR (o:Bool) (xs:List D):biD .lset [.lst o xs]=(match intsOf xs with
  | some ns=>if gh ns&&Nat.ble xs.length 60 then some (.int xs.length) else if Nat.ble xs.length 60 then some (.int (bf ns).length) else none
  | none=>match strsOf xs with
   | some ss=>if Nat.ble xs.length 60 then some (.int (bf ss).length) else none
   | none=>match cA xs with
    | some zs=>if Nat.ble xs.length 76 then some (.int (bf zs).length) else none
    | none=>none):=aK rfl
@[simp] theorem zj (xs:List D):items (.tup xs)=some xs:=aK rfl
@[simp] theorem zt (o:Bool) (xs:List D):items (.lst o xs)=(if fzs xs then some xs else none):=aK rfl
@[simp] theorem ve (a b:Int):mx .add (.int a) (.int b)=some (.int (a+b)):=aK rfl
@[simp] theorem B4 (a b:Int):mx .sub (.int a) (.int b)=some (.int (a-b)):=aK rfl
@[simp] theorem vU (a b:Int):mx .mul (.int a) (.int b)=(if small64 a||small64 b then some (.int (a*b)) else none):=aK rfl
@[simp] theorem sP (a b:Int):mx .fdiv (.int a) (.int b)=(if decide (0<b)&&decide (b<1073741824) then some (.int (a / b)) else none):=aK rfl
@[simp] theorem Dd (a b:D):ia .eq a b=(if plain a&&plain b then some (a.eq b) else none):=aK rfl
@[simp] theorem Dk (a b:D):ia .ne a b=(if plain a&&plain b then some (!a.eq b) else none):=aK rfl
@[simp] theorem Du (a b:Int):ia .lt (.int a) (.int b)=some (decide (a<b)):=aK rfl
@[simp] theorem Eh (a:D):ia .isn a .non=some (isNon a):=aK rfl
@[simp] theorem zo (a:D):ia .isnotn a .non=some (!isNon a):=aK rfl
@[simp] theorem Ei (xs:List D) (lo hi:Option Int):slD (.tup xs) lo hi=some (.tup (cutD xs lo hi)):=aK rfl
@[simp] theorem DG (o:Bool) (xs:List D) (lo hi:Option Int):slD (.lst o xs) lo hi=(if fzs xs then some (.lst true (cutD xs lo hi)) else none):=aK rfl
@[simp] theorem zG (i:Int):partsOf false true [.tmp (.int i)]=some (none,some i):=aK rfl
@[simp] theorem Ax (i j:Int):partsOf true true [.tmp (.int i),.tmp (.int j)]=some (some i,some j):=aK rfl
@[simp] theorem za (k:Nat) (i:Int):(D.int i).ok k=true:=by cases k<;>rfl
@[simp] theorem C9 (k:Nat) (s:Str):(D.str s).ok k=PyData.strOk s:=by cases k<;>rfl
@[simp] theorem Ey (k:Nat) (xs:List D):(D.tup xs).ok (k+1)=oks k xs:=aK rfl
@[simp] theorem BW (k:Nat):oks k []=true:=by cases k<;>rfl
@[simp] theorem tD (k:Nat) (d:D) (ds:List D):oks k (d::ds)=(d.ok k&&oks k ds):=by cases k<;>rfl
@[simp] theorem qV (i j:Int):(D.int i).eq (.int j)=(i==j):=aK rfl
@[simp] theorem Df (i j:Str):(D.str i).eq (.str j)=(i==j):=aK rfl
@[simp] theorem EW (i j:Bool):(D.bl i).eq (.bl j)=(i==j):=aK rfl
@[simp] theorem DR (i j:List D):(D.tup i).eq (.tup j)=eqs i j:=aK rfl
@[simp] theorem qW (x y:D) (xs ys:List D):eqs (x::xs) (y::ys)=(x.eq y&&eqs xs ys):=aK rfl
@[simp] theorem CY (b:Bool):gH (.bl b)=some b:=aK rfl
@[simp] theorem As (io:List Nat) (j:Nat) (δ:Dl):eB io j [] δ=some ([],δ):=aK rfl
@[simp] theorem zw (j:Nat) (a:A) (as:List A) (δ:Dl):eB [] j (a::as) δ=(match eB [] (j+1) as δ with
   | some (os,δ')=>some (none::os,δ')
   | none=>none):=aK rfl
@[simp] theorem zl (δ:Dl):valOf [] [] δ=some ([],δ):=aK rfl
@[simp] theorem xS (os:List (Option D)) (a:A) (as:List A) (δ:Dl):valOf (none::os) (a::as) δ=(match toV δ a with
  | some (d,δ1)=>match valOf os as δ1 with
   | some (ds,δ')=>some (d::ds,δ')
   | none=>none
  | none=>none):=aK rfl
@[simp] theorem yS (io:List Nat) (j:Nat) (outs:List D) (δ:Dl):aP io j [] outs δ=δ:=aK rfl
@[simp] theorem wu (j:Nat) (a:A) (as:List A) (outs:List D) (δ:Dl):aP [] j (a::as) outs δ=aP [] (j+1) as outs δ:=aK rfl
@[simp] theorem Cq (lock:List Nat) (i:Nat) (d:D) (δ:Dl):setT lock (.nm i) d δ=da lock i d δ:=aK rfl
@[simp] theorem Cj (lock:List Nat) (is:List Nat) (ds:List D) (δ:Dl):setT lock (.tp is) (.tup ds) δ=(if fzs ds then cz lock is ds δ else none):=aK rfl
@[simp] theorem zp (lock:List Nat) (δ:Dl):cz lock [] [] δ=some δ:=aK rfl
@[simp] theorem yV (lock:List Nat) (i:Nat) (is:List Nat) (d:D) (ds:List D) (δ:Dl):cz lock (i::is) (d::ds) δ=(match da lock i d δ with
  | some δ1=>cz lock is ds δ1
  | none=>none):=aK rfl
@[simp] theorem xV (δ:Dl) (j m:Nat):aF δ [] j m=some []:=by
 induction m generalizing j with
 | zero=>rfl
 | succ m ih=>simp [aF,ih]
@[simp] theorem B7 (lock:List Nat) (i:Nat) (d:D) (δ:Dl):da lock i d δ=(if decide (i<δ.length)&&!lock.contains i then some (δ.set i (some d)) else none):=aK rfl
@[simp] theorem Ab (C:Ctx) (f:Nat) (as:List A) (δ:Dl):aY C f as δ=(match eB (C.io f) 0 as δ with
 | some (os,a)=>match valOf os as a with
  | some (ds,δ2)=>match C.call f ds with
   | some (r,outs)=>some (.tmp r,aP (C.io f) 0 as outs (if isAtom r then (if deep (C.io f) then δ2 else a) else δ2))
   | none=>none
  | none=>none
 | none=>none):=aK rfl
end Ev
namespace Ob
open PySem PySem.Spec PyProof.Rows L2 Ev
section
variable {P:Program} {w:World} {K:Frag} {mg:Str→Option Value} {base:Heap} {C:Addr}
end
end Ob
namespace Xc
open PySem PySem.Spec PySem.W PySem.Calls PyProof.Rows L2
end Xc
namespace Xr
open PySem PySem.Spec PyProof.Rows L2
section
variable {M:Model} {A:Around} {E:Value→Shared→Prop} {s:Shared} {Z:Obj→Prop} {base:Heap} {env:Env} {outer l:List Env} {L L' e:Addr}
end
section
variable {X:Cx} {pins:List (Addr × Obj)} {σ:L2.St} {H:Hp} {s:Shared} {W:XK}
end
end Xr
namespace Ev
open PySem PySem.Spec PyProof.Rows L2
def Ee (F F':Hp):Option Addr→Hp
 | none=>F
 | some dd=>fun b=>if b=dd then F' dd else F b
theorem zx {F F':Hp} {dd b:Addr}:Ee F F' (some dd) b=if b=dd then F' dd else F b:=rfl
section
variable {K:Frag} {F H F0 H0 F' H':Hp} {σ:L2.St}
end
end Ev
namespace Ev
open PySem PySem.Spec PyProof.Rows L2
section
variable {C:Ctx} {X:Cx} {c:Cxt} {m:Nat} {σ:L2.St} {δ δ':Dl} {F H:Hp} {W:Fp} {r:D} {Wx:WX}
end
end Ev
namespace Ev
open PySem PySem.Spec PyProof.Rows L2
section
variable {C:Ctx} {X:Cx} {c:Cxt} {Wx:WX}
end
end Ev
namespace Xc
open PySem PySem.Spec PySem.W PySem.Calls PyProof.Rows L2
end Xc
namespace Xn
open PySem PySem.Spec PySem.W PySem.Calls PyProof.Rows L2
section
variable {X:Cx} {n:Str} {i:Nat} {pos':Pos} {Wout:WX} {pins:List (Addr × Obj)}
end
section
variable {X:Cx} {x n:Str} {c:Value} {i:Nat} {body suite:List Stmt} {b₀:Stmt} {np pos pos':Pos} {tb:WX→TS} {ts:Addr→Value→Option Addr→TS} {Wout:WX}
end
end Xn
namespace Xn
open PySem PySem.Spec PySem.W PySem.Calls PyProof.Rows L2
end Xn
namespace Ev
open PySem PySem.Spec PyProof.Rows L2
section
variable {C:Ctx} {X:Cx} {c:Cxt} {Wx:WX}
section
variable {ss:List S} {m i:Nat} {body:List Stmt} {x x2 en:Str} {cv:Value} {Cb:Addr} {np p1 p2 p3 p4 pos pos':Pos} {σ:L2.St} {δ:Dl} {F H:Hp} {W:Fp} {D:Ends}
end
end
end Ev
namespace Ev
open PySem PySem.Spec PyProof.Rows L2
section
variable {P:Program} {w:World} {K:Frag} {mg:Str→Option Value} {base:Heap} {ds:List Def}
end
end Ev
namespace Ev
open PySem PySem.Spec PyProof.Rows L2
section
variable {P:Program} {w:World} {K:Frag} {mg:Str→Option Value} {base:Heap} {ds:List Def}
end
end Ev
namespace Xc
open PySem PySem.Spec PySem.W PySem.Calls PyProof.Rows L2
section
variable {X:Cx} {pins:List (Addr × Obj)} {σ:L2.St} {H:Hp} {s:Shared}
end
end Xc
namespace Ev
open PySem PySem.Spec PyProof.Rows L2
section
variable {C:Ctx} {X:Cx} {c:Cxt}
end
end Ev
namespace Xc
open PySem PySem.Spec PySem.W PySem.Calls PyProof.Rows L2
section
variable {X:Cx} {pins:List (Addr × Obj)} {σ:L2.St} {H:Hp} {s:Shared}
end
end Xc
namespace Ev
open PySem PySem.Spec PyProof.Rows L2
section
variable {X:Cx} {C:Ctx} {c:Cxt}
end
end Ev
namespace Ev
open PySem PySem.Spec PyProof.Rows L2
section
variable {P:Program} {w:World} {K:Frag} {mg:Str→Option Value} {base:Heap} {ds:List Def}
end
end Ev
namespace Xc
open PySem PySem.Spec PySem.W PySem.Calls PyProof.Rows L2
section
variable {bb:Bas} {K:Frag} {prog:Program} {C fI cc cda:Addr} {qual x0:Str} {xs:List Str} {params:Arguments} {body rest:List Stmt} {scope:Scope} {e0:Expr} {es:List Expr} {p0 p1 p2 p3 p4:Pos}
 {oc kV doc pm ct ccl cl:Value} {od an cdd cld:Option Addr} {osl ccs csl:Array (Option Value)} {vs:Array Value} {file:Str} {tf:Tok} {ar:Arg}
 {nm q:Str} {N:Addr} {bs bm:List Value} {sn:List Str} {sub:List Value} {ab:Bool} {col:Option Bool} {dd:Option Addr} {k0 k1 k2 k3 k5:Option Value}
end
end Xc
namespace Ev
open PySem PySem.Spec PyProof.Rows L2
section
variable {K:Frag} {mg:Str→Option Value} {C D:Addr} {T:String} {b:Bool} {t v:Value} {r cs:List Value}
end
end Ev
namespace Ob
open PySem PySem.Spec PyProof.Rows L2 Ev
section
variable {P:Program} {w:World} {K:Frag} {mg:Str→Option Value} {base:Heap} {C:Addr}
end
end Ob
namespace Ob
open PySem PySem.Spec PyProof.Rows L2 Ev
section
variable {P:Program} {w:World} {K:Frag} {mg:Str→Option Value} {base:Heap} {C:Addr}
end
end Ob
namespace Ev
open PySem PySem.Spec PyProof.Rows L2
section
variable {K:Frag} {x q:Str} {params:Arguments} {body:List Stmt} {scope:Scope} {f:Addr} {fd:FuncData}
theorem cE {ps:List Str}:∀ p∈([]:List (List Str × List Str)),Eb K fd ps p.1 p.2:=fun p a=>by cases a
end
end Ev
namespace Ev
open PySem PySem.Spec PyProof.Rows L2
section
variable {K:Frag} {mg:Str→Option Value} {d:Def} {cn m q:Str} {Ca a p:Addr}
end
end Ev
namespace Ev
open PySem
theorem eF {α:Type} (l:List α) (i:Nat) (x y:α):(l.set i x).set i y=l.set i y:=List.set_set ..
theorem mD {α:Type}:∀ (l:List α) (i:Nat) (x:α),l[i]?=some x→l.set i x=l
 | [],i,x,e=>by simp at e
 | y::l,0,x,e=>by simp at e;simp [e]
 | y::l,i+1,x,e=>by simp only [List.set_cons_succ];rw [mD l i x (by simpa using e)]
theorem oq {set:D→Dl→Option Dl} {test:Dl→Option (Bool × Dl)} {elt:Dl→Option (D × Dl)} {own:List Nat} {p:D→Bool} {f:D→D} {δ:Dl} :
  ∀ (xs acc:List D),(∀ x∈xs,∃ δ1 δ2,set x δ=some δ1∧test δ1=some (p x,δ2)∧(p x=false→bu δ2 own=δ)∧(p x=true→∃ δ3,elt δ2=some (f x,δ3)∧bu δ3 own=δ))→acc.length+xs.length≤cap →
  lcL set test elt own xs acc δ=some (acc++(xs.filter p).map f,δ)
 | [],acc,_,_=>by simp [lcL]
 | x::xs,acc,h,d=>by
  obtain ⟨δ1,δ2,c,b,e,g⟩:=h x (by simp)
  have ih:=fun acc=>oq (set:=set) (test:=test) (elt:=elt) (own:=own) (p:=p) (f:=f) (δ:=δ) xs acc fun y i=>h y (by simp [i])
  simp only [List.length_cons] at d
  cases a:p x with
  | false =>
   rw [a] at b
   simp only [lcL,c,b,e a]
   rw [ih acc (by omega),List.filter_cons_of_neg (by simp [a])]
  | true =>
   obtain ⟨δ3,j,k⟩:=g a
   rw [a] at b
   have lt:acc.length<cap:=by omega
   simp only [lcL,c,b,j,lt,decide_true,if_true,k]
   rw [ih (acc++[f x]) (by simp;omega),List.filter_cons_of_pos a]
   simp
theorem fW (xs:List D):xs.filter (fun _=>true)=xs:=by simp
theorem pL {C:Ctx} {n v:Nat} {elt:E} {k:ItK} {its:List E} {δ δ0:Dl} {xs:List D} {f:D→D} (c:C.lock.contains v=false) (hi:cH C n k its δ0=some (xs,δ)) (a:v<δ.length) (d:dh δ [v]=true) (e:xs.length≤cap)
  (he:∀ x∈xs,evV C n elt (δ.set v (some x))=some (f x,δ.set v (some x))) (hn:0<n):evE C (n+1) (.lc elt (.nm v) k its [] [v]) δ0=some (.tmp (.lst true (xs.map f)),δ):=by
 obtain ⟨w,b⟩:∃ w,δ[v]?=some w:=⟨_,List.getElem?_eq_getElem a⟩
 obtain ⟨n,rfl⟩:∃ m,n=m+1:=⟨n-1,by omega⟩
 have g:lcL (setT C.lock (.nm v)) (bR C (n+1) []) (evV C (n+1) elt) [v] xs [] (bu δ [v])=some ([]++(xs.filter fun _=>true).map f,bu δ [v]):=by
  refine oq xs [] (fun x i=>⟨δ.set v (some x),δ.set v (some x),?_,rfl,(fun h=>by cases h),fun _=>⟨δ.set v (some x),he x i,?_⟩⟩) (by simpa using e)
  ·show da C.lock v x (δ.set v none)=_
   unfold da
   rw [c,List.length_set,decide_eq_true a]
   simp
  ·show (δ.set v (some x)).set v none=δ.set v none
   rw [eF]
 refine (oB C (n+1) elt (.nm v) k its [] [v] δ0 hi d g).trans ?_
 rw [fW,List.nil_append]
 show some (A.tmp (.lst true (xs.map f)),(δ.set v none).set v (match δ[v]? with
  | some x=>x
  | none=>none))=_
 rw [eF,b]
 simp only
 rw [mD δ v w b]
theorem lV {C:Ctx} {n v:Nat} {elt c:E} {k:ItK} {its:List E} {δ δ0:Dl} {xs:List D} {p:D→Bool} {f:D→D} (e:C.lock.contains v=false) (hi:cH C (n+1) k its δ0=some (xs,δ)) (a:v<δ.length) (g:dh δ [v]=true) (i:xs.length≤cap)
  (ht:∀ x∈xs,evT C n c (δ.set v (some x))=some (p x,δ.set v (some x)))
  (he:∀ x∈xs,p x=true→evV C (n+1) elt (δ.set v (some x))=some (f x,δ.set v (some x))):evE C (n+2) (.lc elt (.nm v) k its [c] [v]) δ0=some (.tmp (.lst true ((xs.filter p).map f)),δ):=by
 obtain ⟨w,b⟩:∃ w,δ[v]?=some w:=⟨_,List.getElem?_eq_getElem a⟩
 have j:lcL (setT C.lock (.nm v)) (bR C (n+1) [c]) (evV C (n+1) elt) [v] xs [] (bu δ [v])=some ([]++(xs.filter p).map f,bu δ [v]):=by
  refine oq xs [] (fun x d=>⟨δ.set v (some x),δ.set v (some x),?_,ht x d,(fun h=>?_),fun h=>⟨δ.set v (some x),he x d h,?_⟩⟩) (by simpa using i)
  ·show da C.lock v x (δ.set v none)=_
   unfold da
   rw [e,List.length_set,decide_eq_true a]
   simp
  ·show (δ.set v (some x)).set v none=δ.set v none
   rw [eF]
  ·show (δ.set v (some x)).set v none=δ.set v none
   rw [eF]
 refine (oB C (n+1) elt (.nm v) k its [c] [v] δ0 hi g j).trans ?_
 rw [List.nil_append]
 show some (A.tmp (.lst true ((xs.filter p).map f)),(δ.set v none).set v (match δ[v]? with
  | some x=>x
  | none=>none))=_
 rw [eF,b]
 simp only
 rw [mD δ v w b]
abbrev nt (n:Nat):D:=.int n
abbrev lN (l:List Nat):List D:=l.map nt
abbrev tN (l:List Nat):D:=.tup (l.map nt)
theorem bN:∀ l:List Nat,fzs (l.map nt)=true
 | []=>rfl
 | x::l=>by simp only [List.map_cons,fzs,D.fz,bN l,Bool.and_self]
theorem aS:∀ l:List (List Nat),fzs (l.map tN)=true
 | []=>rfl
 | x::l=>by simp only [List.map_cons,fzs,D.fz,aS l,bN x,Bool.and_self]
theorem dP:∀ l:List Nat,frzs (l.map nt)=l.map nt
 | []=>rfl
 | x::l=>by simp only [List.map_cons,frzs,D.frz,dP l]
theorem eh:∀ l:List (List Nat),frzs (l.map tN)=l.map tN
 | []=>rfl
 | x::l=>by simp only [List.map_cons,frzs,D.frz,eh l,dP x]
theorem cT:∀ (n lo st:Nat),az lo st n=(List.range n).map fun k=>nt (lo+k*st)
 | 0,lo,st=>rfl
 | n+1,lo,st=>by
  have ih:=cT n (lo+st) st
  simp only [az]
  rw [show ((lo:Int)+(st:Int))=((lo+st:Nat):Int) by omega,ih,List.range_succ_eq_map]
  simp only [List.map_cons,List.map_map,Nat.zero_mul,Nat.add_zero]
  congr 1
  apply List.map_congr_left
  intro k _
  simp only [Function.comp,Nat.succ_eq_add_one,Nat.add_mul,Nat.one_mul]
  congr 1
  omega
end Ev
namespace Ev
open PySem
theorem uz (m c:Nat) (hm:0<m) (a:0<c):(m-1) / c+1=(m+c-1) / c:=by
 have:m+c-1=(m-1)+c:=by omega
 rw [this,Nat.add_div_right _ a]
def eQ (i j c:Nat):Nat:=(j-i+c-1) / c
theorem Dt {i j c:Nat} (a:0<c):Builtin.Range.rangeSize i j c=(eQ i j c:Int):=by
 unfold Builtin.Range.rangeSize eQ
 rw [if_pos (by omega)]
 by_cases h:i<j
 ·rw [if_pos (by omega),show ((j:Int)-i-1)=((j-i-1:Nat):Int) by omega]
  have:=uz (j-i) c (by omega) a
  rw [← this]
  simp
 ·rw [if_neg (by omega),show j-i=0 by omega,Nat.div_eq_of_lt (by omega)]
  rfl
theorem og {i j c:Nat} (b:0<c) (d:c<1000000) (hi:i≤1000000) (f:j≤1000000):aN [.int i,.int j,.int c]=some (az i c (eQ i j c)):=by
 have hs:=Dt (i:=i) (j:=j) b
 have a:∀ {n:Nat},n≤1000000→e9 (n:Int)=true:=fun {n} h=>by
  show Nat.ble n 1000000000=true
  rw [Nat.ble_eq]
  omega
 have e:aN [.int i,.int j,.int c]=if ((e9 i&&e9 j&&e9 c)&&decide ((c:Int)≠0)&&decide ((c:Int).natAbs<1000000))=true then some (az i c (iS i j c)) else none:=by unfold aN;rfl
 rw [e,a hi,a f,a (by omega),decide_eq_true (show ((c:Int)≠0) by omega),decide_eq_true (show ((c:Int).natAbs<1000000) by omega)]
 simp only [Bool.and_self,if_true]
 unfold iS
 rw [hs,Int.toNat_natCast]
theorem uH {i j:Nat} (hi:i≤1000000) (a:j≤1000000):aN [.int i,.int j]=some (az i 1 (j-i)):=by
 have e:aN [.int i,.int j]=if (aX i&&aX j)=true then some (az i 1 ((j:Int)-(i:Int)).toNat) else none:=by unfold aN;rfl
 rw [e,DP hi,DP a]
 simp only [Bool.and_self,if_true]
 rw [show ((j:Int)-(i:Int)).toNat=j-i by omega]
def up (lo n:Nat):List Nat:=(List.range n).map fun k=>lo+k
theorem qM (lo n:Nat):az lo 1 n=lN (up lo n):=by
 have:=cT n lo 1
 simp only [Nat.mul_one] at this
 unfold up lN
 rw [List.map_map]
 exact this
theorem aZ (n:Nat):az 0 1 n=lN (List.range n):=by
 have:=cT n 0 1
 simp only [Nat.mul_one,Nat.zero_add] at this
 exact this
theorem vx {α:Type} (em:α→D) (l:List α) (lo hi:Nat):cutD (l.map em) (some (lo:Int)) (some (hi:Int))=((l.drop lo).take (hi-lo)).map em:=by
 unfold cutD sIx
 have a:¬ ((lo:Int)<0):=by omega
 have b:¬ ((hi:Int)<0):=by omega
 simp only [if_neg a,if_neg b,List.length_map]
 rw [← List.map_drop,← List.map_take]
 congr 1
 rw [show (min (lo:Int) (l.length:Int)).toNat=min lo l.length by omega,show (min (hi:Int) (l.length:Int)).toNat=min hi l.length by omega]
 by_cases h:lo≤l.length
 ·rw [Nat.min_eq_left h]
  by_cases h':hi≤l.length
  ·rw [Nat.min_eq_left h']
  ·rw [Nat.min_eq_right (by omega),List.take_of_length_le (by simp),List.take_of_length_le (by simp;omega)]
 ·have z1:l.drop lo=[]:=List.drop_of_length_le (by omega)
  have z2:l.drop (min lo l.length)=[]:=List.drop_of_length_le (by omega)
  rw [z1,z2]
  simp
def aR (t:Nat):Fn:={ n:=2,ps:=1,io:=[],body:=[.ret (.ite (.isi (.var 0) [.list,.tuple]) (.bi .tuple1 [(.lc (.call t [(.var 1)]) (.nm 1) .val [(.var 0)] [] [1])]) (.var 0))] }
mutual
def kJ:D→D
 | .tup xs=>.tup (eE xs)
 | .lst _ xs=>.tup (eE xs)
 | .non=>.non
 | .bl b=>.bl b
 | .int i=>.int i
 | .str s=>.str s
 | .scr s=>.scr s
 | .obj _ _=>.non
 | .exc _ _ _=>.non
 | .mob _ _=>.non
 | .dct _ _ _=>.non
 | .cls _=>.non
 | .tpn _=>.non
def eE:List D→List D
 | []=>[]
 | d::ds=>kJ d::eE ds
end
theorem gQ:∀ ds:List D,eE ds=ds.map kJ
 | []=>rfl
 | d::ds=>by simp only [eE,List.map_cons,gQ ds]
mutual
def shape:Nat→D→Bool
 | 0,.tup _=>false
 | 0,.lst _ _=>false
 | n+1,.tup xs=>decide (xs.length≤cap)&&shapes n xs
 | n+1,.lst _ xs=>decide (xs.length≤cap)&&shapes n xs
 | _,.scr _=>false
 | _,.obj _ _=>false
 | _,.exc _ _ _=>false
 | _,.mob _ _=>false
 | _,.dct _ _ _=>false
 | _,.cls _=>false
 | _,.tpn _=>false
 | _,_=>true
def shapes:Nat→List D→Bool
 | _,[]=>true
 | n,d::ds=>shape n d&&shapes n ds
end
theorem jd {n:Nat}:∀ {ds:List D},shapes n ds=true→∀ d∈ds,shape n d=true
 | [],_,d,h=>by simp at h
 | x::xs,h,d,hd=>by
  simp only [shapes,Bool.and_eq_true] at h
  rcases List.mem_cons.mp hd with e | e
  ·subst e;exact h.1
  ·exact jd h.2 d e
theorem jD:∀ {ds:List D},fzs ds=true→∀ d∈ds,d.fz=true
 | [],_,d,h=>by simp at h
 | x::xs,h,d,hd=>by
  simp only [fzs,Bool.and_eq_true] at h
  rcases List.mem_cons.mp hd with e | e
  ·subst e;exact h.1
  ·exact jD h.2 d e
theorem oR:∀ {ds:List D},(∀ d∈ds,d.fz=true)→fzs ds=true
 | [],_=>rfl
 | x::xs,h=>by simp only [fzs,h x (by simp),oR (ds:=xs) fun d hd=>h d (by simp [hd]),Bool.and_self]
mutual
theorem An:∀ d:D,d.fz=true→d.frz=d
 | .non,_=>rfl
 | .bl _,_=>rfl
 | .int _,_=>rfl
 | .str _,_=>rfl
 | .scr _,_=>rfl
 | .obj cn xs,h=>by simp only [D.fz] at h;simp only [D.frz,de xs h]
 | .exc cn nms xs,h=>by simp only [D.fz] at h;simp only [D.frz,de xs h]
 | .mob _ _,h=>by simp [D.fz] at h
 | .cls _,_=>rfl
 | .tpn xs,h=>by simp only [D.fz] at h;simp only [D.frz,de xs h]
 | .dct o ks xs,h=>by
  simp only [D.fz,Bool.and_eq_true,Bool.not_eq_true'] at h
  obtain ⟨a,b⟩:=h
  subst a
  simp only [D.frz,de xs b]
 | .tup xs,h=>by simp only [D.fz] at h;simp only [D.frz,de xs h]
 | .lst o xs,h=>by
  simp only [D.fz,Bool.and_eq_true,Bool.not_eq_true'] at h
  obtain ⟨a,b⟩:=h
  subst a
  simp only [D.frz,de xs b]
theorem de:∀ ds:List D,fzs ds=true→frzs ds=ds
 | [],_=>rfl
 | d::ds,h=>by
  simp only [fzs,Bool.and_eq_true] at h
  simp only [frzs,An d h.1,de ds h.2]
end
mutual
theorem xI:∀ d:D,(kJ d).fz=true
 | .tup xs=>by simp only [kJ,D.fz,fQ xs]
 | .lst _ xs=>by simp only [kJ,D.fz,fQ xs]
 | .non=>rfl
 | .bl _=>rfl
 | .int _=>rfl
 | .str _=>rfl
 | .scr _=>rfl
 | .obj _ _=>rfl
 | .exc _ _ _=>rfl
 | .mob _ _=>rfl
 | .dct _ _ _=>rfl
 | .cls _=>rfl
 | .tpn _=>rfl
theorem fQ:∀ ds:List D,fzs (eE ds)=true
 | []=>rfl
 | d::ds=>by simp only [eE,fzs,xI d,fQ ds,Bool.and_self]
end
theorem bP (C:Ctx) (n:Nat) (e:E) (ss:List S) (δ:Dl) {d:D} {δ1:Dl} (h:evE C n e δ=some (.tmp d,δ1)):aT C (n+2) (.ret e::ss) δ=some (.rt d δ1):=by
 simp only [aT,evS,h]
theorem pH {call:Nat→List D→Option (D × List D)} {io:Nat→List Nat} {t m:Nat} (c:io t=[]) (ih:∀ d:D,d.fz=true→shape m d=true→call t [d]=some (kJ d,[])) {d:D} (hd:d.fz=true) (hs:shape (m+1) d=true) :
  cU ⟨call,io,[]⟩ (aR t) [d]=some (kJ d,[]):=by
 have no:isObj d=false:=by cases d<;>first | rfl | simp [shape] at hs
 have seq:∀ xs:List D,fzs xs=true→shapes m xs=true→xs.length≤cap→(∀ n,cH ⟨call,io,[]⟩ (n+3) .val [.var 0] [some d,none]=some (xs,[some d,none]))→hG d .list=true∨hG d .tuple=true →
   cU ⟨call,io,[]⟩ (aR t) [d]=some (.tup (eE xs),[]):=fun xs g j l hi ht=>by
  have he:∀ x∈xs,evV ⟨call,io,[]⟩ 94 (.call t [(.var 1)]) ([some d,none].set 1 (some x))=some (kJ x,[some d,none].set 1 (some x)):=fun x e=>by
   have:=ih x (jD g x e) (jd j x e)
   have f:=jD g x e
   simp [f,c,this]
  have p:=pL (C:=⟨call,io,[]⟩) (n:=94) (v:=1) (elt:=.call t [(.var 1)]) (k:=.val) (its:=[.var 0]) (δ:=[some d,none]) rfl (hi 91) (by simp) (by simp [dh,slot]) l he (by omega)
  have f2:fzs (xs.map kJ)=true:=by rw [← gQ];exact fQ xs
  have a:([Ty.list,Ty.tuple].any (hG d))=true:=by rcases ht with h | h<;>simp [h]
  have e0:evT ⟨call,io,[]⟩ 97 (.isi (.var 0) [.list,.tuple]) [some d,none]=some (true,[some d,none]):=by
   simp [evT,hd,no] at a ⊢
   exact a
  have q:evE ⟨call,io,[]⟩ 98 (.ite (.isi (.var 0) [.list,.tuple]) (.bi .tuple1 [(.lc (.call t [(.var 1)]) (.nm 1) .val [(.var 0)] [] [1])]) (.var 0)) [some d,none]=some (.tmp (.tup (eE xs)),[some d,none]):=by
   have r:evE ⟨call,io,[]⟩ 97 (.bi .tuple1 [(.lc (.call t [(.var 1)]) (.nm 1) .val [(.var 0)] [] [1])]) [some d,none]=some (.tmp (.tup (eE xs)),[some d,none]):=by
    rw [mH,gU,p]
    simp [f2,gQ]
   rw [vV,e0]
   exact r
  unfold cU aR
  simp only [List.length_cons,List.length_nil,if_true]
  show (match aT ⟨call,io,[]⟩ 100 _ [some d,none] with
    | some (.rt d δ)=>(aF δ [] 0 1).map fun o=>(d,o)
    | some (.nx δ)=>(aF δ [] 0 1).map fun o=>(.non,o)
    | _=>none)=_
  rw [bP _ 98 _ _ _ q]
  simp [aF]
 have atom:hG d .list=false→hG d .tuple=false→kJ d=d→cU ⟨call,io,[]⟩ (aR t) [d]=some (kJ d,[]):=fun u w y=>by
  rw [y]
  simp [cU,aR,br,evT,hd,u,w,no]
 cases d with
 | tup xs =>
  simp only [D.fz] at hd
  simp only [shape,Bool.and_eq_true,decide_eq_true_eq] at hs
  simp only [kJ]
  exact seq xs hd hs.2 hs.1 (fun n=>by simp [hd,de xs hd]) (.inr rfl)
 | lst o xs =>
  simp only [D.fz,Bool.and_eq_true,Bool.not_eq_true'] at hd
  obtain ⟨rfl,hd⟩:=hd
  simp only [shape,Bool.and_eq_true,decide_eq_true_eq] at hs
  simp only [kJ]
  exact seq xs hd hs.2 hs.1 (fun n=>by simp [hd,de xs hd]) (.inl rfl)
 | scr ns=>simp [shape] at hs
 | obj cn xs=>simp [shape] at hs
 | exc cn nms xs=>simp [shape] at hs
 | mob cn xs=>simp [shape] at hs
 | dct o ks xs=>simp [shape] at hs
 | cls cn=>simp [shape] at hs
 | tpn xs=>simp [shape] at hs
 | non=>exact atom rfl rfl rfl
 | bl b=>exact atom rfl rfl rfl
 | int i=>exact atom rfl rfl rfl
 | str s=>exact atom rfl rfl rfl
end Ev
namespace Ev
open PySem
abbrev cf:Str:=Str.ofString "short"
abbrev yh:Str:=Str.ofString "drop"
abbrev jh:Str:=Str.ofString "turns"
abbrev cj:Str:=Str.ofString "items"
abbrev mU:Str:=Str.ofString "parts"
def dC (b:Nat) (l:List Nat):List (List Nat):=(List.range (eQ 0 l.length b)).map fun k=>(l.drop (k*b)).take b
def s9 (b:Nat) (sh:Bool) (l:List Nat):List (List Nat):=(dC b l).filter fun own=>own.length==b||sh
def kq:Fn:={ n:=6,ps:=3,io:=[],body:=[.asg (.nm 3) (.lc (.bi .tuple1 [(.slice (.var 0) (some (.var 4)) (some (.bin .add (.var 4) (.var 1))))]) (.nm 4) .range [(.int 0),(.bi .len [(.var 0)]),(.var 1)] [] [4]),
  .ret (.lc (.var 5) (.nm 5) .val [(.var 3)] [(.bor [(.cmp .eq (.bi .len [(.var 5)]) (.var 1)),(.cmp .eq (.var 2) (.str (Str.ofString "short")))])] [5])] }
theorem xG {n b:Nat} (a:0<b):eQ 0 n b≤n:=by
 unfold eQ
 rw [Nat.sub_zero]
 have:(n+b-1) / b<n+1:=by
  rw [Nat.div_lt_iff_lt_mul a,Nat.add_mul,Nat.one_mul]
  have:n*1≤n*b:=Nat.mul_le_mul_left n a
  omega
 omega
theorem aB (C:Ctx) (n:Nat) (s:S) (ss:List S) (δ:Dl) {δ1:Dl} (h:evS C n s δ=some (.nx δ1)):aT C (n+1) (s::ss) δ=aT C n ss δ1:=by
 simp only [aT,h]
theorem x5 (C:Ctx) (n i:Nat) (e:E) (δ:Dl) {d:D} {δ1:Dl} (h:evE C n e δ=some (.tmp d,δ1)) (hi:i<δ1.length) (a:C.lock.contains i=false):evS C (n+2) (.asg (.nm i) e) δ=some (.nx (δ1.set i (some d))):=by
 simp only [evS,evV,h,toV,setT,da,a,decide_eq_true hi,Bool.not_false,Bool.and_self,if_true]
theorem oN:PyData.strOk cf=true:=by decide +kernel
theorem yF:PyData.strOk yh=true:=by decide +kernel
theorem nc:PyData.strOk jh=true:=by decide +kernel
theorem oS:PyData.strOk cj=true:=by decide +kernel
theorem uc:PyData.strOk mU=true:=by decide +kernel
theorem jV (a b:Nat):((a:Int)==(b:Int))=(a==b):=by
 rw [Bool.eq_iff_iff,beq_iff_eq,beq_iff_eq]
 omega
theorem xm {call:Nat→List D→Option (D × List D)} {io:Nat→List Nat} {b:Nat} {e:Str} {o:Bool} {l:List Nat} (q:0<b) (m:b<1000000) (he:PyData.strOk e=true) (B:l.length≤1000) :
  cU ⟨call,io,[]⟩ kq [.lst o (lN l),.int b,.str e]=some (.lst true ((s9 b (e==cf) l).map tN),[]):=by
 have fz:=bN l
 have c1:=xG (n:=l.length) q
 have s:evE ⟨call,io,[]⟩ 97 (.lc (.bi .tuple1 [(.slice (.var 0) (some (.var 4)) (some (.bin .add (.var 4) (.var 1))))]) (.nm 4) .range [(.int 0),(.bi .len [(.var 0)]),(.var 1)] [] [4]) [some (.lst o (lN l)),some (.int b),some (.str e),none,none,none] =
   some (.tmp (.lst true ((dC b l).map tN)),[some (.lst o (lN l)),some (.int b),some (.str e),none,none,none]):=by
  have r1:=og (i:=0) (j:=l.length) (c:=b) q m (by omega) (by omega)
  have r:=cT (eQ 0 l.length b) 0 b
  simp only [Int.natCast_zero] at r1 r
  have hi:cH ⟨call,io,[]⟩ 96 .range [(.int 0),(.bi .len [(.var 0)]),(.var 1)] [some (.lst o (lN l)),some (.int b),some (.str e),none,none,none]=some ((List.range (eQ 0 l.length b)).map (fun k=>nt (0+k*b)),[some (.lst o (lN l)),some (.int b),some (.str e),none,none,none]):=by
   cases o<;>simp [fz,r1,r]
  refine (pL (C:=⟨call,io,[]⟩) (n:=96) (v:=4) (f:=fun d=>match d with
   | .int z=>tN ((l.drop z.toNat).take b)
   | _=>.non) rfl hi (by simp) (by simp [dh,slot]) (by simp [cap];omega) (fun x a=>?_) (by omega)).trans ?_
  ·obtain ⟨k,_,rfl⟩:=List.mem_map.mp a
   have cd:=vx nt l (k*b) (k*b+b)
   rw [show k*b+b-k*b=b by omega] at cd
   have e0:(((k*b:Nat):Int)+(b:Int))=((k*b+b:Nat):Int):=by omega
   have f2:fzs (((l.map nt).drop (k*b)).take b)=true:=by rw [← List.map_drop,← List.map_take];exact bN _
   have t:((0+k*b:Nat):Int)=((k*b:Nat):Int):=by simp
   simp only [t]
   generalize k*b=z at *
   generalize z+b=z2 at *
   cases o<;>simp [fz,e0,cd,f2]
  ·have u:∀ k:Nat,((k:Int)*(b:Int)).toNat=k*b:=fun k=>by rw [← Int.natCast_mul,Int.toNat_natCast]
   simp [List.map_map,dC,Function.comp_def,u]
 have w:evE ⟨call,io,[]⟩ 97 (.lc (.var 5) (.nm 5) .val [(.var 3)] [(.bor [(.cmp .eq (.bi .len [(.var 5)]) (.var 1)),(.cmp .eq (.var 2) (.str (Str.ofString "short")))])] [5]) [some (.lst o (lN l)),some (.int b),some (.str e),some (.lst true ((dC b l).map tN)),none,none] =
   some (.tmp (.lst true ((s9 b (e==cf) l).map tN)),[some (.lst o (lN l)),some (.int b),some (.str e),some (.lst false ((dC b l).map tN)),none,none]):=by
  have F:=aS (dC b l)
  have f4:=eh (dC b l)
  have hi:cH ⟨call,io,[]⟩ 96 .val [(.var 3)] [some (.lst o (lN l)),some (.int b),some (.str e),some (.lst true ((dC b l).map tN)),none,none]=some ((dC b l).map tN,[some (.lst o (lN l)),some (.int b),some (.str e),some (.lst false ((dC b l).map tN)),none,none]):=by
   simp [f4]
  refine (lV (C:=⟨call,io,[]⟩) (n:=95) (v:=5) (p:=fun d=>match d with
   | .tup xs=>xs.length==b||e==cf
   | _=>false) (f:=fun d=>d) rfl hi (by simp) (by simp [dh,slot]) (by simp [cap,dC];omega) (fun x a=>?_) (fun x a G=>?_)).trans ?_
  ·obtain ⟨y,_,rfl⟩:=List.mem_map.mp a
   have g:=bN y
   cases h:y.length==b
   ·simp [g,plain,jV,h,he,oN]
   ·simp [g,plain,jV,h]
  ·obtain ⟨y,_,rfl⟩:=List.mem_map.mp a
   have g:=bN y
   simp [g]
  ·simp only [List.filter_map,s9]
   simp [Function.comp_def]
 have s1:=x5 ⟨call,io,[]⟩ 97 3 _ _ s (by simp) rfl
 simp only [List.set_cons_succ,List.set_cons_zero] at s1
 unfold cU
 simp only [kq,List.length_cons,List.length_nil,if_true]
 show (match aT ⟨call,io,[]⟩ 100 _ [some (.lst o (lN l)),some (.int b),some (.str e),none,none,none] with
    | some (.rt d δ)=>(aF δ [] 0 3).map fun o=>(d,o)
    | some (.nx δ)=>(aF δ [] 0 3).map fun o=>(.non,o)
    | _=>none)=_
 rw [aB _ 99 _ _ _ s1,bP _ 97 _ _ _ w]
 simp
end Ev
namespace Ev
open PySem
theorem bZ {C:Ctx} {f:Fn} {ds:List D} {d:D} {δ0 δ:Dl} {outs:List D} (a:ds.length=f.ps) (h0:br f ds=δ0) (h:aT C 100 f.body δ0=some (.rt d δ)) (b:aF δ f.io 0 f.ps=some outs):cU C f ds=some (d,outs):=by
 unfold cU
 rw [if_pos a,h0,h]
 simp only [b,Option.map_some]
theorem rQ {m:Me} {es:Dl→Option (List A × Dl)} {s:Nat} {δ1 δ2 δ3:Dl} {d0 d r d':D} {as:List A} {ds:List D} (h0:slot δ1 s=some d0) (a:o7 (some d0)=true) (b:es δ1=some (as,δ2)) (c:bC δ2 as=some (ds,δ3)) (e:slot δ3 s=some d) (f:lR m d ds=some (r,d')) :
  pb m es (some (.bor s [],δ1))=some (.tmp r,δ3.set s (some d')):=by
 simp [pb,h0,a,b,c,e,f]
def stride (w n W:Nat):List Nat:=(List.range (eQ w n W)).map fun k=>w+k*W
def part (w n W:Nat):List Nat:=up (w*n / W) ((w+1)*n / W-w*n / W)
def bU (it:Bool) (W n:Nat):List (List Nat):=(List.range W).map fun w=>if it then stride w n W else part w n W
def bX:Fn:={ n:=4,ps:=3,io:=[],body:=[.ifs (.cmp .eq (.var 0) (.str (Str.ofString "items"))) [.ret (.lc (.bi .lrange [(.var 3),(.var 2),(.var 1)]) (.nm 3) .range [(.var 1)] [] [3])] [],
  .ret (.lc (.bi .lrange [(.bin .fdiv (.bin .mul (.var 3) (.var 2)) (.var 1)),(.bin .fdiv (.bin .mul (.bin .add (.var 3) (.int 1)) (.var 2)) (.var 1))]) (.nm 3) .range [(.var 1)] [] [3])] }
theorem rA {x y:Str} (a:PyData.strOk x=true) (b:PyData.strOk y=true) (n:Nat) (C:Ctx) (i:Nat) (δ:Dl) (h:slot δ i=some (.str x)):evT C (n+5) (.cmp .eq (.var i) (.str y)) δ=some (x==y,δ):=by
 simp [h,plain,a,b]
theorem cV {t:Nat} (h:t≤1000000):small64 t=true:=sm (by omega) (by omega)
abbrev wq (l:List Nat):D:=.lst true (l.map nt)
theorem o6 {call:Nat→List D→Option (D × List D)} {io:Nat→List Nat} {way:Str} {W n:Nat} (h0:0<W) (g:W≤1000) (h:n≤1000) (m:Nat) :
  evE ⟨call,io,[]⟩ (m+30) (.lc (.bi .lrange [(.var 3),(.var 2),(.var 1)]) (.nm 3) .range [(.var 1)] [] [3]) [some (.str way),some (.int W),some (.int n),none]=some (.tmp (.lst true ((List.range W).map fun w=>wq (stride w n W))),[some (.str way),some (.int W),some (.int n),none]):=by
 have hi:cH ⟨call,io,[]⟩ (m+29) .range [(.var 1)] [some (.str way),some (.int W),some (.int n),none]=some ((List.range W).map nt,[some (.str way),some (.int W),some (.int n),none]):=by
  simp [bH (t:=W) (by omega),aZ]
 refine (pL (C:=⟨call,io,[]⟩) (n:=m+29) (v:=3) (f:=fun d=>match d with
   | .int z=>wq (stride z.toNat n W)
   | _=>.non) rfl hi (by simp) (by simp [dh]) (by simp [cap];omega) (fun x a=>?_) (by omega)).trans ?_
 ·obtain ⟨w,hw,rfl⟩:=List.mem_map.mp a
  have hw:=List.mem_range.mp hw
  have r1:=og (i:=w) (j:=n) (c:=W) h0 (by omega) (by omega) (by omega)
  have b:=cT (eQ w n W) w W
  have e:eQ w n W≤1000000:=by
   unfold eQ
   have:=Nat.div_le_self (n-w+W-1) W
   omega
  simp [r1,b,stride,cap,e]
 ·simp [List.map_map,Function.comp_def]
theorem gM {a b c:Nat} (d:0<c) (h:a≤c*b):a / c≤b:=by
 rw [Nat.div_le_iff_le_mul_add_pred d]
 omega
theorem vK {call:Nat→List D→Option (D × List D)} {io:Nat→List Nat} {way:Str} {W n:Nat} (h0:0<W) (h:W≤1000) (k:n≤1000) (m:Nat) :
  evE ⟨call,io,[]⟩ (m+30) (.lc (.bi .lrange [(.bin .fdiv (.bin .mul (.var 3) (.var 2)) (.var 1)),(.bin .fdiv (.bin .mul (.bin .add (.var 3) (.int 1)) (.var 2)) (.var 1))]) (.nm 3) .range [(.var 1)] [] [3]) [some (.str way),some (.int W),some (.int n),none] =
   some (.tmp (.lst true ((List.range W).map fun w=>wq (part w n W))),[some (.str way),some (.int W),some (.int n),none]):=by
 have hi:cH ⟨call,io,[]⟩ (m+29) .range [(.var 1)] [some (.str way),some (.int W),some (.int n),none]=some ((List.range W).map nt,[some (.str way),some (.int W),some (.int n),none]):=by
  simp [bH (t:=W) (by omega),aZ]
 refine (pL (C:=⟨call,io,[]⟩) (n:=m+29) (v:=3) (f:=fun d=>match d with
   | .int z=>wq (part z.toNat n W)
   | _=>.non) rfl hi (by simp) (by simp [dh]) (by simp [cap];omega) (fun x a=>?_) (by omega)).trans ?_
 ·obtain ⟨w,hw,rfl⟩:=List.mem_map.mp a
  have hw:=List.mem_range.mp hw
  have l:w*n / W≤n:=gM h0 (Nat.mul_le_mul_right n (by omega))
  have b:(w+1)*n / W≤n:=gM h0 (Nat.mul_le_mul_right n (by omega))
  have r1:=uH (i:=w*n / W) (j:=(w+1)*n / W) (by omega) (by omega)
  have c:((w:Int)*(n:Int) / (W:Int))=((w*n / W:Nat):Int):=by simp
  have e:(((w:Int)+1)*(n:Int) / (W:Int))=(((w+1)*n / W:Nat):Int):=by simp
  have s1:=cV (t:=n) (by omega)
  have p1:(W:Int)<1073741824:=by omega
  have p3:(w+1)*n / W-w*n / W≤1000000:=Nat.le_trans (Nat.sub_le _ _) (Nat.le_trans b (by omega))
  have g:=qM (w*n / W) ((w+1)*n / W-w*n / W)
  simp only [AI,mH,gU,xb,uK,vo,uU,List.set_cons_succ,List.set_cons_zero,yZ,x6,yN,if_true,lS,mM,ph,sj,vU,ve,sP,s1,Bool.or_true,h0,p1,decide_true,Bool.and_self,c,e,Int.natCast_pos,o8,r1,g,List.length_map,up,List.length_range,p3,cap,t8]
  simp [part,up]
 ·simp [List.map_map,Function.comp_def]
theorem n5 (C:Ctx) (n:Nat) (c:E) (a b:List S) (δ:Dl) {δ1:Dl} (h:evT C n c δ=some (true,δ1)):evS C (n+1) (.ifs c a b) δ=aT C n a δ1:=by simp only [evS,h]
theorem jr (C:Ctx) (n:Nat) (c:E) (a b:List S) (δ:Dl) {δ1:Dl} (h:evT C n c δ=some (false,δ1)):evS C (n+1) (.ifs c a b) δ=aT C n b δ1:=by simp only [evS,h]
theorem fP (C:Ctx) (n:Nat) (δ:Dl):aT C (n+1) [] δ=some (.nx δ):=by simp only [aT]
theorem eJ (C:Ctx) (n:Nat) (s:S) (ss:List S) (δ:Dl) {d:D} {δ1:Dl} (h:evS C n s δ=some (.rt d δ1)):aT C (n+1) (s::ss) δ=some (.rt d δ1):=by
 simp only [aT,h]
theorem pk {call:Nat→List D→Option (D × List D)} {io:Nat→List Nat} {way:Str} {W n:Nat} (hw:PyData.strOk way=true) (h0:0<W) (a:W≤1000) (b:n≤1000) :
  cU ⟨call,io,[]⟩ bX [.str way,.int W,.int n]=some (.lst true ((bU (way==cj) W n).map wq),[]):=by
 have t:=rA hw oS 94 ⟨call,io,[]⟩ 0 [some (.str way),some (.int W),some (.int n),none] rfl
 have d:=vK (call:=call) (io:=io) (way:=way) h0 a b 68
 unfold bU
 cases c:way==cj with
 | true =>
  rw [c] at t
  refine bZ (f:=bX) rfl rfl (δ:=[some (.str way),some (.int W),some (.int n),none]) ?_ rfl
  refine eJ _ 99 _ _ _ ((n5 _ 98 _ _ _ _ t).trans ?_)
  have e:=o6 (call:=call) (io:=io) (way:=way) h0 a b 66
  rw [bP _ 96 _ _ _ e]
  simp [Function.comp_def]
 | false =>
  rw [c] at t
  refine bZ (f:=bX) rfl rfl (δ:=[some (.str way),some (.int W),some (.int n),none]) ?_ rfl
  refine (aB _ 99 _ _ _ ((jr _ 98 _ _ _ _ t).trans (fP _ 97 _))).trans ?_
  rw [bP _ 97 _ _ _ d]
  simp [Function.comp_def]
end Ev
namespace Ev
open PySem
theorem dH {set:D→Dl→Option Dl} {body:Dl→Option Fl} {α:Type} (I:List α→Dl→Prop) (em:α→D) (all:List α)
  (h:∀ pre x post δ,all=pre++x::post→I pre δ→∃ δ1 δ2,set (em x) δ=some δ1∧body δ1=some (.nx δ2)∧I (pre++[x]) δ2) :
  ∀ (xs pre:List α) (δ:Dl),all=pre++xs→I pre δ→∃ δ',forL set body (xs.map em) δ=some (.nx δ')∧I all δ'
 | [],pre,δ,e,i=>⟨δ,rfl,by rw [e,List.append_nil];exact i⟩
 | x::xs,pre,δ,e,i=>by
  obtain ⟨δ1,δ2,a,b,c⟩:=h pre x xs δ e i
  obtain ⟨δ',d,f⟩:=dH (set:=set) (body:=body) I em all h xs (pre++[x]) δ2 (by rw [e];simp) c
  refine ⟨δ',?_,f⟩
  simp only [List.map_cons,forL,a,b]
  exact d
def bS (rows:List (List (List Nat))) (t:Nat):List (List Nat):=rows.filterMap fun r=>r[t]?
def fK (way:Str) (W b:Nat) (sh:Bool) (n:Nat):List (List Nat) :=
 if way==jh then s9 b sh (List.range n) else (List.range n).flatMap (bS ((bU (way==cj) W n).map (s9 b sh)))
theorem iY (rows:List (List (List Nat))) (t:Nat):(bS rows t).length≤rows.length:=by
 unfold bS
 exact List.length_filterMap_le ..
theorem iH (rows:List (List (List Nat))):∀ l:List Nat,(l.flatMap (bS rows)).length≤l.length*rows.length
 | []=>by simp
 | t::l=>by
  have:=iY rows t
  have:=iH rows l
  rw [List.flatMap_cons,List.length_append,List.length_cons,Nat.add_mul,Nat.one_mul]
  omega
abbrev eY (o:Bool) (r:List (List Nat)):D:=.lst o (r.map tN)
theorem jZ (o:Bool):∀ rows:List (List (List Nat)),frzs (rows.map (eY o))=rows.map (eY false)
 | []=>rfl
 | r::rows=>by simp only [List.map_cons,frzs,D.frz,jZ o rows,eh]
theorem qo:∀ rows:List (List (List Nat)),fzs (rows.map (eY false))=true
 | []=>rfl
 | r::rows=>by simp only [List.map_cons,fzs,D.fz,qo rows,aS];rfl
theorem om (t:Nat):∀ rows:List (List (List Nat)),(((rows.map (eY false)).filter fun d=>match d with
   | .lst _ xs=>decide (t<xs.length)
   | _=>false).map fun d=>match d with
   | .lst _ xs=>xs.getD t .non
   | _=>.non)=(bS rows t).map tN
 | []=>rfl
 | r::rows=>by
  have ih:=om t rows
  simp only [bS] at ih ⊢
  by_cases h:t<r.length
  ·have e:r[t]?=some r[t]:=List.getElem?_eq_getElem h
   simp only [List.map_cons,List.filter_cons,List.length_map,h,decide_true,if_true,List.filterMap_cons,e,ih]
   simp [h]
  ·have e:r[t]?=none:=List.getElem?_eq_none (by omega)
   simp only [List.map_cons,List.filter_cons,List.length_map,h,decide_false,List.filterMap_cons,e,Bool.false_eq_true,if_false]
   exact ih
theorem sI {call:Nat→List D→Option (D × List D)} {io:Nat→List Nat} {a0 a3 a4 a5 a6 a9:Option D} {o p:Bool} {n t:Nat} {rows:List (List (List Nat))} {acc:List (List Nat)} (u:rows.length≤1000) (w:acc.length+rows.length≤cap) (m:Nat) :
  ∃ c,aT ⟨call,io,[]⟩ (m+40) [.expr (.meth .extend (.var 8) [(.lc (.sub (.var 10) (.var 2)) (.nm 10) .val [(.var 7)] [(.cmp .lt (.var 2) (.bi .len [(.var 10)]))] [10])])] [a0,some (.int n),some (nt t),a3,a4,a5,a6,some (.lst p (rows.map (eY p))),some (.lst true (acc.map tN)),a9,none] =
   some (.nx [a0,some (.int n),some (nt t),a3,a4,a5,a6,some (.lst c (rows.map (eY c))),some (.lst true ((acc++bS rows t).map tN)),a9,none]):=by
 refine ⟨false,?_⟩
 have f1:=jZ p rows
 have f2:=qo rows
 have e:=jZ false rows
 have g1:=aS acc
 have hi:cH ⟨call,io,[]⟩ (m+35) .val [(.var 7)] [a0,some (.int n),some (nt t),a3,a4,a5,a6,some (.lst p (rows.map (eY p))),some (.lst true (acc.map tN)),a9,none]=some (rows.map (eY false),[a0,some (.int n),some (nt t),a3,a4,a5,a6,some (.lst false (rows.map (eY false))),some (.lst true (acc.map tN)),a9,none]):=by
  cases p<;>simp [f1,f2,e]
 have g:evE ⟨call,io,[]⟩ (m+36) (.lc (.sub (.var 10) (.var 2)) (.nm 10) .val [(.var 7)] [(.cmp .lt (.var 2) (.bi .len [(.var 10)]))] [10]) [a0,some (.int n),some (nt t),a3,a4,a5,a6,some (.lst p (rows.map (eY p))),some (.lst true (acc.map tN)),a9,none] =
   some (.tmp (.lst true ((bS rows t).map tN)),[a0,some (.int n),some (nt t),a3,a4,a5,a6,some (.lst false (rows.map (eY false))),some (.lst true (acc.map tN)),a9,none]):=by
  refine (lV (C:=⟨call,io,[]⟩) (n:=m+34) (v:=10) (p:=fun d=>match d with
   | .lst _ xs=>decide (t<xs.length)
   | _=>false) (f:=fun d=>match d with
   | .lst _ xs=>xs.getD t .non
   | _=>.non) rfl hi (by simp) (by simp [dh]) (by simp [cap];omega) (fun x a=>?_) (fun x a i=>?_)).trans ?_
  ·obtain ⟨y,_,rfl⟩:=List.mem_map.mp a
   have b:=aS y
   simp [b]
  ·obtain ⟨y,_,rfl⟩:=List.mem_map.mp a
   have b:=aS y
   have lt:t<y.length:=by simpa using i
   have j:ixN y.length t=some t:=by
    unfold ixN
    rw [if_pos (by omega),if_pos (by omega)]
    simp
   have k:=bN y[t]
   simp [b,j,lt,k]
  ·rw [om]
 have g2:=aS (bS rows t)
 have l2:=iY rows t
 have l3:acc.length+(bS rows t).length≤cap:=by omega
 have l:evE ⟨call,io,[]⟩ (m+38) (.meth .extend (.var 8) [(.lc (.sub (.var 10) (.var 2)) (.nm 10) .val [(.var 7)] [(.cmp .lt (.var 2) (.bi .len [(.var 10)]))] [10])]) [a0,some (.int n),some (nt t),a3,a4,a5,a6,some (.lst p (rows.map (eY p))),some (.lst true (acc.map tN)),a9,none] =
   some (.tmp .non,[a0,some (.int n),some (nt t),a3,a4,a5,a6,some (.lst false (rows.map (eY false))),some (.lst true ((acc++bS rows t).map tN)),a9,none]):=by
  rw [mL]
  have q:evE ⟨call,io,[]⟩ (m+37) (.var 8) [a0,some (.int n),some (nt t),a3,a4,a5,a6,some (.lst p (rows.map (eY p))),some (.lst true (acc.map tN)),a9,none]=some (.bor 8 [],[a0,some (.int n),some (nt t),a3,a4,a5,a6,some (.lst p (rows.map (eY p))),some (.lst true (acc.map tN)),a9,none]):=by
   simp
  rw [q]
  have r:aL ⟨call,io,[]⟩ (m+37) [(.lc (.sub (.var 10) (.var 2)) (.nm 10) .val [(.var 7)] [(.cmp .lt (.var 2) (.bi .len [(.var 10)]))] [10])] [a0,some (.int n),some (nt t),a3,a4,a5,a6,some (.lst p (rows.map (eY p))),some (.lst true (acc.map tN)),a9,none] =
    some ([.tmp (.lst true ((bS rows t).map tN))],[a0,some (.int n),some (nt t),a3,a4,a5,a6,some (.lst false (rows.map (eY false))),some (.lst true (acc.map tN)),a9,none]):=by
   rw [gU,g]
   simp
  exact rQ (s:=8) rfl rfl r rfl rfl (by simp [lR,g2,l3])
 rw [aB (C:=⟨call,io,[]⟩) (n:=m+39) (h:=by rw [rO,l]),fP]
theorem vF (C:Ctx) (n i:Nat) (e:E) (δ:Dl) {d:D} {δ1:Dl} (h:evE C n e δ=some (.bor i [],δ1)) (hs:slot δ1 i=some d) (a:C.lock.contains i=false):evS C (n+1) (.ret e) δ=some (.rt d (δ1.set i none)):=by
 simp only [evS,h,hs,a,if_false,Bool.false_eq_true]
theorem uS {call:Nat→List D→Option (D × List D)} {io:Nat→List Nat} {ic a:Nat} (i:io ic=[]) (j:io a=[]) {d:D} {way e:Str} {W b n:Nat} {a2 a7 a8:Option D} (m:Nat) (t:W≤1000)
  (c:∀ (o:Bool) (l:List Nat),l.length≤1000→call ic [.lst o (l.map nt),.int b,.str e]=some (.lst true ((s9 b (e==cf) l).map tN),[])) (k:call a [.str way,.int W,.int n]=some (.lst true ((bU (way==cj) W n).map wq),[]))
  (g:∀ l∈bU (way==cj) W n,l.length≤1000) :
  evE ⟨call,io,[]⟩ (m+40) (.lc (.call ic [(.var 9),(.var 5),(.var 6)]) (.nm 9) .val [(.call a [(.var 3),(.var 4),(.var 1)])] [] [9]) [some d,some (.int n),a2,some (.str way),some (.int W),some (.int b),some (.str e),a7,a8,none,none] =
   some (.tmp (.lst true (((bU (way==cj) W n).map (s9 b (e==cf))).map (eY true))),[some d,some (.int n),a2,some (.str way),some (.int W),some (.int b),some (.str e),a7,a8,none,none]):=by
 have f1:∀ l:List (List Nat),frzs (l.map wq)=l.map fun r=>.lst false (r.map nt):=fun l=>by
  induction l with
  | nil=>rfl
  | cons x l ih=>simp only [List.map_cons,frzs,D.frz,ih,dP]
 have hi:cH ⟨call,io,[]⟩ (m+39) .val [(.call a [(.var 3),(.var 4),(.var 1)])] [some d,some (.int n),a2,some (.str way),some (.int W),some (.int b),some (.str e),a7,a8,none,none] =
   some ((bU (way==cj) W n).map fun r=>.lst false (r.map nt),[some d,some (.int n),a2,some (.str way),some (.int W),some (.int b),some (.str e),a7,a8,none,none]):=by
  simp [j,k,f1]
 refine (pL (C:=⟨call,io,[]⟩) (n:=m+39) (v:=9) (f:=fun x=>match call ic [x,.int b,.str e] with
  | some (y,_)=>y
  | none=>.non) rfl hi (by simp) (by simp [dh]) (by simp [cap,bU];omega) (fun x q=>?_) (by omega)).trans ?_
 ·obtain ⟨l,p,rfl⟩:=List.mem_map.mp q
  have h:=c false l (g l p)
  have f2:=bN l
  simp [f2,i,h]
 ·have:∀ L:List (List Nat),(∀ l∈L,l.length≤1000)→(L.map fun r=>D.lst false (r.map nt)).map (fun x=>match call ic [x,.int b,.str e] with
    | some (y,_)=>y
    | none=>.non)=(L.map (s9 b (e==cf))).map (eY true):=fun L s=>by
   rw [List.map_map,List.map_map]
   apply List.map_congr_left
   intro l p
   have h:=c false l (s l p)
   simp only [Function.comp,h]
  rw [this _ g]
def bJ (it ic ish:Nat):Fn:={ n:=11,ps:=2,io:=[],body:=[.asg (.tp [3,4,5,6]) (.call it [(.var 0)]),
  .ifs (.cmp .eq (.var 3) (.str (Str.ofString "turns"))) [.ret (.call ic [(.bi .lrange [(.var 1)]),(.var 5),(.var 6)])] [],
  .par [7,8] [(.lc (.call ic [(.var 9),(.var 5),(.var 6)]) (.nm 9) .val [(.call ish [(.var 3),(.var 4),(.var 1)])] [] [9]),(.lst [])],
  .for_ (.nm 2) .range [(.var 1)] [.expr (.meth .extend (.var 8) [(.lc (.sub (.var 10) (.var 2)) (.nm 10) .val [(.var 7)] [(.cmp .lt (.var 2) (.bi .len [(.var 10)]))] [10])])],
  .ret (.var 8)] }
theorem pJ {it:Bool} {W n:Nat} (h0:0<W) (a:n≤1000):∀ l∈bU it W n,l.length≤1000:=by
 intro l b
 obtain ⟨w,hw,rfl⟩:=List.mem_map.mp b
 have hw:=List.mem_range.mp hw
 cases it with
 | true =>
  have:eQ w n W≤1000:=by
   unfold eQ
   have:(n-w+W-1) / W<n+1:=by
    rw [Nat.div_lt_iff_lt_mul h0,Nat.add_mul,Nat.one_mul]
    have:n*1≤n*W:=Nat.mul_le_mul_left n h0
    omega
   omega
  simpa [stride] using this
 | false =>
  have c:(w+1)*n / W≤n:=gM h0 (Nat.mul_le_mul_right n (by omega))
  have:(w+1)*n / W-w*n / W≤1000:=Nat.le_trans (Nat.sub_le _ _) (Nat.le_trans c a)
  simpa [part,up] using this
theorem md {call:Nat→List D→Option (D × List D)} {io:Nat→List Nat} {it ic a:Nat} (hit:io it=[]) (j:io ic=[]) (q:io a=[]) {d:D} {way e:Str} {W b n:Nat} (fd:d.fz=true) (k:PyData.strOk way=true) (s:0<W) (w:W≤100) (hn:n≤1000)
  (m:call it [d]=some (.tup [.str way,.int W,.int b,.str e],[]))
  (c:∀ (o:Bool) (l:List Nat),l.length≤1000→call ic [.lst o (l.map nt),.int b,.str e]=some (.lst true ((s9 b (e==cf) l).map tN),[])) (u:call a [.str way,.int W,.int n]=some (.lst true ((bU (way==cj) W n).map wq),[])) :
  cU ⟨call,io,[]⟩ (bJ it ic a) [d,.int n]=some (.lst true ((fK way W b (e==cf) n).map tN),[]):=by
 have s1:evS ⟨call,io,[]⟩ 99 (.asg (.tp [3,4,5,6]) (.call it [(.var 0)])) [some d,some (.int n),none,none,none,none,none,none,none,none,none]=some (.nx [some d,some (.int n),none,some (.str way),some (.int W),some (.int b),some (.str e),none,none,none,none]):=by
  simp [fd,hit,m]
 have t:=rA k nc 92 ⟨call,io,[]⟩ 3 [some d,some (.int n),none,some (.str way),some (.int W),some (.int b),some (.str e),none,none,none,none] rfl
 unfold fK
 cases v:way==jh with
 | true =>
  rw [v] at t
  refine bZ (f:=bJ it ic a) rfl rfl (δ:=[some d,some (.int n),none,some (.str way),some (.int W),some (.int b),some (.str e),none,none,none,none]) ?_ rfl
  refine (aB _ 99 _ _ _ s1).trans (eJ _ 98 _ _ _ ((n5 _ 97 _ _ _ _ t).trans ?_))
  have h:=c true (List.range n) (by simpa using hn)
  have r:=bH (t:=n) (by omega)
  have y:evE ⟨call,io,[]⟩ 95 (.call ic [(.bi .lrange [(.var 1)]),(.var 5),(.var 6)]) [some d,some (.int n),none,some (.str way),some (.int W),some (.int b),some (.str e),none,none,none,none] =
    some (.tmp (.lst true ((s9 b (e==cf) (List.range n)).map tN)),[some d,some (.int n),none,some (.str way),some (.int W),some (.int b),some (.str e),none,none,none,none]):=by
   have l:n≤cap:=by unfold cap;omega
   simp [r,aZ,j,h,l]
  rw [bP _ 95 _ _ _ y]
  rfl
 | false =>
  rw [v] at t
  have c1:=uS (a2:=none) (a7:=none) (a8:=none) j q (d:=d) 55 (by omega) c u (pJ s hn)
  generalize hrows:(bU (way==cj) W n).map (s9 b (e==cf))=rows at c1
  have hlen:rows.length≤100:=by rw [← hrows];simpa [bU] using w
  have s3:evS ⟨call,io,[]⟩ 97 (.par [7,8] [(.lc (.call ic [(.var 9),(.var 5),(.var 6)]) (.nm 9) .val [(.call a [(.var 3),(.var 4),(.var 1)])] [] [9]),(.lst [])]) [some d,some (.int n),none,some (.str way),some (.int W),some (.int b),some (.str e),none,none,none,none] =
    some (.nx [some d,some (.int n),none,some (.str way),some (.int W),some (.int b),some (.str e),some (.lst true (rows.map (eY true))),some (.lst true []),none,none]):=by
   rw [uy,gU,c1]
   simp
  have r:=bH (t:=n) (by omega)
  obtain ⟨δ',z,p,t',B⟩:=dH (set:=setT [] (.nm 2)) (body:=aT ⟨call,io,[]⟩ 95 [.expr (.meth .extend (.var 8) [(.lc (.sub (.var 10) (.var 2)) (.nm 10) .val [(.var 7)] [(.cmp .lt (.var 2) (.bi .len [(.var 10)]))] [10])])])
   (fun pre δ=>∃ p t',δ=[some d,some (.int n),t',some (.str way),some (.int W),some (.int b),some (.str e),some (.lst p (rows.map (eY p))),some (.lst true ((pre.flatMap (bS rows)).map tN)),none,none]) nt (List.range n)
   (fun pre x post δ eq i=>by
    obtain ⟨p,t',rfl⟩:=i
    have C:pre.length≤1000:=by
     have:=congrArg List.length eq
     simp at this
     omega
    have H:=iH rows pre
    have F:pre.length*rows.length≤1000*100:=Nat.mul_le_mul C hlen
    obtain ⟨G,h⟩:=sI (call:=call) (io:=io) (a0:=some d) (a3:=some (.str way)) (a4:=some (.int W)) (a5:=some (.int b)) (a6:=some (.str e)) (a9:=none) (o:=true) (p:=p) (n:=n) (t:=x) (rows:=rows) (acc:=pre.flatMap (bS rows)) (by omega) (by unfold cap;omega) 55
    exact ⟨[some d,some (.int n),some (nt x),some (.str way),some (.int W),some (.int b),some (.str e),some (.lst p (rows.map (eY p))),some (.lst true ((pre.flatMap (bS rows)).map tN)),none,none],_,by simp,h,G,some (nt x),by simp⟩) (List.range n) [] _ (by simp) ⟨true,none,rfl⟩
  have hi:cH ⟨call,io,[]⟩ 95 .range [(.var 1)] [some d,some (.int n),none,some (.str way),some (.int W),some (.int b),some (.str e),some (.lst true (rows.map (eY true))),some (.lst true []),none,none] =
    some ((List.range n).map nt,[some d,some (.int n),none,some (.str way),some (.int W),some (.int b),some (.str e),some (.lst true (rows.map (eY true))),some (.lst true []),none,none]):=by
   simp [r,aZ]
  have s4:evS ⟨call,io,[]⟩ 96 (.for_ (.nm 2) .range [(.var 1)] [.expr (.meth .extend (.var 8) [(.lc (.sub (.var 10) (.var 2)) (.nm 10) .val [(.var 7)] [(.cmp .lt (.var 2) (.bi .len [(.var 10)]))] [10])])]) [some d,some (.int n),none,some (.str way),some (.int W),some (.int b),some (.str e),some (.lst true (rows.map (eY true))),some (.lst true []),none,none]=some (.nx δ') :=
   dc _ 95 _ _ _ _ _ hi z
  have g:=aS ((List.range n).flatMap (bS rows))
  refine bZ (f:=bJ it ic a) rfl rfl (δ:=[some d,some (.int n),t',some (.str way),some (.int W),some (.int b),some (.str e),some (.lst p (rows.map (eY p))),none,none,none]) ?_ rfl
  refine (aB _ 99 _ _ _ s1).trans ((aB _ 98 _ _ _ ((jr _ 97 _ _ _ _ t).trans (fP _ 96 _))).trans ((aB _ 97 _ _ _ s3).trans ((aB _ 96 _ _ _ s4).trans ?_)))
  subst B
  refine eJ _ 95 _ _ _ ?_
  refine (vF _ 94 8 _ _ (δ1:=[some d,some (.int n),t',some (.str way),some (.int W),some (.int b),some (.str e),some (.lst p (rows.map (eY p))),some (.lst true (((List.range n).flatMap (bS rows)).map tN)),none,none]) (by simp) rfl rfl).trans ?_
  rfl
theorem kH {set:D→Dl→Option Dl} {its:Dl→Option (List D × Dl)} {inner:List D→List D→Dl→Option (List D × Dl)} {own own2:List Nat} {δ:Dl} {g:D→List D} :
  ∀ (xs acc:List D),(∀ x∈xs,∀ acc,∃ δ1 δ2 ys δ3,set x δ=some δ1∧its δ1=some (ys,δ2)∧(acc.length+(g x).length≤cap→inner ys acc (bu δ2 own2)=some (acc++g x,δ3))∧bu δ3 own=δ)→acc.length+(xs.flatMap g).length≤cap →
  pR set its inner own own2 xs acc δ=some (acc++xs.flatMap g,δ)
 | [],acc,_,_=>by simp [pR]
 | x::xs,acc,h,a=>by
  obtain ⟨δ1,δ2,ys,δ3,b,c,d,e⟩:=h x (by simp) acc
  rw [List.flatMap_cons,List.length_append] at a
  have ih:=kH (set:=set) (its:=its) (inner:=inner) (own:=own) (own2:=own2) (δ:=δ) (g:=g) xs (acc++g x) (fun y f=>h y (by simp [f])) (by rw [List.length_append];omega)
  simp only [pR,b,c,d (by omega),e,ih]
  simp
end Ev
namespace Ev
open PySem
theorem iV:∀ l:List Nat,intsOf (l.map nt)=some (l.map fun (n:Nat)=>(n:Int))
 | []=>rfl
 | x::l=>by simp only [List.map_cons,intsOf,iV l,Option.map_some]
theorem lL:∀ a b:List Nat,eqs (a.map nt) (b.map nt)=(a==b)
 | [],[]=>rfl
 | [],y::b=>rfl
 | x::a,[]=>rfl
 | x::a,y::b=>by
  simp only [List.map_cons,qW,qV,lL a b,jV]
  rfl
theorem jx (k:Nat):∀ l:List Nat,oks k (l.map nt)=true
 | []=>by simp
 | x::l=>by simp only [List.map_cons,tD,za,jx k l,Bool.and_self]
def wW (call:Nat→List D→Option (D × List D)) (it:Nat):Prop:=∀ d c (b:Nat),Box c d→c<1000000000000→0<b→b<1000000000→∃ (r:Nat) (d':D),call it [d,.int b]=some (.int r,[d'])∧r<b∧Box (c+1) d'
theorem rB {T:List Fn} {k it:Nat} (h:T[it]?=some aO):wW (evF T (k+1)) it:=by
 intro d c b a f h0 i
 obtain ⟨r,d',e,j,l,g⟩:=y9 (call:=evF T k) (io:=fun h=>((T[h]?).map (·.io)).getD []) a f (b:=b) (by omega) (by omega)
 refine ⟨r.toNat,d',?_,by omega,g⟩
 rw [bE h]
 rw [show ((r.toNat:Nat):Int)=r by omega]
 exact e
def EO (call:Nat→List D→Option (D × List D)) (io:Nat):Prop:=∀ d c (o:Bool) (xs:List D),Box c d→c<1000000000000→0<xs.length→xs.length<1000000→fzs xs=true→∃ (r:Nat) (y d':D),call io [d,.lst o xs]=some (y,[d'])∧xs[r]?=some y∧Box (c+1) d'
theorem Ed {T:List Fn} {k it io:Nat} (h:T[it]?=some aO) (i:T[io]?=some (bQ it)):EO (evF T (k+2)) io:=by
 intro d c o xs a j h0 l hf
 obtain ⟨r,d',e,b,f⟩:=rB (k:=k) h d c xs.length a j h0 (by omega)
 have g:xs[r]?=some xs[r]:=List.getElem?_eq_getElem b
 refine ⟨r,xs[r],d',?_,g,f⟩
 rw [bE i]
 exact of_ok (by simp [h,aO]) a f (r:=r) (by omega) (by omega) (by rw [Int.toNat_natCast];exact g) (jD hf _ (List.getElem_mem b)) e
theorem gZ {c:Int} {d:D} (h:Box c d):∃ xs,d=.lst true xs∧fzs xs=true∧cS xs=true:=by
 obtain ⟨x0,a,x2,rfl,_⟩:=h
 exact ⟨_,rfl,rfl,rfl⟩
end Ev
namespace Ev
open PySem
def EI (call:Nat→List D→Option (D × List D)) (ib:Nat):Prop:=∀ (way e:Str) (W b n:Nat),(way=jh∨way=cj∨way=mU)→(e=cf∨e=yh)→0<W→W≤100→0<b→b<1000000→n≤1000 →
 call ib [.tup [.str way,.int W,.int b,.str e],.int n]=some (.lst true ((fK way W b (e==cf) n).map tN),[])
theorem wI {way:Str} (h:way=jh∨way=cj∨way=mU):PyData.strOk way=true:=by
 rcases h with h | h | h
 ·rw [h];exact nc
 ·rw [h];exact oS
 ·rw [h];exact uc
theorem Bx {e:Str} (h:e=cf∨e=yh):PyData.strOk e=true:=by
 rcases h with h | h
 ·rw [h];exact oN
 ·rw [h];exact yF
theorem iK {T:List Fn} {it:Nat} (h:T[it]?=some (aR it)):∀ (m:Nat) (d:D),d.fz=true→shape m d=true→evF T (m+1) it [d]=some (kJ d,[])
 | m,d,hd,hs=>by
  rw [bE h]
  have b:(fun h=>((T[h]?).map (·.io)).getD []) it=[]:=by simp [h,aR]
  cases m with
  | zero =>
   have a:hG d .list=false∧hG d .tuple=false∧kJ d=d∧isObj d=false:=by
    cases d<;>first | exact ⟨rfl,rfl,rfl,rfl⟩ | simp [shape] at hs
   rw [a.2.2.1]
   simp [cU,aR,br,evT,hd,a.1,a.2.1,a.2.2.2]
  | succ m=>exact pH b (fun d hd hs=>iK h m d hd hs) hd hs
theorem j6 {T:List Fn} {it k:Nat} (h:T[it]?=some (aR it)) {d:D} (hd:d.fz=true) (hs:shape k d=true):evF T (k+1) it [d]=some (kJ d,[]):=iK h k d hd hs
theorem BM {T:List Fn} {k it ic a ib:Nat} (f:T[it]?=some (aR it)) (g:T[ic]?=some kq) (h:T[a]?=some bX) (i:T[ib]?=some (bJ it ic a)):EI (evF T (k+4)) ib:=by
 intro way e W b n hw he h0 j m c hn
 rw [bE i]
 refine md (by simp [f,aR]) (by simp [g,kq]) (by simp [h,bX]) (by simp) (wI hw) h0 j hn ?_ ?_ ?_
 ·have:=j6 (k:=k+2) f (d:=.tup [.str way,.int W,.int b,.str e]) (by simp) (by simp [shape,shapes,cap])
  rw [this]
  simp [kJ,eE]
 ·intro o l p
  rw [bE g]
  exact xm m c (Bx he) p
 ·rw [bE h]
  exact pk (wI hw) h0 (by omega) hn
end Ev
namespace Ev
open PySem
section
variable {call:Nat→List D→Option (D × List D)} {io:Nat→List Nat} {s m:Nat}
end
end Ev
namespace Ev
open PySem
end Ev
namespace Ev
open PySem
section
variable {call:Nat→List D→Option (D × List D)} {io:Nat→List Nat} {ic ib ir:Nat} {ns cs:List Int}
end
end Ev
namespace Ev
open PySem
section
variable {call:Nat→List D→Option (D × List D)} {io:Nat→List Nat}
end
theorem fe (x:Nat):∀ l:List Nat,(l.map nt).any (fun y=>y.eq (nt x))=l.contains x
 | []=>rfl
 | y::l=>by
  have ih:=fe x l
  simp only [List.map_cons,List.any_cons,qV,jV,List.contains_cons,ih]
  rw [BEq.comm]
theorem kN:∀ l:List Nat,cS (l.map nt)=true
 | []=>rfl
 | x::l=>by simp only [List.map_cons,cS,D.flat,kN l,Bool.and_self]
section
variable {call:Nat→List D→Option (D × List D)} {io:Nat→List Nat} {n:Nat} {a1 a2:Option D} {acc:List (List Nat)} {row:List Nat}
end
end Ev
namespace Ev
open PySem
section
variable {call:Nat→List D→Option (D × List D)} {io:Nat→List Nat} {size:Nat} {line:List Nat}
end
end Ev
namespace Ev.Bu
end Ev.Bu
namespace Ev.Bu
open PySem Ev
def optN:Option Nat→D
 | some j=>nt j
 | none=>.non
section
variable {call:Nat→List D→Option (D × List D)} {io:Nat→List Nat}
theorem cu {n c:Nat} (h:c<n):ixN n (c:Int)=some c:=by
 unfold ixN
 rw [if_pos (by omega),if_pos (by omega),Int.toNat_natCast]
end
theorem ee (l:List Nat):(tN l).fz=true:=by rw [fc];exact bN l
theorem jg (m:Nat):∀ l:List Nat,shapes m (l.map nt)=true
 | []=>by cases m<;>rfl
 | x::xs=>by
  simp only [List.map_cons]
  unfold shapes
  rw [jg m xs]
  cases m<;>rfl
theorem uF (m:Nat) (l:List Nat) (h:l.length≤1000):shape (m+1) (tN l)=true:=by
 show (decide ((l.map nt).length≤cap)&&shapes m (l.map nt))=true
 rw [jg,List.length_map,decide_eq_true (show l.length≤cap by unfold cap;omega)]
 rfl
theorem kR:∀ l:List Nat,eE (l.map nt)=l.map nt
 | []=>rfl
 | x::xs=>by
  simp only [List.map_cons]
  unfold eE
  rw [kR xs]
  rfl
theorem rM {T:List Fn} {it:Nat} (h:T[it]?=some (aR it)) (k:Nat) (row:List Nat) (a:row.length≤1000):evF T (k+3) it [tN row]=some (tN row,[]):=by
 have:=j6 (k:=k+2) h (ee row) (uF _ row a)
 rw [this]
 show some (D.tup (eE (row.map nt)),[])=_
 rw [kR]
end Ev.Bu
namespace Ev.K67
open PySem Ev Ev.Bu
def dO (m:Nat) (rows:List (List Nat)):List (List Nat):=rows.flatMap fun row=>(List.range (m+1)).map fun x=>row++[x]
def ldK (m:Nat):Nat→List (List Nat)
 | 0=>[[]]
 | k+1=>dO m (ldK m k)
def ldM (W m:Nat):List (List Nat):=(ldK m W).filter fun row=>row.contains 0
def mQ:List S:=[.asg (.nm 2) (.lc2 (.disS false [] (.var 4) [(.var 5)]) (.nm 4) .val [(.var 2)] (.nm 5) .range [(.bin .add (.var 1) (.int 1))] [4,5] [5])]
def eA:Fn:={ n:=6,ps:=2,io:=[],body:=[.asg (.nm 2) (.lst [(.tup [])]),
  .for_ (.nm 3) .range [(.var 0)] mQ,
  .ret (.lc (.var 4) (.nm 4) .val [(.var 2)] [(.cmp .isin (.int 0) (.var 4))] [4])] }
def exW (m:Nat):D→List D
 | .tup xs=>(List.range (m+1)).map fun (z:Nat)=>.tup (xs++[nt z])
 | _=>[]
theorem jI (m:Nat):∀ rows:List (List Nat),(rows.map tN).flatMap (exW m)=(dO m rows).map tN
 | []=>rfl
 | r::rows=>by
  rw [List.map_cons,List.flatMap_cons,jI m rows]
  unfold dO
  rw [List.flatMap_cons,List.map_append,List.map_map]
  congr 1
  show (List.range (m+1)).map (fun (z:Nat)=>D.tup (r.map nt++[nt z]))=_
  refine List.map_congr_left fun z _=>?_
  simp [tN]
theorem eU (m:Nat):∀ rows:List (List Nat),(dO m rows).length=rows.length*(m+1)
 | []=>by simp [dO]
 | r::rows=>by
  have ih:=eU m rows
  unfold dO at ih ⊢
  rw [List.flatMap_cons,List.length_append,ih,List.length_map,List.length_range,List.length_cons,Nat.succ_mul,Nat.add_comm]
section
variable {call:Nat→List D→Option (D × List D)} {io:Nat→List Nat}
theorem yB {W m:Nat} {rows:List (List Nat)} {o:Bool} {a3:Option D} (hm:m≤100) (i:∀ r∈rows,r.length≤100) (j:rows.length≤9000) (k:Nat) :
  aT ⟨call,io,[]⟩ (k+31) mQ [some (.int W),some (.int m),some (.lst o (rows.map tN)),a3,none,none] =
   some (.nx [some (.int W),some (.int m),some (.lst true ((dO m rows).map tN)),a3,none,none]):=by
 have l:=aS rows
 have n:=eh rows
 have hi:cH ⟨call,io,[]⟩ (k+27) .val [(.var 2)] [some (.int W),some (.int m),some (.lst o (rows.map tN)),a3,none,none]=some (rows.map tN,[some (.int W),some (.int m),some (.lst false (rows.map tN)),a3,none,none]):=by
  cases o<;>simp [l,n]
 have len:=eU m rows
 have c:pR (setT [] (.nm 4)) (cH ⟨call,io,[]⟩ (k+27) .range [(.bin .add (.var 1) (.int 1))]) (lcL (setT [] (.nm 5)) (bR ⟨call,io,[]⟩ (k+27) []) (evV ⟨call,io,[]⟩ (k+27) (.disS false [] (.var 4) [(.var 5)])) [5]) [4,5] [5] (rows.map tN) [] [some (.int W),some (.int m),some (.lst false (rows.map tN)),a3,none,none]
   = some ([]++(rows.map tN).flatMap (exW m),[some (.int W),some (.int m),some (.lst false (rows.map tN)),a3,none,none]):=by
  refine kH _ [] (fun x a acc=>?_) (by
   rw [jI,List.length_map,len,List.length_nil,Nat.zero_add]
   have:rows.length*(m+1)≤9000*101:=Nat.mul_le_mul j (by omega)
   unfold cap
   omega)
  obtain ⟨y,q,rfl⟩:=List.mem_map.mp a
  have f2:=bN y
  have s:=dP y
  have B:=i y q
  have b:small64 ((m:Int)+1)=true:=by
   have:=cV (t:=m+1) (by omega)
   simpa using this
  have u:aN [.int ((m:Int)+1)]=some ((List.range (m+1)).map nt):=by
   have:=bH (t:=m+1) (by omega)
   rw [aZ] at this
   simpa using this
  generalize v:D.lst false (rows.map tN)=L at *
  refine ⟨[some (.int W),some (.int m),some L,a3,some (tN y),none],[some (.int W),some (.int m),some L,a3,some (tN y),none],(List.range (m+1)).map nt,[some (.int W),some (.int m),some L,a3,some (tN y),none],by simp,by simp [u,b],fun g=>?_,rfl⟩
  have:=oq (set:=setT [] (.nm 5)) (test:=bR ⟨call,io,[]⟩ (k+27) []) (elt:=evV ⟨call,io,[]⟩ (k+27) (.disS false [] (.var 4) [(.var 5)])) (own:=[5]) (p:=fun _=>true) (f:=fun d=>.tup (y.map nt++[d])) (δ:=[some (.int W),some (.int m),some L,a3,some (tN y),none]) ((List.range (m+1)).map nt) acc (fun x a=>by
   obtain ⟨z,_,rfl⟩:=List.mem_map.mp a
   have l1:y.length+1≤1000000:=by omega
   exact ⟨[some (.int W),some (.int m),some L,a3,some (tN y),some (nt z)],[some (.int W),some (.int m),some L,a3,some (tN y),some (nt z)],by simp,rfl,(fun h=>by cases h),fun _=>⟨[some (.int W),some (.int m),some L,a3,some (tN y),some (nt z)],(by simp [f2,s,l1,cap,BX];try rfl),rfl⟩⟩) (by
    have e:(exW m (tN y)).length=m+1:=by simp [exW,tN]
    rw [e] at g
    simpa using g)
  rw [fW] at this
  refine this.trans ?_
  show some (acc++((List.range (m+1)).map nt).map (fun d=>D.tup (y.map nt++[d])),_)=some (acc++exW m (tN y),_)
  rw [List.map_map]
  rfl
 rw [List.nil_append,jI] at c
 have w:evE ⟨call,io,[]⟩ (k+28) (.lc2 (.disS false [] (.var 4) [(.var 5)]) (.nm 4) .val [(.var 2)] (.nm 5) .range [(.bin .add (.var 1) (.int 1))] [4,5] [5]) [some (.int W),some (.int m),some (.lst o (rows.map tN)),a3,none,none]=some (.tmp (.lst true ((dO m rows).map tN)),[some (.int W),some (.int m),some (.lst false (rows.map tN)),a3,none,none]):=by
  rw [v5,hi]
  simp only
  generalize v:D.lst false (rows.map tN)=L at *
  rw [show dh [some (D.int W),some (D.int m),some L,a3,none,none] [4,5]=true from rfl,if_pos rfl,show bu [some (D.int W),some (D.int m),some L,a3,none,none] [4,5]=[some (D.int W),some (D.int m),some L,a3,none,none] from rfl,c]
  rfl
 generalize (dO m rows).map tN=z at *
 unfold mQ
 simp [w]
theorem lT (m:Nat):∀ k,(∀ r∈ldK m k,r.length=k)∧(ldK m k).length=(m+1) ^ k
 | 0=>⟨fun r h=>by
   have:r=[]:=by simpa [ldK] using h
   rw [this]
   rfl,rfl⟩
 | k+1=>by
  obtain ⟨a,b⟩:=lT m k
  refine ⟨fun r h=>?_,by unfold ldK;rw [eU,b];rfl⟩
  unfold ldK dO at h
  obtain ⟨q,c,d⟩:=List.mem_flatMap.mp h
  obtain ⟨x,_,rfl⟩:=List.mem_map.mp d
  rw [List.length_append,a q c]
  rfl
theorem qO {W m:Nat} (hm:m≤100) (F:W≤100) (b:∀ k,k≤W→(m+1) ^ k≤9000):cU ⟨call,io,[]⟩ eA [.int W,.int m]=some (.lst true ((ldM W m).map tN),[]):=by
 have hi:cH ⟨call,io,[]⟩ 97 .range [(.var 0)] [some (.int W),some (.int m),some (.lst true [tN []]),none,none,none]=some ((List.range W).map nt,[some (.int W),some (.int m),some (.lst true [tN []]),none,none,none]):=by
  simp [bH (t:=W) (by omega),aZ]
 obtain ⟨δ',l,t',o⟩:=dH (set:=setT [] (.nm 3)) (body:=aT ⟨call,io,[]⟩ 97 mQ)
  (fun pre δ=>∃ t',δ=[some (.int W),some (.int m),some (.lst true ((ldK m pre.length).map tN)),t',none,none]) nt (List.range W)
  (fun pre x post δ eq i=>by
   obtain ⟨t',rfl⟩:=i
   have G:pre.length<W:=by
    have:=congrArg List.length eq
    rw [List.length_range,List.length_append,List.length_cons] at this
    omega
   obtain ⟨r1,q⟩:=lT m pre.length
   have:=b pre.length (by omega)
   refine ⟨[some (.int W),some (.int m),some (.lst true ((ldK m pre.length).map tN)),some (nt x),none,none],_,by simp,yB (call:=call) (io:=io) (rows:=ldK m pre.length) hm (fun r h=>by rw [r1 r h];omega) (by omega) 66,some (nt x),?_⟩
   rw [List.length_append]
   rfl) (List.range W) [] _ (by simp) ⟨none,rfl⟩
 subst o
 rw [List.length_range] at l
 obtain ⟨r1,q⟩:=lT m W
 have H:=b W (Nat.le_refl _)
 have s:=aS (ldK m W)
 have u:=eh (ldK m W)
 have g:cH ⟨call,io,[]⟩ 95 .val [(.var 2)] [some (.int W),some (.int m),some (.lst true ((ldK m W).map tN)),t',none,none]=some ((ldK m W).map tN,[some (.int W),some (.int m),some (.lst false ((ldK m W).map tN)),t',none,none]):=by
  simp [s,u]
 have w:evE ⟨call,io,[]⟩ 96 (.lc (.var 4) (.nm 4) .val [(.var 2)] [(.cmp .isin (.int 0) (.var 4))] [4]) [some (.int W),some (.int m),some (.lst true ((ldK m W).map tN)),t',none,none]=some (.tmp (.lst true ((ldM W m).map tN)),[some (.int W),some (.int m),some (.lst false ((ldK m W).map tN)),t',none,none]):=by
  refine (lV (C:=⟨call,io,[]⟩) (n:=94) (v:=4) (p:=fun d=>match d with
   | .tup xs=>xs.any fun y=>y.eq (.int 0)
   | _=>false) (f:=fun d=>d) rfl g (by simp) (by rfl) (by rw [List.length_map];unfold cap;omega) (fun x j=>?_) (fun x j b=>?_)).trans ?_
  ·obtain ⟨y,B,rfl⟩:=List.mem_map.mp j
   have fr:=bN y
   have an:=fe 0 y
   have fl:=kN y
   generalize I:D.lst false ((ldK m W).map tN)=L at *
   have a:(y.map nt).any (fun z=>z.eq (.int 0))=y.contains 0:=an
   refine Eq.trans ?_ (show some ((y.map nt).any (fun z=>z.eq (.int 0)),[some (.int W),some (.int m),some L,t',none,none].set 4 (some (tN y)))=_ from rfl)
   rw [a]
   generalize y.contains 0=c at *
   simp [fr,ia,D.flat,fl,a]
  ·obtain ⟨y,B,rfl⟩:=List.mem_map.mp j
   have fr:=bN y
   simp [fr]
  ·rw [List.map_id']
   unfold ldM
   rw [List.filter_map]
   have e:((ldK m W).filter ((fun d=>match d with
   | .tup xs=>xs.any fun y=>y.eq (.int 0)
   | _=>false)∘tN))=(ldK m W).filter fun row=>row.contains 0:=by
    refine List.filter_congr fun y _=>?_
    exact fe 0 y
   rw [e]
 have J:=aS (ldM W m)
 refine bZ (f:=eA) (δ0:=[some (.int W),some (.int m),none,none,none,none]) rfl rfl (δ:=[some (.int W),some (.int m),some (.lst false ((ldK m W).map tN)),t',none,none]) ?_ rfl
 refine (aB _ 99 _ _ _ (δ1:=[some (.int W),some (.int m),some (.lst true [tN []]),none,none,none]) (by simp [show 1≤cap by decide])).trans ?_
 refine (aB _ 98 _ _ _ (dc _ 97 _ _ _ _ _ hi l)).trans ?_
 refine bP _ 96 _ _ _ ?_
 exact w
def aM:Fn:={ n:=5,ps:=2,io:=[],body:=[.par [3,4] [(.int 1),(.int 1)],
  .for_ (.nm 2) .range [(.var 0)] [.par [3,4] [(.bin .mul (.var 3) (.bin .add (.var 1) (.int 1))),(.bin .mul (.var 4) (.var 1))]],
  .ret (.bin .sub (.var 3) (.var 4))] }
theorem uD {W m:Nat} (hm:m≤100) (j:W≤100) (c:∀ k,k≤W→(m+1) ^ k≤9000):cU ⟨call,io,[]⟩ aM [.int W,.int m]=some (.int (((m+1) ^ W:Nat)-(m ^ W:Nat)),[]):=by
 have hi:cH ⟨call,io,[]⟩ 97 .range [(.var 0)] [some (.int W),some (.int m),none,some (.int 1),some (.int 1)]=some ((List.range W).map nt,[some (.int W),some (.int m),none,some (.int 1),some (.int 1)]):=by
  simp [bH (t:=W) (by omega),aZ]
 obtain ⟨δ',d,t',e⟩:=dH (set:=setT [] (.nm 2)) (body:=aT ⟨call,io,[]⟩ 97 [.par [3,4] [(.bin .mul (.var 3) (.bin .add (.var 1) (.int 1))),(.bin .mul (.var 4) (.var 1))]])
  (fun pre δ=>∃ t',δ=[some (.int W),some (.int m),t',some (.int ((m+1) ^ pre.length:Nat)),some (.int (m ^ pre.length:Nat))]) nt (List.range W)
  (fun pre x post δ eq i=>by
   obtain ⟨t',rfl⟩:=i
   have l:pre.length<W:=by
    have:=congrArg List.length eq
    rw [List.length_range,List.length_append,List.length_cons] at this
    omega
   have p1:=c pre.length (by omega)
   have p2:=c (pre.length+1) (by omega)
   have p3:m ^ pre.length≤(m+1) ^ pre.length:=Nat.pow_le_pow_left (Nat.le_succ m) _
   refine ⟨[some (.int W),some (.int m),some (nt x),some (.int ((m+1) ^ pre.length:Nat)),some (.int (m ^ pre.length:Nat))],_,by simp,?_,some (nt x),rfl⟩
   rw [List.length_append]
   show _=some (Fl.nx [some (.int W),some (.int m),some (nt x),some (.int (((m+1) ^ (pre.length+1):Nat):Int)),some (.int ((m ^ (pre.length+1):Nat):Int))])
   rw [Nat.pow_succ,Nat.pow_succ]
   rw [Nat.pow_succ] at p2
   generalize (m+1) ^ pre.length=a at *
   generalize m ^ pre.length=b at *
   have bm:b*m≤9000*100:=Nat.mul_le_mul (by omega) hm
   have s1:small64 ((m:Int)+1)=true:=by
    have:=cV (t:=m+1) (by omega)
    simpa using this
   have s2:small64 ((a:Int)*((m:Int)+1))=true:=by
    have:=cV (t:=a*(m+1)) (by omega)
    simpa using this
   have s3:small64 ((b:Int)*(m:Int))=true:=by
    have:=cV (t:=b*m) (by omega)
    simpa using this
   have s5:small64 (m:Int)=true:=cV (by omega)
   have g:small64 (b:Int)=true:=cV (by omega)
   have h:small64 (a:Int)=true:=cV (by omega)
   simp [s1,s2,s3,s5,g,h]) (List.range W) [] _ (by simp) ⟨none,rfl⟩
 subst e
 rw [List.length_range] at d
 have p1:=c W (Nat.le_refl _)
 have p3:m ^ W≤(m+1) ^ W:=Nat.pow_le_pow_left (Nat.le_succ m) _
 have s4:small64 (((m+1) ^ W:Nat)-(m ^ W:Nat):Int)=true:=by
  have:=cV (t:=(m+1) ^ W-m ^ W) (by omega)
  rw [Int.natCast_sub p3] at this
  exact this
 refine bZ (f:=aM) (δ0:=[some (.int W),some (.int m),none,none,none]) rfl rfl (δ:=[some (.int W),some (.int m),t',some (.int ((m+1) ^ W:Nat)),some (.int (m ^ W:Nat))]) ?_ rfl
 refine (aB _ 99 _ _ _ (δ1:=[some (.int W),some (.int m),none,some (.int 1),some (.int 1)]) (by simp)).trans ?_
 refine (aB _ 98 _ _ _ (dc _ 97 _ _ _ _ _ hi d)).trans ?_
 refine bP _ 96 _ _ _ ?_
 generalize (m+1) ^ W=a at *
 generalize m ^ W=b at *
 simp [s4]
def nJ:List S:=[.ifs (.cmp .ne (.var 4) (.sub (.var 2) (.var 3))) [.ret (.var 3)] []]
def bz (it:Nat):Fn:={ n:=5,ps:=2,io:=[],body:=[.asg (.nm 2) (.call it [(.var 1)]),
  .for_ (.tp [3,4]) .enum [(.call it [(.var 0)])] nJ,
  .ret .non] }
def nO (b:List Nat):Nat→List Nat→Option Nat
 | _,[]=>none
 | k,x::xs=>if b[k]?=some x then nO b (k+1) xs else some k
theorem rP {b:List Nat} {d1 d2:Option D}:∀ (rest:List Nat) (k:Nat) (a3 a4:Option D),k+rest.length≤b.length→b.length≤100→∃ δ',forL (setT [] (.tp [3,4])) (aT ⟨call,io,[]⟩ 97 nJ) (cO k (rest.map nt)) [d1,d2,some (tN b),a3,a4] =
  match nO b k rest with
  | some j=>some (.rt (nt j) δ')
  | none=>some (.nx δ')
 | [],k,a3,a4,_,_=>⟨_,rfl⟩
 | x::xs,k,a3,a4,hk,c=>by
  have s:setT [] (.tp [3,4]) (.tup [.int k,nt x]) [d1,d2,some (tN b),a3,a4]=some [d1,d2,some (tN b),some (nt k),some (nt x)]:=by simp
  simp only [List.map_cons,cO,forL,s]
  rw [List.length_cons] at hk
  have a:k<b.length:=by omega
  have g:(b.map nt)[k]?=some (nt b[k]):=by simp [a]
  have fr:=bN b
  have ix:ixN b.length (k:Int)=some k:=cu a
  have pl:∀ y:Nat,plain (nt y)=true:=fun _=>rfl
  unfold nO
  rw [List.getElem?_eq_getElem a]
  by_cases h:b[k]=x
  ·rw [if_pos (by rw [h])]
   obtain ⟨δ',e⟩:=rP (b:=b) (d1:=d1) (d2:=d2) xs (k+1) (some (nt k)) (some (nt x)) (by omega) c
   refine ⟨δ',?_⟩
   rw [← e]
   rw [h] at g
   simp [nJ,fr,ix,a,h,pl]
  ·rw [if_neg (by simpa using h)]
   refine ⟨[d1,d2,some (tN b),some (nt k),some (nt x)],?_⟩
   have h':¬ x=b[k]:=fun e=>h e.symm
   have d:b[k]?=some b[k]:=List.getElem?_eq_getElem a
   generalize b[k]=y at *
   have f:((x:Int)==(y:Int))=false:=by rw [beq_eq_false_iff_ne];omega
   simp [nJ,fr,ix,d,f,pl]
theorem lA {it:Nat} (hit:io it=[]) {a b:List Nat} (l:a.length=b.length) (d:b.length≤100) (ha:call it [tN a]=some (tN a,[])) (c:call it [tN b]=some (tN b,[])):cU ⟨call,io,[]⟩ (bz it) [tN a,tN b]=some (optN (nO b 0 a),[]):=by
 have e:=bN a
 have g:=bN b
 have i:=dP a
 have k:=dP b
 obtain ⟨δ',h⟩:=rP (call:=call) (io:=io) (b:=b) (d1:=some (tN a)) (d2:=some (tN b)) a 0 none none (by omega) d
 have hi:cH ⟨call,io,[]⟩ 97 .enum [(.call it [(.var 0)])] [some (tN a),some (tN b),some (tN b),none,none]=some (cO 0 (a.map nt),[some (tN a),some (tN b),some (tN b),none,none]):=by
  simp [hit,ha,e,i]
 have e0:evS ⟨call,io,[]⟩ 99 (.asg (.nm 2) (.call it [(.var 1)])) [some (tN a),some (tN b),none,none,none]=some (.nx [some (tN a),some (tN b),some (tN b),none,none]):=by
  simp [hit,c,g,k,eB,valOf,aP]
 cases he:nO b 0 a with
 | none =>
  rw [he] at h
  refine bZ (f:=bz it) (δ0:=[some (tN a),some (tN b),none,none,none]) rfl rfl (δ:=δ') ?_ (by simp [bz])
  refine (aB _ 99 _ _ _ e0).trans ((aB _ 98 _ _ _ (dc _ 97 _ _ _ _ _ hi h)).trans ?_)
  exact bP _ 96 _ _ _ (by simp [optN])
 | some j =>
  rw [he] at h
  refine bZ (f:=bz it) (δ0:=[some (tN a),some (tN b),none,none,none]) rfl rfl (δ:=δ') ?_ (by simp [bz])
  exact (aB _ 99 _ _ _ e0).trans (eJ _ 98 _ _ _ (dc _ 97 _ _ _ _ _ hi h))
def bF:Fn:={ n:=3,ps:=2,io:=[],body:=[.ret (.bi .tuple1 [(.lc (.sub (.var 0) (.bin .add (.bin .mul (.sub (.var 1) (.var 2)) (.bi .len [(.var 1)])) (.var 2))) (.nm 2) .range [(.bi .len [(.var 1)])] [] [2])])] }
def nxM (rows:List (List Nat)) (v:List Nat):List (List Nat):=(List.range v.length).map fun w=>rows.getD (v.getD w 0*v.length+w) []
theorem qZ {rows:List (List Nat)} {v:List Nat} (u:rows.length≤1000) (B:v.length≤100) (k:∀ (w x:Nat),v[w]?=some x→x*v.length+w<rows.length) :
  cU ⟨call,io,[]⟩ bF [.lst false (rows.map tN),tN v]=some (.tup ((nxM rows v).map tN),[]):=by
 have fr:=aS rows
 have i:=bN v
 have hi:cH ⟨call,io,[]⟩ 95 .range [(.bi .len [(.var 1)])] [some (.lst false (rows.map tN)),some (tN v),none]=some ((List.range v.length).map nt,[some (.lst false (rows.map tN)),some (tN v),none]):=by
  simp [fr,i,bH (t:=v.length) (by omega),aZ,show v.length≤cap by unfold cap;omega]
 have l:evE ⟨call,io,[]⟩ 96 (.lc (.sub (.var 0) (.bin .add (.bin .mul (.sub (.var 1) (.var 2)) (.bi .len [(.var 1)])) (.var 2))) (.nm 2) .range [(.bi .len [(.var 1)])] [] [2]) [some (.lst false (rows.map tN)),some (tN v),none]=some (.tmp (.lst true ((nxM rows v).map tN)),[some (.lst false (rows.map tN)),some (tN v),none]):=by
  refine (pL (C:=⟨call,io,[]⟩) (n:=95) (v:=2) (f:=fun d=>match d with
   | .int z=>tN (rows.getD (v.getD z.toNat 0*v.length+z.toNat) [])
   | _=>.non) (xs:=(List.range v.length).map nt) rfl hi (by simp) (by rfl) (by rw [List.length_map,List.length_range];unfold cap;omega) (fun x c=>?_) (by omega)).trans ?_
  ·obtain ⟨z,m,rfl⟩:=List.mem_map.mp c
   have j:z<v.length:=List.mem_range.mp m
   have e:v[z]?=some v[z]:=List.getElem?_eq_getElem j
   have o:=k z v[z] e
   have g:ixN v.length (z:Int)=some z:=cu j
   show _=some (tN (rows.getD (v.getD z 0*v.length+z) []),_)
   have p:v.getD z 0=v[z]:=by simp [List.getD,e]
   rw [p]
   generalize v[z]=y at *
   have a:y*v.length+z<rows.length:=o
   have g2:rows[y*v.length+z]?=some rows[y*v.length+z]:=List.getElem?_eq_getElem a
   have h:rows.getD (y*v.length+z) []=rows[y*v.length+z]:=by simp [List.getD,g2]
   rw [h]
   generalize rows[y*v.length+z]=q at *
   have b:ixN rows.length ((y*v.length+z:Nat):Int)=some (y*v.length+z):=cu a
   rw [Int.natCast_add,Int.natCast_mul] at b
   have s1:small64 (y:Int)=true∨small64 (v.length:Int)=true:=.inr (cV (by omega))
   have s2:small64 ((y:Int)*(v.length:Int))=true:=by
    have:=cV (t:=y*v.length) (by omega)
    simpa using this
   have s3:small64 (v.length:Int)=true:=cV (by omega)
   have s4:small64 (z:Int)=true:=cV (by omega)
   have r:=bN q
   simp [fr,i,g,e,b,g2,s1,s2,s3,s4,r,show v.length≤cap by unfold cap;omega]
  ·unfold nxM
   rw [List.map_map,List.map_map]
   rfl
 have s:=aS (nxM rows v)
 refine bZ (f:=bF) (δ0:=[some (.lst false (rows.map tN)),some (tN v),none]) rfl rfl (δ:=[some (.lst false (rows.map tN)),some (tN v),none]) ?_ rfl
 refine bP _ 98 _ _ _ ?_
 rw [mH,gU,l]
 generalize (nxM rows v).map tN=z at *
 simp [s]
end
end Ev.K67
namespace Ev.K67
open PySem Ev Ev.Bu
def tS (it:Bool) (W m size:Nat):List (List Nat):=fK (if it then cj else Str.ofString "parts") W size true (W*(m+1)*size)
def gj (v v':List Nat) (x x':List (List Nat)) (same:Bool):Bool:=match nO v' 0 v with
 | none=>same
 | some p=>!same&&!(x.getD p []==x'.getD p [])&&x.take p==x'.take p
def distinct:List (List (List Nat))→Bool
 | []=>true
 | x::xs=>!xs.contains x&&distinct xs
def cF (it:Bool) (W m size:Nat):Bool :=
 let rows:=tS it W m size
 let L:=ldM W m
 let N:=L.map (nxM rows)
 rows.length==W*(m+1)&&L.length==(m+1) ^ W-m ^ W&&distinct N
  && L.all (fun v=>v.length==W&&v.all fun x=>decide (x≤m))
  && (List.range L.length).all fun i=>(List.range L.length).all fun j=>gj (L.getD i []) (L.getD j []) (N.getD i []) (N.getD j []) (i==j)
theorem xa:((List.range 3).all fun s=>cF true 1 3 (s+1)&&cF false 1 3 (s+1))=true:=by decide +kernel
theorem ym:((List.range 3).all fun s=>cF true 2 1 (s+1)&&cF false 2 1 (s+1))=true:=by decide +kernel
theorem y6:((List.range 2).all fun s=>cF true 2 2 (s+1)&&cF false 2 2 (s+1))=true:=by decide +kernel
theorem yj:(cF true 2 3 1&&cF false 2 3 1)=true:=by decide +kernel
theorem yO:((List.range 2).all fun s=>cF true 3 1 (s+1)&&cF false 3 1 (s+1))=true:=by decide +kernel
theorem yk:(cF true 3 2 1&&cF false 3 2 1)=true:=by decide +kernel
theorem yL:(cF true 3 3 1&&cF false 3 3 1)=true:=by decide +kernel
theorem yR:(cF true 4 1 1&&cF false 4 1 1)=true:=by decide +kernel
theorem yx:(cF true 4 2 1&&cF false 4 2 1)=true:=by decide +kernel
end Ev.K67
namespace Ev
open PySem
def W (C:Ctx) (n:Nat) (ss:List S) (δ:Dl) (Q:Fl→Prop):Prop:=∃ r,aT C n ss δ=some r∧Q r
section
variable {C:Ctx} {n:Nat} {s:S} {ss:List S} {δ δ1:Dl} {Q Q':Fl→Prop}
theorem W.nil (h:Q (.nx δ)):W C (n+1) [] δ Q:=⟨_,rfl,h⟩
theorem W.cons (h:evS C n s δ=some (.nx δ1)) (a:W C n ss δ1 Q):W C (n+1) (s::ss) δ Q:=by
 obtain ⟨r,b,c⟩:=a
 exact ⟨r,(aB _ _ _ _ _ h).trans b,c⟩
theorem W.ret {d:D} {e:E} (h:evE C n e δ=some (.tmp d,δ1)) (q:Q (.rt d δ1)):W C (n+2) (.ret e::ss) δ Q:=⟨_,bP _ _ _ _ _ h,q⟩
def BV (C:Ctx) (n:Nat) (ss:List S) (Q:Fl→Prop):Fl→Prop
 | .nx δ2=>W C n ss δ2 Q
 | r=>Q r
theorem W.blk {r:Option Fl} (h:evS C n s δ=r) (hw:∃ a,r=some a∧BV C n ss Q a):W C (n+1) (s::ss) δ Q:=by
 obtain ⟨a,rfl,b⟩:=hw
 cases a with
 | nx δ2 =>
  obtain ⟨c,e,f⟩:=b
  exact ⟨c,(aB _ _ _ _ _ h).trans e,f⟩
 | rt d δ2=>exact ⟨_,by simp only [aT,h],b⟩
 | bk δ2=>exact ⟨_,by simp only [aT,h],b⟩
 | ct δ2=>exact ⟨_,by simp only [aT,h],b⟩
theorem W.ifF {c:E} {a b:List S} (h:evT C n c δ=some (false,δ1)) (hw:W C n b δ1 (BV C (n+1) ss Q)):W C (n+2) (.ifs c a b::ss) δ Q:=W.blk (jr _ _ _ _ _ _ h) hw
theorem W.skip {c:E} {a:List S} (h:evT C (n+1) c δ=some (false,δ1)) (hw:W C (n+2) ss δ1 Q):W C (n+3) (.ifs c a []::ss) δ Q:=W.ifF h (W.nil hw)
theorem tI {α:Type} {set:D→Dl→Option Dl} {body:Dl→Option Fl} (I:List α→Dl→Prop) (R:Fl→Prop) (em:α→D) (all:List α)
  (h:∀ pre x post δ,all=pre++x::post→I pre δ→∃ δ1 r,set (em x) δ=some δ1∧body δ1=some r∧(match r with
   | .nx δ2=>I (pre++[x]) δ2
   | .ct δ2=>I (pre++[x]) δ2
   | .bk δ2=>R (.nx δ2)
   | .rt d δ2=>R (.rt d δ2))) (a:∀ δ,I all δ→R (.nx δ)) :
  ∀ (xs pre:List α) (δ:Dl),all=pre++xs→I pre δ→∃ r,forL set body (xs.map em) δ=some r∧R r
 | [],pre,δ,e,i=>⟨.nx δ,rfl,a δ (by rw [e,List.append_nil];exact i)⟩
 | x::xs,pre,δ,e,i=>by
  obtain ⟨δ1,r,b,c,f⟩:=h pre x xs δ e i
  cases r with
  | nx δ2 =>
   obtain ⟨g,j,k⟩:=tI (set:=set) (body:=body) I R em all h a xs (pre++[x]) δ2 (by rw [e];simp) f
   exact ⟨g,by simp only [List.map_cons,forL,b,c];exact j,k⟩
  | ct δ2 =>
   obtain ⟨g,j,k⟩:=tI (set:=set) (body:=body) I R em all h a xs (pre++[x]) δ2 (by rw [e];simp) f
   exact ⟨g,by simp only [List.map_cons,forL,b,c];exact j,k⟩
  | bk δ2=>exact ⟨.nx δ2,by simp only [List.map_cons,forL,b,c],f⟩
  | rt d δ2=>exact ⟨.rt d δ2,by simp only [List.map_cons,forL,b,c],f⟩
def Turn (I:Dl→Prop) (R:Fl→Prop):Fl→Prop
 | .nx δ2=>I δ2
 | .ct δ2=>I δ2
 | .bk δ2=>R (.nx δ2)
 | .rt d δ2=>R (.rt d δ2)
theorem W.for {α:Type} {tg:Tg} {k:ItK} {its:List E} {body:List S} (I:List α→Dl→Prop) (em:α→D) (xs:List α) (hi:cH C n k its δ=some (xs.map em,δ1)) (h0:I [] δ1)
  (h:∀ pre x post δ,xs=pre++x::post→I pre δ→∃ δ2,setT C.lock tg (em x) δ=some δ2∧W C n body δ2 (Turn (I (pre++[x])) (BV C (n+1) ss Q)))
  (d:∀ δ,I xs δ→W C (n+1) ss δ Q):W C (n+2) (.for_ tg k its body::ss) δ Q:=by
 obtain ⟨r,f,g⟩:=tI (set:=setT C.lock tg) (body:=aT C n body) I (BV C (n+1) ss Q) em xs (fun pre x post δ e i=>by
  obtain ⟨δ2,a,r,b,c⟩:=h pre x post δ e i
  refine ⟨δ2,r,a,b,?_⟩
  cases r<;>exact c) d xs [] δ1 rfl h0
 exact W.blk (dc _ _ _ _ _ _ _ hi f) ⟨r,rfl,g⟩
end
theorem W.run {C:Ctx} {f:Fn} {ds:List D} {d:D} {δ0:Dl} {outs:List D} (a:ds.length=f.ps) (h0:br f ds=δ0) (h:W C 100 f.body δ0 (fun r=>∃ δ,r=.rt d δ∧aF δ f.io 0 f.ps=some outs)):cU C f ds=some (d,outs):=by
 obtain ⟨r,b,δ,rfl,c⟩:=h
 exact bZ a h0 b c
def Gives (f:Fn) (P:D→List D→Prop):Fl→Prop
 | .rt d δ=>∃ outs,aF δ f.io 0 f.ps=some outs∧P d outs
 | .nx δ=>∃ outs,aF δ f.io 0 f.ps=some outs∧P .non outs
 | _=>False
theorem W.def {C:Ctx} {f:Fn} {ds:List D} {δ0:Dl} {P:D→List D→Prop} (e:ds.length=f.ps) (h0:br f ds=δ0) (h:W C 100 f.body δ0 (Gives f P)):∃ d outs,cU C f ds=some (d,outs)∧P d outs:=by
 obtain ⟨r,g,c⟩:=h
 subst h0
 cases r with
 | rt d δ =>
  obtain ⟨outs,a,b⟩:=c
  exact ⟨d,outs,bZ e rfl g a,b⟩
 | nx δ =>
  obtain ⟨outs,a,b⟩:=c
  refine ⟨.non,outs,?_,b⟩
  unfold cU
  rw [if_pos e,g]
  simp [a]
 | bk δ=>exact c.elim
 | ct δ=>exact c.elim
end Ev
namespace Ev.U
open PySem Ev Ev.Bu
theorem xk {α:Type} (em:α→D) (l:List α) (hi:Nat):cutD (l.map em) none (some (hi:Int))=(l.take hi).map em:=by
 have e:sIx (l.map em).length (l.map em).length (some (hi:Int))=min hi l.length:=by
  simp only [sIx,List.length_map]
  rw [if_neg (by omega)]
  omega
 unfold cutD
 rw [show sIx (l.map em).length 0 none=0 from rfl]
 rw [show (List.take (sIx (List.map em l).length (List.map em l).length (some ↑hi)-0) (List.drop 0 (List.map em l)))=List.take (sIx (List.map em l).length (List.map em l).length (some ↑hi)) (List.map em l) by simp]
 rw [e,← List.map_take,← List.take_eq_take_min]
end Ev.U
namespace Ev.K67
open PySem Ev Ev.Bu
def dM (ipt:Nat):List S:=[.asg (.nm 10) (.call ipt [(.sub (.var 5) (.var 7)),(.sub (.var 5) (.var 8))]),
  .ifs (.cmp .ne (.cmp .isn (.var 10) .non) (.cmp .eq (.var 7) (.var 8))) [.ret (.bl false)] [],
  .par [11,12] [(.sub (.var 6) (.var 7)),(.sub (.var 6) (.var 8))],
  .ifs (.band [(.cmp .isnotn (.var 10) .non),(.cmp .eq (.sub (.var 11) (.var 10)) (.sub (.var 12) (.var 10)))]) [.ret (.bl false)] [],
  .ifs (.band [(.cmp .isnotn (.var 10) .non),(.cmp .ne (.slice (.var 11) none (some (.var 10))) (.slice (.var 12) none (some (.var 10))))]) [.ret (.bl false)] []]
def tT (x:List (List Nat)):D:=.tup (x.map tN)
theorem zI (a b:List Nat):ia .eq (tN a) (tN b)=some (a==b):=by
 have c:=jx 59 a
 have d:=jx 59 b
 have e:=lL a b
 simp [plain,c,d,e]
section
variable {call:Nat→List D→Option (D × List D)} {io:Nat→List Nat}
theorem qj {ipt k:Nat} (a:io ipt=[]) {o p:Bool} {L:List (List Nat)} {N:List (List (List Nat))} {v:List Nat} {x:List (List Nat)} {a0 a1 a2 a3 a4 a9 a10 a11 a12:Option D} (hk:L[k]?=some v) (hn:N[k]?=some x) (c:call ipt [tN v,tN v]=some (.non,[])) (n:Nat) :
  aT ⟨call,io,[]⟩ (n+40) (dM ipt) [a0,a1,a2,a3,a4,some (.lst o (L.map tN)),some (.lst p (N.map tT)),some (.int k),some (.int k),a9,a10,a11,a12] =
   some (.nx [a0,a1,a2,a3,a4,some (.lst o (L.map tN)),some (.lst p (N.map tT)),some (.int k),some (.int k),a9,some .non,some (tT x),some (tT x)]):=by
 have l1:k<L.length:=(List.getElem?_eq_some_iff.mp hk).1
 have l2:k<N.length:=(List.getElem?_eq_some_iff.mp hn).1
 have i1:ixN L.length (k:Int)=some k:=cu l1
 have i2:ixN N.length (k:Int)=some k:=cu l2
 have r:=bN v
 have e:=aS x
 have s:=dP v
 have f:(tT x).fz=true:=by unfold tT;rw [fc];exact e
 have g1:(L.map tN)[k]?=some (tN v):=by rw [List.getElem?_map,hk];rfl
 have g2:(N.map tT)[k]?=some (tT x):=by rw [List.getElem?_map,hn];rfl
 have m1:(L.map tN).length=L.length:=List.length_map ..
 have g:(N.map tT).length=N.length:=List.length_map ..
 have t:isAtom (tT x)=false:=rfl
 have h:=aS L
 have i:fzs (N.map tT)=true:=oR fun d hd=>by
  obtain ⟨y,_,rfl⟩:=List.mem_map.mp hd
  unfold tT;rw [fc];exact aS y
 have j:(tN v).fz=true:=ee v
 have l:∀ z:Int,plain (.int z)=true:=fun _=>rfl
 have m:∀ b,plain (.bl b)=true:=fun _=>rfl
 have q:isNon .non=true:=rfl
 generalize u:tT x=X at *
 generalize w:tN v=V at *
 generalize L.map tN=LL at *
 generalize N.map tT=NN at *
 cases o<;>cases p<;>simp [dM,i1,i2,g1,g2,m1,g,h,i,j,f,c,a,eB,valOf,aP,l,m,q,ia]
theorem lB:∀ a:List (List Nat),eqs (a.map tN) (a.map tN)=true
 | []=>rfl
 | r::a=>by
  have h:(tN r).eq (tN r)=true:=by
   show eqs (r.map nt) (r.map nt)=true
   rw [lL]
   simp
  rw [List.map_cons]
  show ((tN r).eq (tN r)&&eqs (a.map tN) (a.map tN))=true
  rw [h,lB a]
  rfl
theorem rG:∀ (k:Nat) (a:List (List Nat)),oks (k+1) (a.map tN)=true
 | _,[]=>rfl
 | k,r::a=>by
  rw [List.map_cons]
  show ((tN r).ok (k+1)&&oks (k+1) (a.map tN))=true
  rw [rG k a]
  show (oks k (r.map nt)&&true)=true
  rw [jx k r]
  rfl
theorem yq (a:List (List Nat)):ia .ne (.tup (a.map tN)) (.tup (a.map tN))=some false:=by
 have b:=rG 58 a
 have c:=lB a
 generalize a.map tN=z at *
 simp [plain,b,c]
theorem wF (x:List (List Nat)) (p:Nat):cutD (x.map tN) none (some (p:Int))=(x.take p).map tN:=by
 exact Ev.U.xk tN x p
theorem rZ {ipt k j p:Nat} (m:io ipt=[]) (s:k≠j) {o q:Bool} {L:List (List Nat)} {N:List (List (List Nat))} {v v' r c:List Nat} {x a:List (List Nat)} {a0 a1 a2 a3 a4 a9 a10 a11 a12:Option D} (hk:L[k]?=some v) (i:L[j]?=some v') (hn:N[k]?=some x) (hm:N[j]?=some a)
  (l:x[p]?=some r) (e:a[p]?=some c) (t:r≠c) (ht:x.take p=a.take p) (lx:x.length≤1000) (u:call ipt [tN v,tN v']=some (.int p,[])) (n:Nat) :
  aT ⟨call,io,[]⟩ (n+40) (dM ipt) [a0,a1,a2,a3,a4,some (.lst o (L.map tN)),some (.lst q (N.map tT)),some (.int k),some (.int j),a9,a10,a11,a12] =
   some (.nx [a0,a1,a2,a3,a4,some (.lst o (L.map tN)),some (.lst q (N.map tT)),some (.int k),some (.int j),a9,some (.int p),some (tT x),some (tT a)]):=by
 have i1:ixN L.length (k:Int)=some k:=cu (List.getElem?_eq_some_iff.mp hk).1
 have i2:ixN N.length (k:Int)=some k:=cu (List.getElem?_eq_some_iff.mp hn).1
 have w:ixN L.length (j:Int)=some j:=cu (List.getElem?_eq_some_iff.mp i).1
 have B:ixN N.length (j:Int)=some j:=cu (List.getElem?_eq_some_iff.mp hm).1
 have C:ixN x.length (p:Int)=some p:=cu (List.getElem?_eq_some_iff.mp l).1
 have F:ixN a.length (p:Int)=some p:=cu (List.getElem?_eq_some_iff.mp e).1
 have G:=aS L
 have H:fzs (N.map tT)=true:=oR fun d hd=>by
  obtain ⟨y,_,rfl⟩:=List.mem_map.mp hd
  unfold tT;rw [fc];exact aS y
 have I:(tN v).fz=true:=ee v
 have f:(tN v').fz=true:=ee v'
 have fr:(tN r).fz=true:=ee r
 have g:(tN c).fz=true:=ee c
 have J:=aS x
 have h:=aS a
 have g1:(L.map tN)[k]?=some (tN v):=by rw [List.getElem?_map,hk];rfl
 have g2:(N.map tT)[k]?=some (tT x):=by rw [List.getElem?_map,hn];rfl
 have g3:(L.map tN)[j]?=some (tN v'):=by rw [List.getElem?_map,i];rfl
 have K:(N.map tT)[j]?=some (tT a):=by rw [List.getElem?_map,hm];rfl
 have M:(x.map tN)[p]?=some (tN r):=by rw [List.getElem?_map,l];rfl
 have O:(a.map tN)[p]?=some (tN c):=by rw [List.getElem?_map,e];rfl
 have m1:(L.map tN).length=L.length:=List.length_map ..
 have P:(N.map tT).length=N.length:=List.length_map ..
 have m3:(x.map tN).length=x.length:=List.length_map ..
 have Q:(a.map tN).length=a.length:=List.length_map ..
 have c1:=wF x p
 have c2:=wF a p
 rw [← ht] at c2
 have c3:=lB (x.take p)
 have c4:=aS (x.take p)
 have X:∀ z:Int,plain (.int z)=true:=fun _=>rfl
 have Y:∀ b,plain (.bl b)=true:=fun _=>rfl
 have nI:∀ z:Int,isNon (.int z)=false:=fun _=>rfl
 have kj:((k:Int)==(j:Int))=false:=by rw [beq_eq_false_iff_ne];omega
 have er:ia .eq (tN r) (tN c)=some false:=by
  rw [zI]
  simp [t]
 have en:ia .ne (.tup ((x.take p).map tN)) (.tup ((x.take p).map tN))=some false:=yq _
 unfold tT at *
 generalize hV:tN v=V at *
 generalize hV':tN v'=V' at *
 generalize hR:tN r=R at *
 generalize hR':tN c=R' at *
 generalize hZ:(x.take p).map tN=Z at *
 generalize L.map tN=LL at *
 generalize N.map (fun x=>D.tup (x.map tN))=NN at *
 generalize x.map tN=XX at *
 generalize a.map tN=XX' at *
 have iT:∀ z:List D,isAtom (.tup z)=false:=fun _=>rfl
 cases o<;>cases q<;>simp [dM,i1,i2,w,B,C,F,g1,g2,g3,K,M,O,m1,P,m3,Q,G,H,I,f,fr,g,J,h,c1,c2,c4,u,m,eB,valOf,aP,X,Y,nI,kj,er,en]
theorem tu {b:List Nat}:∀ {xs:List Nat} {k p:Nat},nO b k xs=some p→p<k+xs.length
 | [],_,_,h=>by simp [nO] at h
 | x::xs,k,p,h=>by
  unfold nO at h
  split at h
  ·have:=tu h
   rw [List.length_cons]
   omega
  ·cases h
   rw [List.length_cons]
   omega
theorem vC {ipt k j:Nat} (h:io ipt=[]) {o q:Bool} {L:List (List Nat)} {N:List (List (List Nat))} {v v':List Nat} {x a:List (List Nat)} {a0 a1 a2 a3 a4 a9 a10 a11 a12:Option D} (hk:L[k]?=some v) (c:L[j]?=some v') (hn:N[k]?=some x) (hm:N[j]?=some a)
  (w:x.length=v.length) (r:a.length=v.length) (lv:v.length≤1000) (b:call ipt [tN v,tN v']=some (optN (nO v' 0 v),[])) (hok:gj v v' x a (k==j)=true) (n:Nat) :
  ∃ d f g,aT ⟨call,io,[]⟩ (n+40) (dM ipt) [a0,a1,a2,a3,a4,some (.lst o (L.map tN)),some (.lst q (N.map tT)),some (.int k),some (.int j),a9,a10,a11,a12] =
   some (.nx [a0,a1,a2,a3,a4,some (.lst o (L.map tN)),some (.lst q (N.map tT)),some (.int k),some (.int j),a9,d,f,g]):=by
 unfold gj at hok
 cases hg:nO v' 0 v with
 | none =>
  rw [hg] at hok b
  have e:k=j:=by simpa using hok
  subst e
  rw [hk] at c
  cases c
  exact ⟨_,_,_,qj h hk hn b n⟩
 | some p =>
  rw [hg] at hok b
  simp only [Bool.and_eq_true,Bool.not_eq_true',beq_eq_false_iff_ne,ne_eq,beq_iff_eq] at hok
  obtain ⟨⟨s,i⟩,t⟩:=hok
  have u:=tu hg
  rw [Nat.zero_add] at u
  have p1:p<x.length:=by omega
  have p2:p<a.length:=by omega
  have l:x[p]?=some x[p]:=List.getElem?_eq_getElem p1
  have m:a[p]?=some a[p]:=List.getElem?_eq_getElem p2
  have d1:x.getD p []=x[p]:=by simp [List.getD,l]
  have d2:a.getD p []=a[p]:=by simp [List.getD,m]
  rw [d1,d2] at i
  exact ⟨_,_,_,rZ h s hk c hn hm l m i t (by omega) b n⟩
theorem yW {ipt k:Nat} (l:io ipt=[]) {o q:Bool} {L:List (List Nat)} {N:List (List (List Nat))} {v:List Nat} {x:List (List Nat)} {a0 a1 a2 a3 a4 a8 a9 a10 a11 a12:Option D} (hk:L[k]?=some v) (hn:N[k]?=some x) (B:L.length≤1000)
  (H:∀ j v',L[j]?=some v'→∃ d,N[j]?=some d∧d.length=v.length∧call ipt [tN v,tN v']=some (optN (nO v' 0 v),[])∧gj v v' x d (k==j)=true) (m:x.length=v.length) (lv:v.length≤1000) (n:Nat) :
  ∃ p a b c,evS ⟨call,io,[]⟩ (n+42) (.for_ (.nm 8) .range [(.bi .len [(.var 5)])] (dM ipt)) [a0,a1,a2,a3,a4,some (.lst o (L.map tN)),some (.lst q (N.map tT)),some (.int k),a8,a9,a10,a11,a12] =
   some (.nx [a0,a1,a2,a3,a4,some (.lst o (L.map tN)),some (.lst q (N.map tT)),some (.int k),p,a9,a,b,c]):=by
 have r:=aS L
 have m1:(L.map tN).length=L.length:=List.length_map ..
 have hi:cH ⟨call,io,[]⟩ (n+41) .range [(.bi .len [(.var 5)])] [a0,a1,a2,a3,a4,some (.lst o (L.map tN)),some (.lst q (N.map tT)),some (.int k),a8,a9,a10,a11,a12]=some ((List.range L.length).map nt,[a0,a1,a2,a3,a4,some (.lst o (L.map tN)),some (.lst q (N.map tT)),some (.int k),a8,a9,a10,a11,a12]):=by
  have g:=bH (t:=L.length) (by omega)
  rw [aZ] at g
  generalize L.map tN=LL at *
  cases o<;>simp [r,m1,g,show L.length≤cap by unfold cap;omega]
 obtain ⟨δ',f,t',a,b,c,s⟩:=dH (set:=setT [] (.nm 8)) (body:=aT ⟨call,io,[]⟩ (n+41) (dM ipt))
  (fun pre δ=>∃ t' a b c,δ=[a0,a1,a2,a3,a4,some (.lst o (L.map tN)),some (.lst q (N.map tT)),some (.int k),t',a9,a,b,c]) nt (List.range L.length)
  (fun pre j post δ eq i=>by
   obtain ⟨t',a,b,c,rfl⟩:=i
   have u:j<L.length:=by
    have:j∈List.range L.length:=by rw [eq];simp
    exact List.mem_range.mp this
   have h:=List.getElem?_eq_getElem u
   obtain ⟨d,w,y,z,f⟩:=H j _ h
   obtain ⟨c10,c11,c12,e⟩:=vC (call:=call) (io:=io) (a0:=a0) (a1:=a1) (a2:=a2) (a3:=a3) (a4:=a4) (a9:=a9) (a10:=a) (a11:=b) (a12:=c) (o:=o) (q:=q) l hk h hn w m y lv z f (n+1)
   exact ⟨[a0,a1,a2,a3,a4,some (.lst o (L.map tN)),some (.lst q (N.map tT)),some (.int k),some (nt j),a9,a,b,c],_,by simp,e,_,c10,c11,c12,rfl⟩) (List.range L.length) [] _ (by simp) ⟨a8,a10,a11,a12,rfl⟩
 subst s
 exact ⟨_,_,_,_,dc _ (n+41) _ _ _ _ _ hi f⟩
theorem uN {ipt:Nat} (m:io ipt=[]) {o q:Bool} {L:List (List Nat)} {N:List (List (List Nat))} {a0 a1 a2 a3 a4 a7 a8 a9 a10 a11 a12:Option D} (p:L.length≤1000)
  (G:∀ (k:Nat) (v:List Nat),L[k]?=some v→v.length≤1000∧∃ x,N[k]?=some x∧x.length=v.length∧∀ (j:Nat) (v':List Nat),L[j]?=some v'→∃ g,N[j]?=some g∧g.length=v.length∧call ipt [tN v,tN v']=some (optN (nO v' 0 v),[])∧gj v v' x g (k==j)=true) (n:Nat) :
  ∃ f d a b c,evS ⟨call,io,[]⟩ (n+44) (.for_ (.nm 7) .range [(.bi .len [(.var 5)])] [.for_ (.nm 8) .range [(.bi .len [(.var 5)])] (dM ipt)]) [a0,a1,a2,a3,a4,some (.lst o (L.map tN)),some (.lst q (N.map tT)),a7,a8,a9,a10,a11,a12] =
   some (.nx [a0,a1,a2,a3,a4,some (.lst o (L.map tN)),some (.lst q (N.map tT)),f,d,a9,a,b,c]):=by
 have r:=aS L
 have m1:(L.map tN).length=L.length:=List.length_map ..
 have hi:cH ⟨call,io,[]⟩ (n+43) .range [(.bi .len [(.var 5)])] [a0,a1,a2,a3,a4,some (.lst o (L.map tN)),some (.lst q (N.map tT)),a7,a8,a9,a10,a11,a12]=some ((List.range L.length).map nt,[a0,a1,a2,a3,a4,some (.lst o (L.map tN)),some (.lst q (N.map tT)),a7,a8,a9,a10,a11,a12]):=by
  have h:=bH (t:=L.length) (by omega)
  rw [aZ] at h
  generalize L.map tN=LL at *
  cases o<;>simp [r,m1,h,show L.length≤cap by unfold cap;omega]
 obtain ⟨δ',s,f,d,a,b,c,u⟩:=dH (set:=setT [] (.nm 7)) (body:=aT ⟨call,io,[]⟩ (n+43) [.for_ (.nm 8) .range [(.bi .len [(.var 5)])] (dM ipt)])
  (fun pre δ=>∃ f d a b c,δ=[a0,a1,a2,a3,a4,some (.lst o (L.map tN)),some (.lst q (N.map tT)),f,d,a9,a,b,c]) nt (List.range L.length)
  (fun pre k post δ eq i=>by
   obtain ⟨f,d,a,b,c,rfl⟩:=i
   have hk:k<L.length:=by
    have:k∈List.range L.length:=by rw [eq];simp
    exact List.mem_range.mp this
   have l:=List.getElem?_eq_getElem hk
   obtain ⟨lv,x,w,y,H⟩:=G k _ l
   obtain ⟨c8,c10,c11,c12,e⟩:=yW (call:=call) (io:=io) (a0:=a0) (a1:=a1) (a2:=a2) (a3:=a3) (a4:=a4) (a8:=d) (a9:=a9) (a10:=a) (a11:=b) (a12:=c) (o:=o) (q:=q) m l w p H y lv n
   exact ⟨[a0,a1,a2,a3,a4,some (.lst o (L.map tN)),some (.lst q (N.map tT)),some (nt k),d,a9,a,b,c],_,by simp,(aB _ (n+42) _ _ _ e).trans (fP _ (n+41) _),_,c8,c10,c11,c12,rfl⟩) (List.range L.length) [] _ (by simp) ⟨a7,a8,a10,a11,a12,rfl⟩
 subst u
 exact ⟨_,_,_,_,_,dc _ (n+43) _ _ _ _ _ hi s⟩
end
end Ev.K67
namespace Ev.K67
open PySem Ev Ev.Bu
theorem iF {it:Bool} {W m size:Nat} (h:cF it W m size=true) :
  (tS it W m size).length=W*(m+1)∧(ldM W m).length=(m+1) ^ W-m ^ W∧distinct ((ldM W m).map (nxM (tS it W m size)))=true∧(∀ v∈ldM W m,v.length=W∧∀ x∈v,x≤m) ∧
   ∀ (k j:Nat) (v v':List Nat),(ldM W m)[k]?=some v→(ldM W m)[j]?=some v'→gj v v' (nxM (tS it W m size) v) (nxM (tS it W m size) v') (k==j)=true:=by
 unfold cF at h
 simp only [Bool.and_eq_true,beq_iff_eq,List.all_eq_true,decide_eq_true_eq] at h
 obtain ⟨⟨⟨⟨b,c⟩,d⟩,e⟩,f⟩:=h
 refine ⟨b,c,d,fun v g=>e v g,fun k j v v' hk a=>?_⟩
 have i:=(List.getElem?_eq_some_iff.mp hk).1
 have l:=(List.getElem?_eq_some_iff.mp a).1
 have:=f k (List.mem_range.mpr i) j (List.mem_range.mpr l)
 simpa [List.getD,hk,a] using this
theorem yT {it:Bool} {W m size:Nat} (h:cF it W m size=true) {v:List Nat} (a:v∈ldM W m):∀ (w x:Nat),v[w]?=some x→x*v.length+w<(tS it W m size).length:=by
 obtain ⟨b,_,_,c,_⟩:=iF h
 obtain ⟨l,le⟩:=c v a
 intro w x e
 rw [b,l]
 have lw:w<W:=by rw [← l];exact (List.getElem?_eq_some_iff.mp e).1
 have d:x≤m:=le x (List.mem_of_getElem? e)
 have:x*W≤m*W:=Nat.mul_le_mul_right _ d
 have f:W*(m+1)=m*W+W:=by rw [Nat.mul_succ,Nat.mul_comm]
 omega
theorem wY (rows:List (List Nat)) (v:List Nat):(nxM rows v).length=v.length:=by simp [nxM]
theorem tP:∀ (it:Bool) (W m size:Nat),(W,m)∈[(1,3),(2,1),(2,2),(2,3),(3,1),(3,2),(3,3),(4,1),(4,2)]→1≤size→size≤12 / (W*(m+1))→cF it W m size=true:=by
 intro it W m size hm a b
 have k1:=xa
 have k2:=ym
 have k3:=y6
 have k4:=yj
 have k5:=yO
 have k6:=yk
 have k7:=yL
 have k8:=yR
 have k9:=yx
 simp only [List.all_eq_true,List.mem_range,Bool.and_eq_true] at k1 k2 k3 k4 k5 k6 k7 k8 k9
 simp only [List.mem_cons,Prod.mk.injEq,List.not_mem_nil,or_false] at hm
 obtain ⟨s,rfl⟩:∃ s,size=s+1:=⟨size-1,by omega⟩
 rcases hm with ⟨rfl,rfl⟩ | ⟨rfl,rfl⟩ | ⟨rfl,rfl⟩ | ⟨rfl,rfl⟩ | ⟨rfl,rfl⟩ | ⟨rfl,rfl⟩ | ⟨rfl,rfl⟩ | ⟨rfl,rfl⟩ | ⟨rfl,rfl⟩
 ·have:=k1 s (by omega);cases it;exact this.2;exact this.1
 ·have:=k2 s (by omega);cases it;exact this.2;exact this.1
 ·have:=k3 s (by omega);cases it;exact this.2;exact this.1
 ·obtain rfl:s=0:=by omega
  cases it;exact k4.2;exact k4.1
 ·have:=k5 s (by omega);cases it;exact this.2;exact this.1
 ·obtain rfl:s=0:=by omega
  cases it;exact k6.2;exact k6.1
 ·obtain rfl:s=0:=by omega
  cases it;exact k7.2;exact k7.1
 ·obtain rfl:s=0:=by omega
  cases it;exact k8.2;exact k8.1
 ·obtain rfl:s=0:=by omega
  cases it;exact k9.2;exact k9.1
end Ev.K67
namespace Ev.K67
open PySem Ev Ev.Bu
theorem w5 {set:D→Dl→Option Dl} {test:Dl→Option (Bool × Dl)} {elt:Dl→Option (D × Dl)} {own:List Nat} {f:D→D} {st:Bool→Dl} :
  ∀ (xs acc:List D) (o:Bool),(∀ x∈xs,∀ o,∃ δ1 δ2 δ3 o',set x (st o)=some δ1∧test δ1=some (true,δ2)∧elt δ2=some (f x,δ3)∧bu δ3 own=st o')→acc.length+xs.length≤cap →
   ∃ o',lcL set test elt own xs acc (st o)=some (acc++xs.map f,st o')
 | [],acc,o,_,_=>⟨o,by simp [lcL]⟩
 | x::xs,acc,o,h,a=>by
  obtain ⟨δ1,δ2,δ3,o1,b,c,d,g⟩:=h x (by simp) o
  rw [List.length_cons] at a
  obtain ⟨o2,e⟩:=w5 (set:=set) (test:=test) (elt:=elt) (own:=own) (f:=f) (st:=st) xs (acc++[f x]) o1 (fun y i=>h y (by simp [i])) (by simp;omega)
  have lt:acc.length<cap:=by omega
  refine ⟨o2,?_⟩
  simp only [lcL,b,c,d,g,lt,decide_true,if_true,e]
  simp
section
variable {call:Nat→List D→Option (D × List D)} {io:Nat→List Nat}
theorem y5 {inx:Nat} (hi:io inx=[]) {rows L:List (List Nat)} {o p:Bool} {a0 a1 a2 a3 a6 a7 a8 a10 a11 a12:Option D} (r:L.length≤1000) (a:∀ v∈L,call inx [.lst false (rows.map tN),tN v]=some (tT (nxM rows v),[])) (n:Nat) :
  ∃ o',evE ⟨call,io,[]⟩ (n+40) (.lc (.call inx [(.var 4),(.var 9)]) (.nm 9) .val [(.var 5)] [] [9]) [a0,a1,a2,a3,some (.lst o (rows.map tN)),some (.lst p (L.map tN)),a6,a7,a8,none,a10,a11,a12] =
   some (.tmp (.lst true ((L.map (nxM rows)).map tT)),[a0,a1,a2,a3,some (.lst o' (rows.map tN)),some (.lst false (L.map tN)),a6,a7,a8,none,a10,a11,a12]):=by
 have b:=aS L
 have c:=eh L
 have g:=aS rows
 have h:=eh rows
 have hit:cH ⟨call,io,[]⟩ (n+39) .val [(.var 5)] [a0,a1,a2,a3,some (.lst o (rows.map tN)),some (.lst p (L.map tN)),a6,a7,a8,none,a10,a11,a12]=some (L.map tN,[a0,a1,a2,a3,some (.lst o (rows.map tN)),some (.lst false (L.map tN)),a6,a7,a8,none,a10,a11,a12]):=by
  generalize rows.map tN=RR at *
  cases p<;>simp [b,c]
 obtain ⟨o',i⟩:=w5 (set:=setT [] (.nm 9)) (test:=bR ⟨call,io,[]⟩ (n+39) []) (elt:=evV ⟨call,io,[]⟩ (n+39) (.call inx [(.var 4),(.var 9)])) (own:=[9]) (f:=fun d=>match d with
   | .tup xs=>tT (nxM rows (xs.map fun y=>match y with
    | .int z=>z.toNat
    | _=>0))
   | _=>.non) (st:=fun o=>[a0,a1,a2,a3,some (.lst o (rows.map tN)),some (.lst false (L.map tN)),a6,a7,a8,none,a10,a11,a12]) (L.map tN) [] o (fun x j o=>by
  obtain ⟨v,k,rfl⟩:=List.mem_map.mp j
  have C:=a v k
  have l:(tN v).fz=true:=ee v
  have ev:(v.map nt).map (fun y=>match y with
    | D.int z=>z.toNat
    | _=>0)=v:=by
   rw [List.map_map]
   exact (List.map_congr_left fun z _=>rfl).trans (List.map_id v)
  have m:(tT (nxM rows v)).fz=true:=by unfold tT;rw [fc];exact aS _
  have q:isAtom (tT (nxM rows v))=false:=rfl
  refine ⟨[a0,a1,a2,a3,some (.lst o (rows.map tN)),some (.lst false (L.map tN)),a6,a7,a8,some (tN v),a10,a11,a12],[a0,a1,a2,a3,some (.lst o (rows.map tN)),some (.lst false (L.map tN)),a6,a7,a8,some (tN v),a10,a11,a12],[a0,a1,a2,a3,some (.lst false (rows.map tN)),some (.lst false (L.map tN)),a6,a7,a8,some (tN v),a10,a11,a12],false,by simp,rfl,?_,rfl⟩
  show _=some (tT (nxM rows ((v.map nt).map _)),_)
  rw [ev]
  generalize tT (nxM rows v)=X at *
  generalize tN v=V at *
  generalize rows.map tN=RR at *
  generalize L.map tN=LL at *
  cases o<;>simp [hi,C,l,m,q,g,h,eB,valOf,aP]) (by rw [List.length_map,List.length_nil];unfold cap;omega)
 refine ⟨o',?_⟩
 refine (oB _ (n+39) _ _ _ _ _ _ _ hit rfl i).trans ?_
 rw [List.nil_append,List.map_map,List.map_map]
 have e:(L.map ((fun d=>match d with
   | .tup xs=>tT (nxM rows (xs.map fun y=>match y with
    | .int z=>z.toNat
    | _=>0))
   | _=>.non)∘tN))=L.map (tT∘nxM rows):=by
  refine List.map_congr_left fun v _=>?_
  show tT (nxM rows ((v.map nt).map _))=tT (nxM rows v)
  congr 2
  rw [List.map_map]
  exact (List.map_congr_left fun z _=>rfl).trans (List.map_id v)
 rw [e]
 rfl
end
end Ev.K67
namespace Ev.K67
open PySem Ev Ev.Bu
def aJ (ib il ih ipt inx:Nat):Fn:={ n:=13,ps:=4,io:=[],body:=[.asg (.nm 4) (.call ib [(.tup [(.var 0),(.var 1),(.var 3),(.str (Str.ofString "short"))]),(.bin .mul (.bin .mul (.var 1) (.bin .add (.var 2) (.int 1))) (.var 3))]),
  .asg (.nm 5) (.call il [(.var 1),(.var 2)]),
  .asg (.nm 6) (.lc (.call inx [(.var 4),(.var 9)]) (.nm 9) .val [(.var 5)] [] [9]),
  .ifs (.bor [(.cmp .ne (.bi .len [(.var 4)]) (.bin .mul (.var 1) (.bin .add (.var 2) (.int 1)))),(.cmp .ne (.bi .lset [(.var 6)]) (.bi .len [(.var 5)])),(.cmp .ne (.call ih [(.var 1),(.var 2)]) (.bi .len [(.var 5)]))]) [.ret (.bl false)] [],
  .for_ (.nm 7) .range [(.bi .len [(.var 5)])] [.for_ (.nm 8) .range [(.bi .len [(.var 5)])] (dM ipt)],
  .ret (.bl true)] }
section
variable {call:Nat→List D→Option (D × List D)} {io:Nat→List Nat}
theorem yQ {ib il ih ipt inx:Nat} (r:io ib=[]) (s:io il=[]) (u:io ih=[]) (w:io ipt=[]) (B:io inx=[]) {way:Str} {W m size:Nat} {rows L:List (List Nat)} (C:W≤10) (hm:m≤10) (R:size≤10) (g:L.length≤1000) (F:rows.length=W*(m+1))
  (H:call ib [.tup [.str way,.int W,.int size,.str (Str.ofString "short")],.int ((W:Int)*((m:Int)+1)*(size:Int))]=some (.lst true (rows.map tN),[]))
  (cl:call il [.int W,.int m]=some (.lst true (L.map tN),[])) (ch:call ih [.int W,.int m]=some (.int L.length,[])) (I:∀ v∈L,call inx [.lst false (rows.map tN),tN v]=some (tT (nxM rows v),[]))
  (hs:biD .lset [.lst true ((L.map (nxM rows)).map tT)]=some (.int L.length))
  (G:∀ (k:Nat) (v:List Nat),L[k]?=some v→v.length≤1000∧∃ x,(L.map (nxM rows))[k]?=some x∧x.length=v.length∧∀ (j:Nat) (v':List Nat),L[j]?=some v'→∃ e,(L.map (nxM rows))[j]?=some e∧e.length=v.length∧call ipt [tN v,tN v']=some (optN (nO v' 0 v),[])∧gj v v' x e (k==j)=true) :
  cU ⟨call,io,[]⟩ (aJ ib il ih ipt inx) [.str way,.int W,.int m,.int size]=some (.bl true,[]):=by
 obtain ⟨o,J⟩:=y5 (call:=call) (io:=io) (inx:=inx) (rows:=rows) (L:=L) (o:=true) (p:=true) (a0:=some (.str way)) (a1:=some (.int W)) (a2:=some (.int m)) (a3:=some (.int size)) (a6:=none) (a7:=none) (a8:=none) (a10:=none) (a11:=none) (a12:=none) B g I 55
 obtain ⟨h,i,a,b,c,K⟩:=uN (call:=call) (io:=io) (ipt:=ipt) (o:=false) (q:=true) (L:=L) (N:=L.map (nxM rows)) (a0:=some (.str way)) (a1:=some (.int W)) (a2:=some (.int m)) (a3:=some (.int size)) (a4:=some (.lst o (rows.map tN))) (a7:=none) (a8:=none) (a9:=none) (a10:=none) (a11:=none) (a12:=none) w g G 51
 have m1:(L.map tN).length=L.length:=List.length_map ..
 have l:(rows.map tN).length=W*(m+1):=by rw [List.length_map,F]
 have M:=aS L
 have O:=aS rows
 have P:fzs ((L.map (nxM rows)).map tT)=true:=oR fun d hd=>by
  obtain ⟨y,_,rfl⟩:=List.mem_map.mp hd
  unfold tT;rw [fc];exact aS y
 have V:W*(m+1)≤10*11:=Nat.mul_le_mul C (by omega)
 have s1:small64 ((m:Int)+1)=true:=by
  have:=cV (t:=m+1) (by omega)
  simpa using this
 have s2:small64 (W:Int)=true:=cV (by omega)
 have s3:small64 (size:Int)=true:=cV (by omega)
 have s4:small64 (m:Int)=true:=cV (by omega)
 have Q:∀ z:Int,plain (.int z)=true:=fun _=>rfl
 have n:∀ (o:Bool) (z:List D),isAtom (.lst o z)=false:=fun _ _=>rfl
 generalize X:(L.map (nxM rows)).map tT=TT at *
 generalize hLL:L.map tN=LL at *
 generalize hRR:rows.map tN=RR at *
 have c1:RR.length≤cap:=by rw [l];unfold cap;omega
 have c2:LL.length≤cap:=by rw [m1];unfold cap;omega
 refine Ev.W.run (f:=aJ ib il ih ipt inx) (δ0:=[some (.str way),some (.int W),some (.int m),some (.int size),none,none,none,none,none,none,none,none,none]) rfl rfl ?_
 refine Ev.W.cons (δ1:=[some (.str way),some (.int W),some (.int m),some (.int size),some (.lst true RR),none,none,none,none,none,none,none,none]) (by simp [r,H,s1,s2,s3,eB,valOf,aP,n,show 4≤cap by decide];done) ?_
 refine Ev.W.cons (δ1:=[some (.str way),some (.int W),some (.int m),some (.int size),some (.lst true RR),some (.lst true LL),none,none,none,none,none,none,none]) (by simp [s,cl,eB,valOf,aP,n];done) ?_
 refine Ev.W.cons (δ1:=[some (.str way),some (.int W),some (.int m),some (.int size),some (.lst o RR),some (.lst false LL),some (.lst true TT),none,none,none,none,none,none]) (by simp [J];done) ?_
 refine Ev.W.skip (δ1:=[some (.str way),some (.int W),some (.int m),some (.int size),some (.lst o RR),some (.lst false LL),some (.lst true TT),none,none,none,none,none,none]) (by cases o<;>simp [u,ch,hs,m1,l,M,O,P,c1,c2,s1,s2,s4,Q,eB,valOf,aP];done) ?_
 refine Ev.W.cons (δ1:=[some (.str way),some (.int W),some (.int m),some (.int size),some (.lst o RR),some (.lst false LL),some (.lst true TT),h,i,none,a,b,c]) K ?_
 exact Ev.W.ret (d:=.bl true) (δ1:=[some (.str way),some (.int W),some (.int m),some (.int size),some (.lst o RR),some (.lst false LL),some (.lst true TT),h,i,none,a,b,c]) (by simp;done) ⟨_,rfl,rfl⟩
end
end Ev.K67
namespace Ev.K67
open PySem Ev Ev.Bu
def zr (x:List (List Nat)):List (List Int):=x.map fun v=>v.map fun (n:Nat)=>(n:Int)
theorem gA:∀ {a b:List Nat},(a.map fun (n:Nat)=>(n:Int))=(b.map fun (n:Nat)=>(n:Int))→a=b
 | [],[],_=>rfl
 | [],_::_,e=>nomatch e
 | _::_,[],e=>nomatch e
 | x::a,y::b,e=>by
  simp only [List.map_cons,List.cons.injEq,Int.natCast_inj] at e
  rw [e.1,gA e.2]
theorem wL:∀ {a b:List (List Nat)},zr a=zr b→a=b
 | [],[],_=>rfl
 | [],_::_,e=>nomatch e
 | _::_,[],e=>nomatch e
 | x::a,y::b,e=>by
  unfold zr at e
  rw [List.map_cons,List.map_cons,List.cons.injEq] at e
  rw [gA e.1,wL (show zr a=zr b from e.2)]
theorem tw (v:List Nat):qi (tN v)=some (v.map fun (n:Nat)=>(n:Int)):=iV v
theorem jc:∀ x:List (List Nat),di (x.map tN)=some (zr x)
 | []=>rfl
 | v::x=>by
  have e:=tw v
  simp only [List.map_cons,di,e,jc x,Option.map_some]
  rfl
theorem sZ (x:List (List Nat)):tG (tT x)=some (zr x):=jc x
theorem iG:∀ N:List (List (List Nat)),cA (N.map tT)=some (N.map zr)
 | []=>rfl
 | x::N=>by
  have e:=sZ x
  simp only [List.map_cons,cA,e,iG N,Option.map_some]
theorem gX:∀ {N:List (List (List Nat))},distinct N=true→N.Nodup
 | [],_=>List.nodup_nil
 | x::N,h=>by
  unfold distinct at h
  rw [Bool.and_eq_true,Bool.not_eq_true'] at h
  refine List.nodup_cons.mpr ⟨fun hm=>?_,gX h.2⟩
  have:=List.contains_iff_mem.mpr hm
  rw [h.1] at this
  cases this
theorem wg:∀ (l acc:List (List (List Int))),(acc++l).Nodup→l.foldl oneMore acc=acc++l
 | [],acc,_=>by simp
 | k::l,acc,h=>by
  have e:oneMore acc k=acc++[k]:=by
   unfold oneMore
   rw [if_neg]
   intro z
   obtain ⟨y,a,e⟩:=List.any_eq_true.mp z
   exact (List.nodup_append.mp h).2.2 y a k (by simp) (of_decide_eq_true e)
  rw [List.foldl_cons,e,wg l _ (by simpa using h)]
  simp
theorem told_set {N:List (List (List Nat))} (h:distinct N=true) (a:N.length≤76) (h0:N≠[]) (o:Bool):biD .lset [.lst o (N.map tT)]=some (.int N.length):=by
 have nd:(N.map zr).Nodup:=List.pairwise_map.mpr ((gX h).imp fun ne e=>ne (wL e))
 have m:bf (N.map zr)=N.map zr:=wg (N.map zr) [] (by simpa using nd)
 have b:intsOf (N.map tT)=none:=by cases N with | nil=>exact absurd rfl h0 | cons x N=>rfl
 have s0:strsOf (N.map tT)=none:=by cases N with | nil=>exact absurd rfl h0 | cons x N=>rfl
 rw [vR,b,s0,iG]
 simp only [List.length_map,m]
 rw [if_pos (Nat.ble_eq.mpr a)]
def nine:List (Nat × Nat):=[(1,3),(2,1),(2,2),(2,3),(3,1),(3,2),(3,3),(4,1),(4,2)]
theorem eZ:∀ p∈nine,1≤p.1∧p.1≤4∧1≤p.2∧p.2≤3∧1≤12 / (p.1*(p.2+1))∧(p.2+1) ^ p.1-p.2 ^ p.1≤65∧1≤(p.2+1) ^ p.1-p.2 ^ p.1∧p.2 ^ p.1≤(p.2+1) ^ p.1:=by decide +kernel
theorem Fz:∀ p∈nine,∀ k,k≤p.1→(p.2+1) ^ k≤9000:=by
 intro p a k hk
 obtain ⟨_,b,_,c,_⟩:=eZ p a
 calc (p.2+1) ^ k≤4 ^ k:=Nat.pow_le_pow_left (by omega) k
  _≤4 ^ 4:=Nat.pow_le_pow_right (by omega) (by omega)
  _≤9000:=by decide
def ze (b:Bool):Str:=if b then cj else Str.ofString "parts"
def aV (it iof ione:Nat):Fn:={ n:=4,ps:=1,io:=[0],body:=[.for_ (.tp [1,2]) .val [(.tup [(.tup [(.int 1),(.int 3)]),(.tup [(.int 2),(.int 1)]),(.tup [(.int 2),(.int 2)]),(.tup [(.int 2),(.int 3)]),(.tup [(.int 3),(.int 1)]),(.tup [(.int 3),(.int 2)]),(.tup [(.int 3),(.int 3)]),(.tup [(.int 4),(.int 1)]),(.tup [(.int 4),(.int 2)])])] [.asg (.nm 3) (.bin .fdiv (.int 12) (.bin .mul (.var 1) (.bin .add (.var 2) (.int 1)))),
  .ifs (.bnot (.call ione [(.call iof [(.var 0),(.lst [(.str (Str.ofString "items")),(.str (Str.ofString "parts"))])]),(.var 1),(.var 2),(.bin .add (.int 1) (.call it [(.var 0),(.bi .min2 [(.var 3),(.int 5)])]))])) [.ret (.bl false)] []],
  .ret (.bl true)] }
def wU (p:Nat × Nat):D:=.tup [.int p.1,.int p.2]
section
variable {call:Nat→List D→Option (D × List D)} {io:Nat→List Nat}
def EH (call:Nat→List D→Option (D × List D)) (ione:Nat):Prop:=∀ (b:Bool) (p:Nat × Nat) (size:Nat),p∈nine→1≤size→size≤12 / (p.1*(p.2+1))→call ione [.str (ze b),.int p.1,.int p.2,.int size]=some (.bl true,[])
theorem sJ {it g a:Nat} (hit:io it=[0]) (n:io g=[0]) (F:io a=[]) (TS:wW call it) (G:EO call g) (o:EH call a) {d:D} {c:Int} (v:Box c d) (R:c≤1000) :
  ∃ d',cU ⟨call,io,[0]⟩ (aV it g a) [d]=some (.bl true,[d'])∧Box (c+18) d':=by
 obtain ⟨dd,outs,e,r1,d',H,I⟩:∃ dd outs,cU ⟨call,io,[0]⟩ (aV it g a) [d]=some (dd,outs)∧dd=.bl true∧∃ d',outs=[d']∧Box (c+18) d':=by
  refine Ev.W.def (f:=aV it g a) (δ0:=[some d,none,none,none]) rfl rfl ?_
  refine Ev.W.for (α:=Nat × Nat) (fun pre δ=>∃ d1 a1 a2 a3,δ=[some d1,a1,a2,a3]∧Box (c+2*pre.length) d1) wU nine (δ1:=[some d,none,none,none]) ?_ ⟨d,none,none,none,rfl,by simpa using v⟩ ?_ ?_
  ·obtain ⟨x0,rfl,_,_⟩:=gZ v
   simp
   rfl
  ·rintro pre ⟨W,m⟩ post δ eq ⟨d1,a1,a2,a3,rfl,i⟩
   have w:(W,m)∈nine:=by rw [eq];simp
   have hlen:pre.length+(post.length+1)=9:=by
    have:=congrArg List.length eq
    simpa [nine] using this.symm
   obtain ⟨g1,g2,g3,J,x,_⟩:=eZ _ w
   simp only at g1 g2 g3 J x
   refine ⟨[some d1,some (.int W),some (.int m),a3],by simp [wU],?_⟩
   obtain ⟨r,y,d2,K,L,z⟩:=G d1 _ true [.str (Str.ofString "items"),.str (Str.ofString "parts")] i (by omega) (by simp) (by simp) rfl
   obtain ⟨b,rfl⟩:∃ b,y=.str (ze b):=by
    have:y∈[D.str (Str.ofString "items"),.str (Str.ofString "parts")]:=List.mem_of_getElem? L
    simp only [List.mem_cons,List.not_mem_nil,or_false] at this
    rcases this with h | h
    ·exact ⟨true,h⟩
    ·exact ⟨false,h⟩
   obtain ⟨q,j⟩:∃ q,12 / (W*(m+1))=q:=⟨_,rfl⟩
   rw [j] at x
   have M:q≤12:=by rw [← j];exact Nat.div_le_self _ _
   obtain ⟨k,m1,V,m3⟩:∃ k:Nat,1≤k∧k≤q∧(if (5:Int)<(q:Int) then (5:Int) else (q:Int))=(k:Int):=⟨min q 5,by omega,by omega,by split<;>omega⟩
   obtain ⟨t,d3,N,lt,B⟩:=TS d2 _ k z (by omega) (by omega) (by omega)
   have C:=o b (W,m) (1+t) w (by omega) (by rw [j];omega)
   simp only at C
   have O:(12:Int).fdiv ((W:Int)*((m:Int)+1))=(q:Int):=by
    have:(W:Int)*((m:Int)+1)=((W*(m+1):Nat):Int):=by push_cast;rfl
    rw [this,← j]
    rw [Int.fdiv_eq_ediv_of_nonneg _ (by omega)]
    rfl
   have p:(12:Int) / ((W:Int)*((m:Int)+1))=(q:Int):=by
    have:(W:Int)*((m:Int)+1)=((W*(m+1):Nat):Int):=by push_cast;rfl
    rw [this,← j]
    rfl
   have ps:(0:Int)<(W:Int)*((m:Int)+1):=Int.mul_pos (by omega) (by omega)
   have s1:small64 ((m:Int)+1)=true:=by
    have:=cV (t:=m+1) (by omega)
    simpa using this
   have s2:small64 (W:Int)=true:=cV (by omega)
   have l:(W:Int)*((m:Int)+1)<1073741824:=by
    have h:W*(m+1)≤4*4:=Nat.mul_le_mul g2 (by omega)
    have e:(W:Int)*((m:Int)+1)=((W*(m+1):Nat):Int):=by push_cast;rfl
    rw [e]
    omega
   obtain ⟨u,P⟩:∃ u,1+t=u:=⟨_,rfl⟩
   have ad:(1:Int)+(t:Int)=(u:Int):=by omega
   rw [P] at C
   obtain ⟨s,rfl,_,_⟩:=gZ i
   obtain ⟨x2,rfl,_,_⟩:=gZ z
   obtain ⟨Q,rfl,_,_⟩:=gZ B
   refine Ev.W.cons (δ1:=[some (.lst true s),some (.int W),some (.int m),some (.int q)]) (by simp [s1,s2,ps,O,p,l];done) ?_
   refine Ev.W.skip (δ1:=[some (.lst true Q),some (.int W),some (.int m),some (.int q)]) (by simp [hit,n,F,K,N,C,m3,ad,eB,valOf,aP,show 2≤cap by decide];done) (Ev.W.nil ⟨_,_,_,_,rfl,B.mono (by simp;omega)⟩)
  ·rintro δ ⟨d1,a1,a2,a3,rfl,i⟩
   refine Ev.W.ret (d:=.bl true) (δ1:=[some d1,a1,a2,a3]) (by simp;done) ?_
   obtain ⟨s,rfl,_,fl⟩:=gZ i
   refine ⟨[.lst true s],by simp [aV,aF,bh,fl],rfl,_,rfl,i.mono (by simp [nine])⟩
 subst r1 H
 exact ⟨d',e,I⟩
end
end Ev.K67
namespace Ev.Prog
open PySem PySem.Spec PyProof.Rows L2 Ev
def aR:Fn:={ n:=2,ps:=1,io:=[],body:=[.ret (.ite (.isi (.var 0) [.list,.tuple]) (.bi .tuple1 [(.lc (.call 0 [(.var 1)]) (.nm 1) .val [(.var 0)] [] [1])]) (.var 0))] }
def eA:Fn:={ n:=6,ps:=2,io:=[],body:=[.asg (.nm 2) (.lst [(.tup [])]),
  .for_ (.nm 3) .range [(.var 0)] [.asg (.nm 2) (.lc2 (.disS false [] (.var 4) [(.var 5)]) (.nm 4) .val [(.var 2)] (.nm 5) .range [(.bin .add (.var 1) (.int 1))] [4,5] [5])],
  .ret (.lc (.var 4) (.nm 4) .val [(.var 2)] [(.cmp .isin (.int 0) (.var 4))] [4])] }
def aM:Fn:={ n:=5,ps:=2,io:=[],body:=[.par [3,4] [(.int 1),(.int 1)],
  .for_ (.nm 2) .range [(.var 0)] [.par [3,4] [(.bin .mul (.var 3) (.bin .add (.var 1) (.int 1))),(.bin .mul (.var 4) (.var 1))]],
  .ret (.bin .sub (.var 3) (.var 4))] }
def bz:Fn:={ n:=5,ps:=2,io:=[],body:=[.asg (.nm 2) (.call 0 [(.var 1)]),
  .for_ (.tp [3,4]) .enum [(.call 0 [(.var 0)])] [.ifs (.cmp .ne (.var 4) (.sub (.var 2) (.var 3))) [.ret (.var 3)] []],
  .ret .non] }
def kq:Fn:={ n:=6,ps:=3,io:=[],body:=[.asg (.nm 3) (.lc (.bi .tuple1 [(.slice (.var 0) (some (.var 4)) (some (.bin .add (.var 4) (.var 1))))]) (.nm 4) .range [(.int 0),(.bi .len [(.var 0)]),(.var 1)] [] [4]),
  .ret (.lc (.var 5) (.nm 5) .val [(.var 3)] [(.bor [(.cmp .eq (.bi .len [(.var 5)]) (.var 1)),(.cmp .eq (.var 2) (.str (Str.ofString "short")))])] [5])] }
def bX:Fn:={ n:=4,ps:=3,io:=[],body:=[.ifs (.cmp .eq (.var 0) (.str (Str.ofString "items"))) [.ret (.lc (.bi .lrange [(.var 3),(.var 2),(.var 1)]) (.nm 3) .range [(.var 1)] [] [3])] [],
  .ret (.lc (.bi .lrange [(.bin .fdiv (.bin .mul (.var 3) (.var 2)) (.var 1)),(.bin .fdiv (.bin .mul (.bin .add (.var 3) (.int 1)) (.var 2)) (.var 1))]) (.nm 3) .range [(.var 1)] [] [3])] }
def bJ:Fn:={ n:=11,ps:=2,io:=[],body:=[.asg (.tp [3,4,5,6]) (.call 0 [(.var 0)]),
  .ifs (.cmp .eq (.var 3) (.str (Str.ofString "turns"))) [.ret (.call 4 [(.bi .lrange [(.var 1)]),(.var 5),(.var 6)])] [],
  .par [7,8] [(.lc (.call 4 [(.var 9),(.var 5),(.var 6)]) (.nm 9) .val [(.call 5 [(.var 3),(.var 4),(.var 1)])] [] [9]),(.lst [])],
  .for_ (.nm 2) .range [(.var 1)] [.expr (.meth .extend (.var 8) [(.lc (.sub (.var 10) (.var 2)) (.nm 10) .val [(.var 7)] [(.cmp .lt (.var 2) (.bi .len [(.var 10)]))] [10])])],
  .ret (.var 8)] }
def bT:Fn:={ n:=3,ps:=2,io:=[],body:=[.asg (.nm 2) (.ite (.cmp .lt (.var 1) (.bi .len [(.var 0)])) (.sub (.var 0) (.var 1)) (.int 0)),
  .ret (.lst [(.bin .mul (.bi .abs [(.var 2)]) (.bi .int1 [(.cmp .ge (.bi .abs [(.var 2)]) (.bin .pow (.int 10) (.int 18)))])),(.bin .add (.bin .add (.bin .mod (.bi .int1 [(.var 2)]) (.int 2305843009213693951)) (.bin .mul (.int 39373) (.var 1))) (.int 241)),(.int 0)])] }
def aO:Fn:={ n:=6,ps:=2,io:=[0],body:=[.ifs (.cmp .gt (.sub (.var 0) (.int 0)) (.int 0)) [.asg (.nm 5) (.bin .mod (.bi .int1 [(.sub (.var 0) (.int 0))]) (.var 1)),
  .setIx (.var 0) (.int 0) (.bin .fdiv (.sub (.var 0) (.int 0)) (.var 1)),
  .ret (.var 5)] [],
  .setIx (.var 0) (.int 2) (.bin .add (.sub (.var 0) (.int 2)) (.int 1)),
  .asg (.nm 2) (.bin .mod (.bi .int1 [(.bin .mul (.bin .add (.sub (.var 0) (.int 1)) (.bin .mul (.int 48271) (.sub (.var 0) (.int 2)))) (.bin .add (.int 39373) (.sub (.var 0) (.int 2))))]) (.int 2147483647)),
  .asg (.nm 3) (.bin .add (.bin .mod (.bi .int1 [(.var 2)]) (.int 40009)) (.int 7)),
  .asg (.nm 4) (.bin .mod (.bi .int1 [(.bin .mul (.bin .add (.bin .add (.var 2) (.sub (.var 0) (.int 2))) (.bin .fdiv (.sub (.var 0) (.int 1)) (.int 1000003))) (.var 3))]) (.int 2147483629)),
  .ret (.bin .mod (.bi .int1 [(.bin .fdiv (.bin .mod (.bi .int1 [(.bin .add (.bin .mul (.var 4) (.int 48271)) (.var 2))]) (.int 2147483587)) (.int 64))]) (.var 1))] }
def bj:Fn:={ n:=6,ps:=2,io:=[],body:=[.asg (.nm 2) (.bor [(.bi .list1 [(.slice (.var 0) none (some (.var 1)))]),(.lst [(.int 0)])]),
  .for_ (.tp [3,4]) .enum [(.slice (.var 0) (some (.var 1)) (some (.int 63)))] [.asg (.nm 5) (.bin .mod (.bi .int1 [(.var 3)]) (.var 1)),
  .setIx (.var 2) (.var 5) (.bin .add (.sub (.var 2) (.var 5)) (.bin .mul (.var 4) (.bin .add (.var 3) (.int 2))))],
  .ret (.var 2)] }
def bQ:Fn:={ n:=2,ps:=2,io:=[0],body:=[.ret (.sub (.var 1) (.call 8 [(.var 0),(.bi .len [(.var 1)])]))] }
def bF:Fn:={ n:=3,ps:=2,io:=[],body:=[.ret (.bi .tuple1 [(.lc (.sub (.var 0) (.bin .add (.bin .mul (.sub (.var 1) (.var 2)) (.bi .len [(.var 1)])) (.var 2))) (.nm 2) .range [(.bi .len [(.var 1)])] [] [2])])] }
def aJ:Fn:={ n:=13,ps:=4,io:=[],body:=[.asg (.nm 4) (.call 6 [(.tup [(.var 0),(.var 1),(.var 3),(.str (Str.ofString "short"))]),(.bin .mul (.bin .mul (.var 1) (.bin .add (.var 2) (.int 1))) (.var 3))]),
  .asg (.nm 5) (.call 1 [(.var 1),(.var 2)]),
  .asg (.nm 6) (.lc (.call 11 [(.var 4),(.var 9)]) (.nm 9) .val [(.var 5)] [] [9]),
  .ifs (.bor [(.cmp .ne (.bi .len [(.var 4)]) (.bin .mul (.var 1) (.bin .add (.var 2) (.int 1)))),(.cmp .ne (.bi .lset [(.var 6)]) (.bi .len [(.var 5)])),(.cmp .ne (.call 2 [(.var 1),(.var 2)]) (.bi .len [(.var 5)]))]) [.ret (.bl false)] [],
  .for_ (.nm 7) .range [(.bi .len [(.var 5)])] [.for_ (.nm 8) .range [(.bi .len [(.var 5)])] [.asg (.nm 10) (.call 3 [(.sub (.var 5) (.var 7)),(.sub (.var 5) (.var 8))]),
  .ifs (.cmp .ne (.cmp .isn (.var 10) .non) (.cmp .eq (.var 7) (.var 8))) [.ret (.bl false)] [],
  .par [11,12] [(.sub (.var 6) (.var 7)),(.sub (.var 6) (.var 8))],
  .ifs (.band [(.cmp .isnotn (.var 10) .non),(.cmp .eq (.sub (.var 11) (.var 10)) (.sub (.var 12) (.var 10)))]) [.ret (.bl false)] [],
  .ifs (.band [(.cmp .isnotn (.var 10) .non),(.cmp .ne (.slice (.var 11) none (some (.var 10))) (.slice (.var 12) none (some (.var 10))))]) [.ret (.bl false)] []]],
  .ret (.bl true)] }
def aV:Fn:={ n:=4,ps:=1,io:=[0],body:=[.for_ (.tp [1,2]) .val [(.tup [(.tup [(.int 1),(.int 3)]),(.tup [(.int 2),(.int 1)]),(.tup [(.int 2),(.int 2)]),(.tup [(.int 2),(.int 3)]),(.tup [(.int 3),(.int 1)]),(.tup [(.int 3),(.int 2)]),(.tup [(.int 3),(.int 3)]),(.tup [(.int 4),(.int 1)]),(.tup [(.int 4),(.int 2)])])] [.asg (.nm 3) (.bin .fdiv (.int 12) (.bin .mul (.var 1) (.bin .add (.var 2) (.int 1)))),
  .ifs (.bnot (.call 12 [(.call 10 [(.var 0),(.lst [(.str (Str.ofString "items")),(.str (Str.ofString "parts"))])]),(.var 1),(.var 2),(.bin .add (.int 1) (.call 8 [(.var 0),(.bi .min2 [(.var 3),(.int 5)])]))])) [.ret (.bl false)] []],
  .ret (.bl true)] }
def AN:Fn:={ n:=5,ps:=1,io:=[],body:=[.asg (.nm 1) (.call 9 [(.var 0),(.int 2)]),
  .for_ (.nm 2) .range [(.bi .len [(.var 1)])] [.asg (.nm 3) (.call 7 [(.var 1),(.var 2)]),
  .ifs (.bnot (.bi .all1 [(.lc (.call 13 [(.var 3)]) (.nm 4) .range [(.int 1)] [] [4])])) [.ret (.bl false)] []],
  .ret (.bl true)] }
def T:List Fn:=[aR,eA,aM,bz,kq,bX,bJ,bT,aO,bj,bQ,bF,aJ,aV,AN]
def top (i:Nat):Stmt:=PySem.Challenge.pw_stoppedloops_k67_whole_no_two_leads_go_o.main.body.getD i (.Pass ⟨0,0,0,0⟩)
abbrev gcs:List (Str × Kc):=[]
abbrev osl:List (Str × Str × Nat):=[]
abbrev d0:Def:=⟨"tupled",top 1,["thing","part"],["thing"],aR,[],gcs,"",none,osl,{},false,[],false⟩
abbrev d1:Def:=⟨"leads",top 3,["workers","lead","found","turn","row","many"],["workers","lead"],eA,[],gcs,"",none,osl,{},false,[],false⟩
abbrev d2:Def:=⟨"how_many_leads",top 4,["workers","lead","turn","every","ahead"],["workers","lead"],aM,[],gcs,"",none,osl,{},false,[],false⟩
abbrev d3:Def:=⟨"parting",top 5,["one","other","some","worker","many"],["one","other"],bz,[],gcs,"",none,osl,{},false,[],false⟩
abbrev d4:Def:=⟨"cut",top 7,["places","batch","ends","found","at","own"],["places","batch","ends"],kq,[],gcs,"",none,osl,{},false,[],false⟩
abbrev d5:Def:=⟨"shares",top 8,["way","workers","many","worker"],["way","workers","many"],bX,[],gcs,"",none,osl,{},false,[],false⟩
abbrev d6:Def:=⟨"batches",top 9,["deal","n","turn","way","workers","batch","ends","rows","found","share","row"],["deal","n"],bJ,[],gcs,"",none,osl,{},false,[],false⟩
abbrev d7:Def:=⟨"_law_box",top 11,["_law_script","_law_k","_law_cell"],["_law_script","_law_k"],bT,[],gcs,"",none,osl,{},false,[],false⟩
abbrev d8:Def:=⟨"_law_take",top 12,["_law_box_here","_law_below","_law_once","_law_far","_law_twice","_law_drawn"],["_law_box_here","_law_below"],aO,[],gcs,"",none,osl,{},false,[],false⟩
abbrev d9:Def:=⟨"_law_cells",top 13,["_law_script","_law_most_so","_law_cells_here","_law_k","_law_cell","_law_at_so"],["_law_script","_law_most_so"],bj,[],gcs,"",none,osl,{},false,[],false⟩
abbrev d10:Def:=⟨"_law_of",top 14,["_law_box_here","_law_some"],["_law_box_here","_law_some"],bQ,[],gcs,"",none,osl,{},false,[],false⟩
abbrev d11:Def:=⟨"_law_nexts",top 15,["_law_rows","_law_vector","_law_w"],["_law_rows","_law_vector"],bF,[],gcs,"",none,osl,{},false,[],false⟩
abbrev d12:Def:=⟨"_law_one_right",top 16,["_law_way_so","_law_many_so","_law_far","_law_size_so","_law_rows","_law_some","_law_told_so","_law_k","_law_j","_law_own","_law_spot_so","_law_mine","_law_its"],["_law_way_so","_law_many_so","_law_far","_law_size_so"],aJ,[],gcs,"",none,osl,{},false,[],false⟩
abbrev d13:Def:=⟨"_law_right",top 17,["_law_box_here","_law_many_so","_law_far","_law_room"],["_law_box_here"],aV,[],gcs,"",none,osl,{},false,[],false⟩
abbrev d14:Def:=⟨"law",top 18,["_law_script","_law_cells_here","_law_k","_law_box_here","_law_turn"],["_law_script"],AN,[],gcs,"",none,osl,{},false,[],false⟩
def defs:List Def:=[d0,d1,d2,d3,d4,d5,d6,d7,d8,d9,d10,d11,d12,d13,d14]
theorem Cu:dS defs=T:=rfl
theorem Fq:d0.chk defs=true:=by decide +kernel
theorem sc0:FnScope d0.N d0.ps (defScope d0.st):=⟨by decide +kernel,by decide +kernel,by decide +kernel,by decide +kernel,by decide +kernel,by decide +kernel,by decide +kernel⟩
theorem FN:d1.chk defs=true:=by decide +kernel
theorem sc1:FnScope d1.N d1.ps (defScope d1.st):=⟨by decide +kernel,by decide +kernel,by decide +kernel,by decide +kernel,by decide +kernel,by decide +kernel,by decide +kernel⟩
theorem FQ:d2.chk defs=true:=by decide +kernel
theorem sc2:FnScope d2.N d2.ps (defScope d2.st):=⟨by decide +kernel,by decide +kernel,by decide +kernel,by decide +kernel,by decide +kernel,by decide +kernel,by decide +kernel⟩
theorem Fb:d3.chk defs=true:=by decide +kernel
theorem sc3:FnScope d3.N d3.ps (defScope d3.st):=⟨by decide +kernel,by decide +kernel,by decide +kernel,by decide +kernel,by decide +kernel,by decide +kernel,by decide +kernel⟩
theorem Fy:d4.chk defs=true:=by decide +kernel
theorem sc4:FnScope d4.N d4.ps (defScope d4.st):=⟨by decide +kernel,by decide +kernel,by decide +kernel,by decide +kernel,by decide +kernel,by decide +kernel,by decide +kernel⟩
theorem Fu:d5.chk defs=true:=by decide +kernel
theorem sc5:FnScope d5.N d5.ps (defScope d5.st):=⟨by decide +kernel,by decide +kernel,by decide +kernel,by decide +kernel,by decide +kernel,by decide +kernel,by decide +kernel⟩
theorem Ff:d6.chk defs=true:=by decide +kernel
theorem sc6:FnScope d6.N d6.ps (defScope d6.st):=⟨by decide +kernel,by decide +kernel,by decide +kernel,by decide +kernel,by decide +kernel,by decide +kernel,by decide +kernel⟩
theorem Ge:d7.chk defs=true:=by decide +kernel
theorem sc7:FnScope d7.N d7.ps (defScope d7.st):=⟨by decide +kernel,by decide +kernel,by decide +kernel,by decide +kernel,by decide +kernel,by decide +kernel,by decide +kernel⟩
theorem Ga:d8.chk defs=true:=by decide +kernel
theorem sc8:FnScope d8.N d8.ps (defScope d8.st):=⟨by decide +kernel,by decide +kernel,by decide +kernel,by decide +kernel,by decide +kernel,by decide +kernel,by decide +kernel⟩
theorem Ft:d9.chk defs=true:=by decide +kernel
theorem sc9:FnScope d9.N d9.ps (defScope d9.st):=⟨by decide +kernel,by decide +kernel,by decide +kernel,by decide +kernel,by decide +kernel,by decide +kernel,by decide +kernel⟩
theorem Di:d10.chk defs=true:=by decide +kernel
theorem FH:FnScope d10.N d10.ps (defScope d10.st):=⟨by decide +kernel,by decide +kernel,by decide +kernel,by decide +kernel,by decide +kernel,by decide +kernel,by decide +kernel⟩
theorem DQ:d11.chk defs=true:=by decide +kernel
theorem FY:FnScope d11.N d11.ps (defScope d11.st):=⟨by decide +kernel,by decide +kernel,by decide +kernel,by decide +kernel,by decide +kernel,by decide +kernel,by decide +kernel⟩
theorem DO:d12.chk defs=true:=by decide +kernel
theorem FG:FnScope d12.N d12.ps (defScope d12.st):=⟨by decide +kernel,by decide +kernel,by decide +kernel,by decide +kernel,by decide +kernel,by decide +kernel,by decide +kernel⟩
theorem Dq:d13.chk defs=true:=by decide +kernel
theorem Gb:FnScope d13.N d13.ps (defScope d13.st):=⟨by decide +kernel,by decide +kernel,by decide +kernel,by decide +kernel,by decide +kernel,by decide +kernel,by decide +kernel⟩
theorem DC:d14.chk defs=true:=by decide +kernel
theorem Gi:FnScope d14.N d14.ps (defScope d14.st):=⟨by decide +kernel,by decide +kernel,by decide +kernel,by decide +kernel,by decide +kernel,by decide +kernel,by decide +kernel⟩
theorem vB:∀ d∈defs,d.chk defs=true:=by
 intro d hd
 simp only [defs,List.mem_cons,List.not_mem_nil,or_false] at hd
 rcases hd with rfl | rfl | rfl | rfl | rfl | rfl | rfl | rfl | rfl | rfl | rfl | rfl | rfl | rfl | rfl
 ·exact Fq
 ·exact FN
 ·exact FQ
 ·exact Fb
 ·exact Fy
 ·exact Fu
 ·exact Ff
 ·exact Ge
 ·exact Ga
 ·exact Ft
 ·exact Di
 ·exact DQ
 ·exact DO
 ·exact Dq
 ·exact DC
theorem all_mk {l:PySem.W.OpenLaw} {w:World} {K:Frag} {h:Heap} {mg:Str→Option Value} {fa:Addr} (X:K.In h) (G:h.Ns mainGlobals mg) (cs:mg "law" = some (.ref fa)) {f0 f1 f2 f3 f4 f5 f6 f7 f8 f9 u x B C F:Addr}
  {ct cv cx cy cB cC cD cN cY db dd dl dm dn dr ds du dv dw dx I J L M N O P Q R V:Option Addr} {dy dK dL dR dT dW ea eb ec ed Y Z aa ab ac:Array (Option Value)} {ee ef eg ei ad ej ek el em en ae eo ep er es et ag eu ev ew ex ey ai ez eH eL e0 e1 al e2 e3 e4 e5 e6 am e7 fb fe ff fi an fk fl fm fn fo ap fp fq fr fs fv ar fx fy fI fL fN aW fR ba bb bd be m bh bi bk bm bn n bp bs bt bv bw o bI bK bP ca cb q cc cd ce ch ci r cl:Value}
  (a0:nsIn K mainGlobals "tupled" = some (some (.ref f0))) (l0:K.lookup f0=some ⟨ee,ct,.func (fnOf d0.name d0.name (defArgs d0.st) (defBody d0.st) (defScope d0.st) .none ef eg ei cv ad ej),dy⟩) (c0:codeIn K ad d0.name=true) (k0:keepIn K (.ref f0)=true)
  (a1:nsIn K mainGlobals "leads" = some (some (.ref f1))) (l1:K.lookup f1=some ⟨ek,cx,.func (fnOf d1.name d1.name (defArgs d1.st) (defBody d1.st) (defScope d1.st) .none el em en cy ae eo),dK⟩) (c1:codeIn K ae d1.name=true) (k1:keepIn K (.ref f1)=true)
  (a2:nsIn K mainGlobals "how_many_leads" = some (some (.ref f2))) (l2:K.lookup f2=some ⟨ep,cB,.func (fnOf d2.name d2.name (defArgs d2.st) (defBody d2.st) (defScope d2.st) .none er es et cC ag eu),dL⟩) (c2:codeIn K ag d2.name=true) (k2:keepIn K (.ref f2)=true)
  (a3:nsIn K mainGlobals "parting" = some (some (.ref f3))) (l3:K.lookup f3=some ⟨ev,cD,.func (fnOf d3.name d3.name (defArgs d3.st) (defBody d3.st) (defScope d3.st) .none ew ex ey cN ai ez),dR⟩) (c3:codeIn K ai d3.name=true) (k3:keepIn K (.ref f3)=true)
  (a4:nsIn K mainGlobals "cut" = some (some (.ref f4))) (l4:K.lookup f4=some ⟨eH,cY,.func (fnOf d4.name d4.name (defArgs d4.st) (defBody d4.st) (defScope d4.st) .none eL e0 e1 db al e2),dT⟩) (c4:codeIn K al d4.name=true) (k4:keepIn K (.ref f4)=true)
  (a5:nsIn K mainGlobals "shares" = some (some (.ref f5))) (l5:K.lookup f5=some ⟨e3,dd,.func (fnOf d5.name d5.name (defArgs d5.st) (defBody d5.st) (defScope d5.st) .none e4 e5 e6 dl am e7),dW⟩) (c5:codeIn K am d5.name=true) (k5:keepIn K (.ref f5)=true)
  (a6:nsIn K mainGlobals "batches" = some (some (.ref f6))) (l6:K.lookup f6=some ⟨fb,dm,.func (fnOf d6.name d6.name (defArgs d6.st) (defBody d6.st) (defScope d6.st) .none fe ff fi dn an fk),ea⟩) (c6:codeIn K an d6.name=true) (k6:keepIn K (.ref f6)=true)
  (a7:nsIn K mainGlobals "_law_box" = some (some (.ref f7))) (l7:K.lookup f7=some ⟨fl,dr,.func (fnOf d7.name d7.name (defArgs d7.st) (defBody d7.st) (defScope d7.st) .none fm fn fo ds ap fp),eb⟩) (c7:codeIn K ap d7.name=true) (k7:keepIn K (.ref f7)=true)
  (a8:nsIn K mainGlobals "_law_take" = some (some (.ref f8))) (l8:K.lookup f8=some ⟨fq,du,.func (fnOf d8.name d8.name (defArgs d8.st) (defBody d8.st) (defScope d8.st) .none fr fs fv dv ar fx),ec⟩) (c8:codeIn K ar d8.name=true) (k8:keepIn K (.ref f8)=true)
  (a9:nsIn K mainGlobals "_law_cells" = some (some (.ref f9))) (l9:K.lookup f9=some ⟨fy,dw,.func (fnOf d9.name d9.name (defArgs d9.st) (defBody d9.st) (defScope d9.st) .none fI fL fN dx aW fR),ed⟩) (c9:codeIn K aW d9.name=true) (k9:keepIn K (.ref f9)=true)
  (a10:nsIn K mainGlobals "_law_of" = some (some (.ref u))) (l10:K.lookup u=some ⟨ba,I,.func (fnOf d10.name d10.name (defArgs d10.st) (defBody d10.st) (defScope d10.st) .none bb bd be J m bh),Y⟩) (c10:codeIn K m d10.name=true) (k10:keepIn K (.ref u)=true)
  (a11:nsIn K mainGlobals "_law_nexts" = some (some (.ref x))) (l11:K.lookup x=some ⟨bi,L,.func (fnOf d11.name d11.name (defArgs d11.st) (defBody d11.st) (defScope d11.st) .none bk bm bn M n bp),Z⟩) (c11:codeIn K n d11.name=true) (k11:keepIn K (.ref x)=true)
  (a12:nsIn K mainGlobals "_law_one_right" = some (some (.ref B))) (l12:K.lookup B=some ⟨bs,N,.func (fnOf d12.name d12.name (defArgs d12.st) (defBody d12.st) (defScope d12.st) .none bt bv bw O o bI),aa⟩) (c12:codeIn K o d12.name=true) (k12:keepIn K (.ref B)=true)
  (a13:nsIn K mainGlobals "_law_right" = some (some (.ref C))) (l13:K.lookup C=some ⟨bK,P,.func (fnOf d13.name d13.name (defArgs d13.st) (defBody d13.st) (defScope d13.st) .none bP ca cb Q q cc),ab⟩) (c13:codeIn K q d13.name=true) (k13:keepIn K (.ref C)=true)
  (a14:nsIn K mainGlobals "law" = some (some (.ref F))) (l14:K.lookup F=some ⟨cd,R,.func (fnOf d14.name d14.name (defArgs d14.st) (defBody d14.st) (defScope d14.st) .none ce ch ci V r cl),ac⟩) (c14:codeIn K r d14.name=true) (k14:keepIn K (.ref F)=true)
  (z0:nsIn K mainGlobals "len" = some none)
  (z1:nsIn K mainGlobals "abs" = some none)
  (z2:nsIn K mainGlobals "min" = some none)
  (z3:nsIn K mainGlobals "max" = some none)
  (z4:nsIn K mainGlobals "sum" = some none)
  (z5:nsIn K mainGlobals "int" = some none)
  (z6:nsIn K mainGlobals "list" = some none)
  (z7:nsIn K mainGlobals "tuple" = some none)
  (z8:nsIn K mainGlobals "sorted" = some none)
  (z9:nsIn K mainGlobals "all" = some none)
  (z10:nsIn K mainGlobals "any" = some none)
  (z11:nsIn K mainGlobals "divmod" = some none)
  (z12:nsIn K mainGlobals "range" = some none)
  (z13:nsIn K mainGlobals "enumerate" = some none)
  (z14:nsIn K mainGlobals "zip" = some none)
  (z15:nsIn K mainGlobals "isinstance" = some none)
  (z16:nsIn K mainGlobals "bool" = some none)
  (z17:nsIn K mainGlobals "str" = some none)
  (z18:nsIn K mainGlobals "dict" = some none)
  (z19:nsIn K mainGlobals "set" = some none)
  (law:∀ ns:List Int,ns.length≤63→(∀ z∈ns,Builtin.Int.intBits z≤1048576)→evF T 60 14 [.scr ns]=some (.bl true,[])) :
  ∃ fd:FuncData,(∀ (s:Shared) (v:Value),BindsTo s fd ⟨[v],[]⟩ [("_law_script",v)])∧∀ base:Heap,K.In base→base.Ns mainGlobals mg→FnOk l.prog w K mg base CX0 120 fa fd ["_law_script"] (rF K 63):=by
 have e:=cs.symm.trans (mg_of X G a14)
 cases e
 have a:∀ y k,gcs.lookup y=some k→uw K w mg y k:=xx
 have c:∀ cn nm i,(cn,nm,i)∈osl→∃ Ca:Addr,nsIn K mainGlobals cn=some (some (.ref Ca))∧SlX.SCls K Ca∧∃ p:Addr,SlX.Slot1 K Ca nm p i:=fun cn nm i h=>by cases h
 have F0:=fun_mk (st:=d0.st) l0 c0 k0
 have b0:=F0.binds (ps:=d0.ps) fun _ _ _ _ _ _ us j=>match us,j with | [_],_=>rfl
 have D0:cG K w mg d0:=⟨⟨_,_,F0,mg_of X G a0,k0,fun _=>b0,cw,cE⟩,sc0,a,c,.nil⟩
 have F1:=fun_mk (st:=d1.st) l1 c1 k1
 have b1:=F1.binds (ps:=d1.ps) fun _ _ _ _ _ _ us j=>match us,j with | [_,_],_=>rfl
 have D1:cG K w mg d1:=⟨⟨_,_,F1,mg_of X G a1,k1,fun _=>b1,cw,cE⟩,sc1,a,c,.nil⟩
 have F2:=fun_mk (st:=d2.st) l2 c2 k2
 have b2:=F2.binds (ps:=d2.ps) fun _ _ _ _ _ _ us j=>match us,j with | [_,_],_=>rfl
 have D2:cG K w mg d2:=⟨⟨_,_,F2,mg_of X G a2,k2,fun _=>b2,cw,cE⟩,sc2,a,c,.nil⟩
 have F3:=fun_mk (st:=d3.st) l3 c3 k3
 have b3:=F3.binds (ps:=d3.ps) fun _ _ _ _ _ _ us j=>match us,j with | [_,_],_=>rfl
 have D3:cG K w mg d3:=⟨⟨_,_,F3,mg_of X G a3,k3,fun _=>b3,cw,cE⟩,sc3,a,c,.nil⟩
 have F4:=fun_mk (st:=d4.st) l4 c4 k4
 have b4:=F4.binds (ps:=d4.ps) fun _ _ _ _ _ _ us j=>match us,j with | [_,_,_],_=>rfl
 have D4:cG K w mg d4:=⟨⟨_,_,F4,mg_of X G a4,k4,fun _=>b4,cw,cE⟩,sc4,a,c,.nil⟩
 have F5:=fun_mk (st:=d5.st) l5 c5 k5
 have b5:=F5.binds (ps:=d5.ps) fun _ _ _ _ _ _ us j=>match us,j with | [_,_,_],_=>rfl
 have D5:cG K w mg d5:=⟨⟨_,_,F5,mg_of X G a5,k5,fun _=>b5,cw,cE⟩,sc5,a,c,.nil⟩
 have F6:=fun_mk (st:=d6.st) l6 c6 k6
 have b6:=F6.binds (ps:=d6.ps) fun _ _ _ _ _ _ us j=>match us,j with | [_,_],_=>rfl
 have D6:cG K w mg d6:=⟨⟨_,_,F6,mg_of X G a6,k6,fun _=>b6,cw,cE⟩,sc6,a,c,.nil⟩
 have F7:=fun_mk (st:=d7.st) l7 c7 k7
 have b7:=F7.binds (ps:=d7.ps) fun _ _ _ _ _ _ us j=>match us,j with | [_,_],_=>rfl
 have D7:cG K w mg d7:=⟨⟨_,_,F7,mg_of X G a7,k7,fun _=>b7,cw,cE⟩,sc7,a,c,.nil⟩
 have F8:=fun_mk (st:=d8.st) l8 c8 k8
 have b8:=F8.binds (ps:=d8.ps) fun _ _ _ _ _ _ us j=>match us,j with | [_,_],_=>rfl
 have D8:cG K w mg d8:=⟨⟨_,_,F8,mg_of X G a8,k8,fun _=>b8,cw,cE⟩,sc8,a,c,.nil⟩
 have F9:=fun_mk (st:=d9.st) l9 c9 k9
 have b9:=F9.binds (ps:=d9.ps) fun _ _ _ _ _ _ us j=>match us,j with | [_,_],_=>rfl
 have D9:cG K w mg d9:=⟨⟨_,_,F9,mg_of X G a9,k9,fun _=>b9,cw,cE⟩,sc9,a,c,.nil⟩
 have cm:=fun_mk (st:=d10.st) l10 c10 k10
 have fT:=cm.binds (ps:=d10.ps) fun _ _ _ _ _ _ us j=>match us,j with | [_,_],_=>rfl
 have ga:cG K w mg d10:=⟨⟨_,_,cm,mg_of X G a10,k10,fun _=>fT,cw,cE⟩,FH,a,c,.nil⟩
 have co:=fun_mk (st:=d11.st) l11 c11 k11
 have gc:=co.binds (ps:=d11.ps) fun _ _ _ _ _ _ us j=>match us,j with | [_,_],_=>rfl
 have gd:cG K w mg d11:=⟨⟨_,_,co,mg_of X G a11,k11,fun _=>gc,cw,cE⟩,FY,a,c,.nil⟩
 have cp:=fun_mk (st:=d12.st) l12 c12 k12
 have ge:=cp.binds (ps:=d12.ps) fun _ _ _ _ _ _ us j=>match us,j with | [_,_,_,_],_=>rfl
 have gf:cG K w mg d12:=⟨⟨_,_,cp,mg_of X G a12,k12,fun _=>ge,cw,cE⟩,FG,a,c,.nil⟩
 have cr:=fun_mk (st:=d13.st) l13 c13 k13
 have gg:=cr.binds (ps:=d13.ps) fun _ _ _ _ _ _ us j=>match us,j with | [_],_=>rfl
 have gi:cG K w mg d13:=⟨⟨_,_,cr,mg_of X G a13,k13,fun _=>gg,cw,cE⟩,Gb,a,c,.nil⟩
 have H:=fun_mk (st:=d14.st) l14 c14 k14
 have gk:=H.binds (ps:=d14.ps) fun _ _ _ _ _ _ us j=>match us,j with | [_],_=>rfl
 have go:cG K w mg d14:=⟨⟨_,_,H,mg_of X G a14,k14,fun _=>gk,cw,cE⟩,Gi,a,c,.nil⟩
 have hT:∀ d∈defs,cG K w mg d:=by
  intro d hd
  simp only [defs,List.mem_cons,List.not_mem_nil,or_false] at hd
  rcases hd with rfl | rfl | rfl | rfl | rfl | rfl | rfl | rfl | rfl | rfl | rfl | rfl | rfl | rfl | rfl
  ·exact D0
  ·exact D1
  ·exact D2
  ·exact D3
  ·exact D4
  ·exact D5
  ·exact D6
  ·exact D7
  ·exact D8
  ·exact D9
  ·exact ga
  ·exact gd
  ·exact gf
  ·exact gi
  ·exact go
 have hB:∀ b∈tU,mg b=none:=by
  intro b hb
  simp only [tU,List.mem_cons,List.not_mem_nil,or_false] at hb
  rcases hb with rfl | rfl | rfl | rfl | rfl | rfl | rfl | rfl | rfl | rfl | rfl | rfl | rfl | rfl | rfl | rfl | rfl | rfl | rfl | rfl
  ·exact mg_none_of X G z0
  ·exact mg_none_of X G z1
  ·exact mg_none_of X G z2
  ·exact mg_none_of X G z3
  ·exact mg_none_of X G z4
  ·exact mg_none_of X G z5
  ·exact mg_none_of X G z6
  ·exact mg_none_of X G z7
  ·exact mg_none_of X G z8
  ·exact mg_none_of X G z9
  ·exact mg_none_of X G z10
  ·exact mg_none_of X G z11
  ·exact mg_none_of X G z12
  ·exact mg_none_of X G z13
  ·exact mg_none_of X G z14
  ·exact mg_none_of X G z15
  ·exact mg_none_of X G z16
  ·exact mg_none_of X G z17
  ·exact mg_none_of X G z18
  ·exact mg_none_of X G z19
 have hZ:∀ d∈defs,d.f.vt=none:=by
  intro d hd
  simp only [defs,List.mem_cons,List.not_mem_nil,or_false] at hd
  rcases hd with rfl | rfl | rfl | rfl | rfl | rfl | rfl | rfl | rfl | rfl | rfl | rfl | rfl | rfl | rfl<;>rfl
 have gp:∀ d∈defs,d.f.tr=none∨∃ t vars,d.f.tr=some t∧t.sco=some vars:=by
  intro d hd
  simp only [defs,List.mem_cons,List.not_mem_nil,or_false] at hd
  rcases hd with rfl | rfl | rfl | rfl | rfl | rfl | rfl | rfl | rfl | rfl | rfl | rfl | rfl | rfl | rfl<;>first | exact .inl rfl | exact .inr ⟨_,_,rfl,rfl⟩
 exact ⟨_,fun s v=>.of_eq rfl,fun base _ _=>Bl (k:=60) (g:=14) (most:=63) (d:=d14) hT vB hB hZ gp rfl rfl law H⟩
theorem walk {l:PySem.W.OpenLaw} {q:Program} {loose:List Str} {g:(Str→Option Value)→Heap→Prop} {c:World→Heap→Prop} {d:DefRec} {K:Params→Frag} (hn:l.most=some 63) (b:d.params.defaults=[]) (i:∀ (w:World) (h:Heap),c w h→(K w.params).In h)
  (F:∀ (w:World) (mg:Str→Option Value) (e:Addr) (h:Heap),(K w.params).In h→h.Ns mainGlobals mg→mg d.name=some (.ref e)→∃ fd:FuncData,(∀ (s:Shared) (u:Value),BindsTo s fd ⟨[u],[]⟩ [("_law_script",u)])∧∀ base:Heap,(K w.params).In base→base.Ns mainGlobals mg→FnOk l.prog w (K w.params) mg base CX0 120 e fd ["_law_script"] (rF (K w.params) 63)) :
  PySem.W.WalkO q loose g c l.row.toRowW d [] (fun f vs=>PySem.call f vs) :=
 L2.walk_ofB (n:=63) (k:=120) (x:="_law_script") (CX:=fun _=>CX0) (sp:=fun w=>rF (K w.params) 63) hn (by decide) b ⟨rfl,by decide,by decide⟩ i F (fun _ _ a ns j m _ o=>⟨a,ns,rfl,o,j,m,fun _=>rfl⟩) fun _ _ _ _ _ z=>z
theorem BI {b:Bool} {W m size:Nat} (g:(W,m)∈K67.nine) (s:1≤size) (h:size≤12 / (W*(m+1))):evF T 58 12 [.str (K67.ze b),.int W,.int m,.int size]=some (.bl true,[]):=by
 have t0:T[0]?=some (Ev.aR 0):=rfl
 have t1:T[1]?=some Ev.K67.eA:=rfl
 have t2:T[2]?=some Ev.K67.aM:=rfl
 have t3:T[3]?=some (Ev.K67.bz 0):=rfl
 have t:T[4]?=some Ev.kq:=rfl
 have u:T[5]?=some Ev.bX:=rfl
 have p:T[6]?=some (Ev.bJ 0 4 5):=rfl
 have d:T[11]?=some Ev.K67.bF:=rfl
 have i:T[12]?=some (Ev.K67.aJ 6 1 2 3 11):=rfl
 obtain ⟨g1,g2,g3,w,x,y,C,F⟩:=K67.eZ _ g
 simp only at g1 g2 g3 w x y C F
 have q:=K67.tP b W m size g s h
 obtain ⟨f1,f2,G,f4,H⟩:=K67.iF q
 have r:size≤12:=Nat.le_trans h (Nat.div_le_self _ _)
 have I:W*(m+1)≤4*4:=Nat.mul_le_mul g2 (by omega)
 have K:size≤10∨10<size:=by omega
 have hn:W*(m+1)*size≤12:=by
  have:=Nat.mul_le_mul_left (W*(m+1)) h
  exact Nat.le_trans this (Nat.mul_div_le 12 _)
 have l:size≤10:=by
  have J:2≤W*(m+1):=by
   have:=Nat.mul_le_mul g1 (show 2≤m+1 by omega)
   omega
  have M:=Nat.mul_le_mul_right size J
  omega
 rw [bE i]
 have hw:K67.ze b=jh∨K67.ze b=cj∨K67.ze b=mU:=by
  cases b
  ·exact .inr (.inr rfl)
  ·exact .inr (.inl rfl)
 have B:=BM (T:=T) (k:=53) t0 t u p (K67.ze b) cf W size (W*(m+1)*size) hw (.inl rfl) (by omega) (by omega) (by omega) (by omega) (by omega)
 rw [beq_self_eq_true] at B
 have ei:((W*(m+1)*size:Nat):Int)=(W:Int)*((m:Int)+1)*(size:Int):=by push_cast;rfl
 rw [ei] at B
 have a:=K67.Fz _ g
 simp only at a
 have len:((K67.ldM W m).length:Int)=(((m+1) ^ W:Nat):Int)-((m ^ W:Nat):Int):=by rw [f2];omega
 have tup:∀ v:List Nat,v.length≤1000→evF T 56 0 [tN v]=some (tN v,[]):=fun v c=>Bu.rM t0 53 v c
 refine K67.yQ (ib:=6) (il:=1) (ih:=2) (ipt:=3) (inx:=11) (rows:=K67.tS b W m size) (L:=K67.ldM W m) (by simp [p,Ev.bJ]) (by simp [t1,Ev.K67.eA]) (by simp [t2,Ev.K67.aM]) (by simp [t3,Ev.K67.bz]) (by simp [d,Ev.K67.bF]) (by omega) (by omega) l (by omega) f1 B ?_ ?_ ?_ ?_ ?_
 ·rw [bE t1]
  exact K67.qO (by omega) (by omega) a
 ·rw [bE t2,len]
  exact K67.uD (by omega) (by omega) a
 ·intro v c
  rw [bE d]
  exact K67.qZ (by omega) (by have:=(f4 v c).1;omega) (K67.yT q c)
 ·have e:((K67.ldM W m).map (K67.nxM (K67.tS b W m size))).length=(K67.ldM W m).length:=List.length_map ..
  rw [← e]
  refine K67.told_set G (by rw [e];omega) (fun z=>?_) true
  have:=congrArg List.length z
  rw [e] at this
  simp only [List.length_nil] at this
  omega
 ·intro k v hk
  have c:=List.mem_of_getElem? hk
  obtain ⟨lv,_⟩:=f4 v c
  refine ⟨by omega,K67.nxM (K67.tS b W m size) v,by rw [List.getElem?_map,hk];rfl,K67.wY _ _,fun j v' n=>?_⟩
  have o:=List.mem_of_getElem? n
  obtain ⟨f,_⟩:=f4 v' o
  refine ⟨K67.nxM (K67.tS b W m size) v',by rw [List.getElem?_map,n];rfl,by rw [K67.wY,f,lv],?_,H k j v v' hk n⟩
  rw [bE t3]
  exact K67.lA (by simp [t0,Ev.aR]) (by rw [lv,f]) (by omega) (tup v (by omega)) (tup v' (by omega))
theorem t9:∀ ns:List Int,ns.length≤63→(∀ z∈ns,Builtin.Int.intBits z≤1048576)→evF T 60 14 [.scr ns]=some (.bl true,[]):=by
 intro ns _ _
 have l:T[7]?=some Ev.bT:=rfl
 have g:T[8]?=some Ev.aO:=rfl
 have n:T[9]?=some Ev.bj:=rfl
 have a:T[10]?=some (Ev.bQ 8):=rfl
 have i:T[12]?=some (Ev.K67.aJ 6 1 2 3 11):=rfl
 have f:T[13]?=some (Ev.K67.aV 8 10 12):=rfl
 have j:T[14]?=some (Ev.gJ 9 7 13 2 1):=rfl
 rw [bE j]
 have o:Right (evF T 59) 13 18 1000:=fun d c q r=>by
  rw [bE f]
  exact K67.sJ (by simp [g,Ev.aO]) (by simp [a,Ev.bQ]) (by simp [i,Ev.K67.aJ]) (rB (k:=57) g) (Ed (k:=56) g a) (fun b p size s a1 a2=>BI (W:=p.1) (m:=p.2) s a1 a2) q r
 refine vN (by simp [f,Ev.K67.aV]) (by simp [l,Ev.bT]) (by simp [n,Ev.bj]) o (by omega) (by omega) (by omega) (by omega) (fun cs k c hk=>?_) (fun ns=>?_) ns
 ·obtain ⟨d,e,b⟩:=zC (call:=evF T 58) (io:=fun h=>((T[h]?).map (·.io)).getD []) hk
  exact ⟨d,by rw [bE l];exact e,b⟩
 ·obtain ⟨cs,l1,l2,e⟩:=uW (call:=evF T 58) (io:=fun h=>((T[h]?).map (·.io)).getD []) (ns:=ns) (m:=2) (by omega) (by omega)
  exact ⟨cs,l1,l2,by rw [bE n];exact e⟩
end Ev.Prog
open PySem PySem.W PyProof.Rows in
set_option maxHeartbeats 0 in
theorem PySem.Challenge.cw_stoppedloops_k67_whole_no_two_leads_go_o_holds : PySem.Challenge.rw_stoppedloops_k67_whole_no_two_leads_go_o.Holds := by
 refine Ev.hd ?_
 k_fill
 refine Ev.Prog.walk (l:=PySem.Challenge.rw_stoppedloops_k67_whole_no_two_leads_go_o) rfl rfl (fun w h Y=>PySem.W.kIn_of Y) ?F
 case F =>
  intro w mg fa h KX G hmg
  refine' Ev.Prog.all_mk KX G hmg ?a0 ?l0 ?c0 ?k0 ?a1 ?l1 ?c1 ?k1 ?a2 ?l2 ?c2 ?k2 ?a3 ?l3 ?c3 ?k3 ?a4 ?l4 ?c4 ?k4 ?a5 ?l5 ?c5 ?k5 ?a6 ?l6 ?c6 ?k6 ?a7 ?l7 ?c7 ?k7 ?a8 ?l8 ?c8 ?k8 ?a9 ?l9 ?c9 ?k9 ?a10 ?l10 ?c10 ?k10 ?a11 ?l11 ?c11 ?k11 ?a12 ?l12 ?c12 ?k12 ?a13 ?l13 ?c13 ?k13 ?a14 ?l14 ?c14 ?k14 ?z0 ?z1 ?z2 ?z3 ?z4 ?z5 ?z6 ?z7 ?z8 ?z9 ?z10 ?z11 ?z12 ?z13 ?z14 ?z15 ?z16 ?z17 ?z18 ?z19 Ev.Prog.t9
  (case a0=>k_is)
  (case l0=>k_is)
  (case c0=>k_is)
  (case k0=>k_is)
  (case a1=>k_is)
  (case l1=>k_is)
  (case c1=>k_is)
  (case k1=>k_is)
  (case a2=>k_is)
  (case l2=>k_is)
  (case c2=>k_is)
  (case k2=>k_is)
  (case a3=>k_is)
  (case l3=>k_is)
  (case c3=>k_is)
  (case k3=>k_is)
  (case a4=>k_is)
  (case l4=>k_is)
  (case c4=>k_is)
  (case k4=>k_is)
  (case a5=>k_is)
  (case l5=>k_is)
  (case c5=>k_is)
  (case k5=>k_is)
  (case a6=>k_is)
  (case l6=>k_is)
  (case c6=>k_is)
  (case k6=>k_is)
  (case a7=>k_is)
  (case l7=>k_is)
  (case c7=>k_is)
  (case k7=>k_is)
  (case a8=>k_is)
  (case l8=>k_is)
  (case c8=>k_is)
  (case k8=>k_is)
  (case a9=>k_is)
  (case l9=>k_is)
  (case c9=>k_is)
  (case k9=>k_is)
  (case a10=>k_is)
  (case l10=>k_is)
  (case c10=>k_is)
  (case k10=>k_is)
  (case a11=>k_is)
  (case l11=>k_is)
  (case c11=>k_is)
  (case k11=>k_is)
  (case a12=>k_is)
  (case l12=>k_is)
  (case c12=>k_is)
  (case k12=>k_is)
  (case a13=>k_is)
  (case l13=>k_is)
  (case c13=>k_is)
  (case k13=>k_is)
  (case a14=>k_is)
  (case l14=>k_is)
  (case c14=>k_is)
  (case k14=>k_is)
  (case z0=>k_is)
  (case z1=>k_is)
  (case z2=>k_is)
  (case z3=>k_is)
  (case z4=>k_is)
  (case z5=>k_is)
  (case z6=>k_is)
  (case z7=>k_is)
  (case z8=>k_is)
  (case z9=>k_is)
  (case z10=>k_is)
  (case z11=>k_is)
  (case z12=>k_is)
  (case z13=>k_is)
  (case z14=>k_is)
  (case z15=>k_is)
  (case z16=>k_is)
  (case z17=>k_is)
  (case z18=>k_is)
  (case z19=>k_is)
