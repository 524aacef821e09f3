import PyProof.Rows.All
import Wide.All
import OpenK.AllK
import Wide.FinOn
import HandS.ForMost
import HandS.EndBits
import KE.DataCmp
import KE.KExcSuper
import KE.KExcInit
import HandS.ExcInit
import HandS.ExcSuper
import HandS.ExcCtx
import HandS.ExcOwn
import HandS.WordsExc
import KE.KTryMore
import HandS.TryMany
import HandS.ExcIs
import HandS.ExcField
import HandS.Iter
import HandS.Conv
import HandS.TupSets
import KE.KDictDisplayH
import KE.KDictCopyH
import KE.KDictSum
import KE.KDictOf
import HandS.DictComp
import HandS.Slots
import HandS.TupMul
import HandS.Deep
import HandS.TupAny
import HandS.SortInts
import HandS.IsInst
import HandS.WideBits
import HandS.Style
import KE.OsSortAny
import KE.KOpsOwn
import HandS.SlotsOwn
import HandS.ClsMeth
import HandS.Defaults
import HandS.More
import PyProof.InstNe
import PyProof.SumAny
import KE.KTupSum
import OpenK.KMeth
import HandS.OwnEq
import PyProof.P3In
import PyProof.FactsInt
import HandS.SortOrd
import PyProof.ListStr
import KE.KSortedM
import KE.DataMinMax
import HandS.RaiseMore
import HandS.Zip
import HandS.Walk
import HandS.SetFor
import HandS.Flow
import KE.GoesEnum
import HandS.OwnIter
import HandS.IterVal
import HandS.MakeKw
import PyProof.CollectWalk
import PyProof.TupleOfGen
import HandS.GenOver
import HandS.TryOnly
import HandS.SortKw
import HandS.Star
import HandS.Strs
import KE.KeyNested
import HandS.MakeKwOnly
import KE.GoesRev
import HandS.Replace
import KE.KUnpackStar
import HandS.HeadHook3
import KE.KExcRaise
import HandS.RaiseFrom
import HandS.SuiteRaise
import KE.OsRunLaw
import PySem.Challenge.RW_stoppedloops_k68_whole_what_a_buffer_hol
set_option Elab.async false
set_option linter.all false
set_option maxRecDepth 100000
set_option maxHeartbeats 8000000
open PySem.W (Frag nsIn findIn isFn typeIn subIn specialIn takesIn keepIn fnOf codeIn mg_of mg_none_of)
open L2 (Key Mk E0 defScope defBody Fun defArgs)
local macro_rules | `(tactic| k_head) => `(tactic| k_headL)
set_option maxHeartbeats 0 in
open_top Ev.hd for PySem.Challenge.rw_stoppedloops_k68_whole_what_a_buffer_hol
namespace Ev
open PySem
inductive D where
 | non | bl (b:Bool) | int (i:Int) | str (s:Str) | tup (xs:List D) | lst (o:Bool) (xs:List D)
 | scr (ns:List Int)
 | obj (cn:Str) (xs:List D)
 | exc (cn:Str) (nms:List Str) (xs:List D)
 | mob (cn:Str) (xs:List D)
 | dct (o:Bool) (ks:List Str) (xs:List D)
 | dtk (o:Bool) (ks:List (List Int)) (xs:List D)
 | cls (cn:Str)
 | tpn (xs:List D)
 deriving Inhabited,Repr
mutual
def D.frz:D→D
 | .tup xs=>.tup (frzs xs)
 | .lst _ xs=>.lst false (frzs xs)
 | .non=>.non
 | .bl b=>.bl b
 | .int i=>.int i
 | .str s=>.str s
 | .scr ns=>.scr ns
 | .obj cn xs=>.obj cn (frzs xs)
 | .exc cn nms xs=>.exc cn nms (frzs xs)
 | .mob cn xs=>.obj cn (frzs xs)
 | .dct _ ks xs=>.dct false ks (frzs xs)
 | .dtk _ ks xs=>.dtk false ks (frzs xs)
 | .cls cn=>.cls cn
 | .tpn xs=>.tpn (frzs xs)
def frzs:List D→List D
 | []=>[]
 | d::ds=>d.frz::frzs ds
end
mutual
def D.fz:D→Bool
 | .tup xs=>fzs xs
 | .lst o xs=>!o&&fzs xs
 | .obj _ xs=>fzs xs
 | .exc _ _ xs=>fzs xs
 | .mob _ _=>false
 | .dct o _ xs=>!o&&fzs xs
 | .dtk o _ xs=>!o&&fzs xs
 | .cls _=>true
 | .tpn xs=>fzs xs
 | .non=>true
 | .bl _=>true
 | .int _=>true
 | .str _=>true
 | .scr _=>true
def fzs:List D→Bool
 | []=>true
 | d::ds=>d.fz&&fzs ds
end
mutual
def D.py:D→PyData
 | .non=>.none
 | .bl b=>.bool b
 | .int i=>.int i
 | .str s=>.str s
 | .tup xs=>.tuple (pys xs)
 | .lst _ xs=>.list (pys xs)
 | .scr _=>.dict []
 | .obj _ _=>.dict []
 | .exc _ _ _=>.dict []
 | .mob _ _=>.dict []
 | .dct _ _ _=>.dict []
 | .dtk _ _ _=>.dict []
 | .cls _=>.dict []
 | .tpn _=>.dict []
def pys:List D→List PyData
 | []=>[]
 | d::ds=>d.py::pys ds
end
mutual
def D.ok:Nat→D→Bool
 | _,.non=>true
 | _,.bl _=>true
 | _,.int _=>true
 | _,.str s=>PyData.strOk s
 | 0,.tup _=>false
 | k+1,.tup xs=>oks k xs
 | 0,.lst _ _=>false
 | k+1,.lst _ xs=>oks k xs
 | _,.scr _=>false
 | _,.obj _ _=>false
 | _,.exc _ _ _=>false
 | _,.mob _ _=>false
 | _,.dct _ _ _=>false
 | _,.dtk _ _ _=>false
 | _,.cls _=>false
 | _,.tpn _=>false
def oks:Nat→List D→Bool
 | _,[]=>true
 | k,d::ds=>d.ok k&&oks k ds
end
mutual
def D.eq:D→D→Bool
 | .non,.non=>true
 | .bl a,.bl b=>a==b
 | .bl a,.int j=>(if a then 1 else 0)==j
 | .int i,.bl b=>i==(if b then 1 else 0)
 | .int i,.int j=>i==j
 | .str x,.str y=>x==y
 | .lst _ xs,.lst _ ys=>eqs xs ys
 | .tup xs,.tup ys=>eqs xs ys
 | _,_=>false
def eqs:List D→List D→Bool
 | [],[]=>true
 | x::xs,y::ys=>x.eq y&&eqs xs ys
 | _,_=>false
end
def D.flat:D→Bool
 | .tup _=>false
 | .lst _ _=>false
 | .scr _=>false
 | .obj _ _=>false
 | .exc _ _ _=>false
 | .mob _ _=>false
 | .dct _ _ _=>false
 | .dtk _ _ _=>false
 | .cls _=>false
 | .tpn _=>false
 | _=>true
def eE:List D→Bool
 | []=>true
 | d::ds=>d.flat&&eE ds
abbrev cap:Nat:=1000000
inductive Op where | add | sub | mul | fdiv | mod | pow
 deriving DecidableEq,Repr
inductive Cop where | eq | ne | lt | le | gt | ge | isin | notin | isn | isnotn
 deriving DecidableEq,Repr
inductive Bi where | len | abs | min2 | max2 | min1 | max1 | sum1 | int1 | list1 | tuple1 | sorted1 | all1 | any1 | divmod | lrange | trange | maxd | sset | lset | step | lenr | str1 | join (sep:Str) | splt (sep:Str) | repl (c:Str)
 deriving DecidableEq,Repr
def Bi.pl:Bi→Bool
 | .lrange=>false
 | .trange=>false
 | .maxd=>false
 | .sset=>false
 | .lset=>false
 | .step=>false
 | .lenr=>false
 | .join _=>false
 | .splt _=>false
 | .repl _=>false
 | _=>true
inductive Ty where | bool | int | str | list | tuple | dict
 deriving DecidableEq,Repr
inductive Me where | append | pop | popAt | extend | remove | index | reverse
 deriving DecidableEq,Repr
inductive OOp where | mth | len | made | isO | madeK (perm:List Nat) | new | bin (sq:Bool) | una | eqO (ne:Bool) | mthK (kn:Str) | tupO | mobN (ks:List Str) | mobP (n:Nat) (ks:List Str) | newL | newLK (kn:Str) | tX | contO (ne:Bool) | st | stK (perm:List Nat) | cmpO (op:Cop) | binI | rbinI | prop | dcp | cm | cmK (kn:Str) | inMix (ne:Bool)
 deriving DecidableEq,Repr
inductive ItK where | val | range | enum | zip | valO (cn:Str) (f:Nat)
 deriving DecidableEq,Repr
def small64:Int→Bool
 | .ofNat n=>Nat.ble n 18446744073709551615
 | .negSucc n=>Nat.ble n 18446744073709551614
theorem fB (a:Int):small64 a=(decide (-18446744073709551616<a)&&decide (a<18446744073709551616)):=by
 rw [Bool.eq_iff_iff,Bool.and_eq_true,decide_eq_true_eq,decide_eq_true_eq]
 cases a with
 | ofNat n=>rw [show small64 (Int.ofNat n)=Nat.ble n 18446744073709551615 from rfl,Nat.ble_eq];simp only [Int.ofNat_eq_natCast];omega
 | negSucc n=>rw [show small64 (Int.negSucc n)=Nat.ble n 18446744073709551614 from rfl,Nat.ble_eq];omega
def nA:Op→D→D→Option D
 | .add,.int a,.int b=>some (.int (a+b))
 | .add,.lst _ xs,.lst _ ys=>if fzs xs&&fzs ys&&decide (xs.length+ys.length≤cap) then some (.lst true (xs++ys)) else none
 | .add,.tup xs,.tup ys=>if decide (xs.length+ys.length≤cap) then some (.tup (xs++ys)) else none
 | .add,.str a,.str b=>if decide (a.length+b.length≤cap) then some (.str (a++b)) else none
 | .sub,.int a,.int b=>some (.int (a-b))
 | .mul,.int a,.int b=>if small64 a||small64 b then some (.int (a*b)) else none
 | .mul,.lst _ xs,.int k=>if fzs xs&&decide (0≤k)&&decide (k≤1000)&&decide (xs.length≤1000) then some (.lst true (List.replicate k.toNat xs).flatten) else none
 | .mul,.tup xs,.int k=>if !xs.isEmpty&&decide (1≤k)&&decide (k≤1000)&&decide (xs.length≤1000) then some (.tup (List.replicate k.toNat xs).flatten) else none
 | .fdiv,.int a,.int b=>if decide (0<b)&&decide (b<1073741824) then some (.int (a / b)) else none
 | .mod,.int a,.int b=>if decide (0<b) then some (.int (a % b)) else none
 | .pow,.int a,.int b=>if decide (0≤b)&&decide (b≤1000000)&&small64 a then some (.int (a ^ b.toNat)) else none
 | _,_,_=>none
def intsOf:List D→Option (List Int)
 | []=>some []
 | .int i::ds=>(intsOf ds).map (i::·)
 | _=>none
def boolsOf:List D→Option (List Bool)
 | []=>some []
 | .bl i::ds=>(boolsOf ds).map (i::·)
 | _=>none
def ltI:List Int→List Int→Bool
 | [],[]=>false
 | [],_::_=>true
 | _::_,[]=>false
 | x::xs,y::ys=>if x=y then ltI xs ys else decide (x<y)
def items:D→Option (List D)
 | .tup xs=>some xs
 | .lst _ xs=>if fzs xs then some xs else none
 | _=>none
def isNon:D→Bool
 | .non=>true
 | _=>false
def plain (d:D):Bool:=d.ok 60
def oN (c z:Str):Option Bool:=match c.cps.toList with
 | [x]=>some (decide (x∈z.cps.toList))
 | _=>none
def lC:Cop→D→D→Option Bool
 | .eq,a,b=>if plain a&&plain b then some (a.eq b) else none
 | .ne,a,b=>if plain a&&plain b then some (!a.eq b) else none
 | .lt,.int a,.int b=>some (decide (a<b))
 | .lt,.tup xs,.tup ys=>match intsOf xs,intsOf ys with
  | some ns,some ms=>some (ltI ns ms)
  | _,_=>none
 | .le,.int a,.int b=>some (decide (a≤b))
 | .gt,.int a,.int b=>some (decide (b<a))
 | .gt,.tup xs,.tup ys=>match intsOf xs,intsOf ys with
  | some ns,some ms=>some (ltI ms ns)
  | _,_=>none
 | .ge,.int a,.int b=>some (decide (b≤a))
 | .le,.tup xs,.tup ys=>match intsOf xs,intsOf ys with
  | some ns,some ms=>some (!ltI ms ns)
  | _,_=>none
 | .ge,.tup xs,.tup ys=>match intsOf xs,intsOf ys with
  | some ns,some ms=>some (!ltI ns ms)
  | _,_=>none
 | .isin,a,.lst _ xs=>if plain a&&oks 58 xs then some (xs.any fun x=>x.eq a) else none
 | .isin,.non,.tup xs=>if eE xs then some (xs.any fun x=>x.eq .non) else if oks 58 xs then some (xs.any fun x=>x.eq .non) else none
 | .isin,a,.tup xs=>if a.flat&&eE xs then some (xs.any fun x=>x.eq a) else none
 | .notin,a,.lst _ xs=>if plain a&&oks 58 xs then some (!xs.any fun x=>x.eq a) else none
 | .notin,a,.tup xs=>if a.flat&&eE xs then some (!xs.any fun x=>x.eq a) else none
 | .isin,.str c,.str z=>oN c z
 | .notin,.str c,.str z=>(oN c z).map (!·)
 | .isn,a,.non=>some (isNon a)
 | .isnotn,a,.non=>some (!isNon a)
 | .isn,.bl a,.bl b=>some (decide (a=b))
 | .isnotn,.bl a,.bl b=>some (!decide (a=b))
 | _,_,_=>none
def ixN (n:Nat) (i:Int):Option Nat:=if 0≤i then (if i<n then some i.toNat else none) else if -(n:Int)≤i then some (i+n).toNat else none
def sIx (n d:Nat):Option Int→Nat
 | none=>d
 | some v=>(if v<0 then max (v+(n:Int)) 0 else min v (n:Int)).toNat
def cutD (xs:List D) (lo hi:Option Int):List D:=(xs.drop (sIx xs.length 0 lo)).take (sIx xs.length xs.length hi-sIx xs.length 0 lo)
def slD:D→Option Int→Option Int→Option D
 | .lst _ xs,lo,hi=>if fzs xs then some (.lst true (cutD xs lo hi)) else none
 | .tup xs,lo,hi=>some (.tup (cutD xs lo hi))
 | .scr ns,lo,hi=>some (.lst true (cutD (ns.map .int) lo hi))
 | .str z,lo,hi=>if decide (z.length≤cap) then some (.str (L2.cutS z lo hi)) else none
 | _,_,_=>none
def Ja:D→Option D
 | .lst _ xs=>if fzs xs then some (.lst true xs.reverse) else none
 | .tup xs=>some (.tup xs.reverse)
 | _=>none
def insI (x:Int):List Int→List Int
 | []=>[x]
 | y::ys=>if x≤y then x::y::ys else y::insI x ys
def leT (a b:Str):Bool:=!decide (b.cps.toList<a.cps.toList)
def rA (l:List Str):List Str:=l.mergeSort leT
def sortI:List Int→List Int
 | []=>[]
 | x::xs=>insI x (sortI xs)
def qS:Int→List Int→Int
 | m,[]=>m
 | m,x::xs=>qS (if x<m then x else m) xs
def qu:Int→List Int→Int
 | m,[]=>m
 | m,x::xs=>qu (if m<x then x else m) xs
def aC (lo:Int) (st:Int):Nat→List D
 | 0=>[]
 | n+1=>.int lo::aC (lo+st) st n
def aU:Int→Bool
 | .ofNat n=>Nat.ble n 4611686018427387903
 | .negSucc n=>Nat.ble n 4611686018427387903
theorem i6 (a:Int):aU a=(decide (-4611686018427387904≤a)&&decide (a<4611686018427387904)):=by
 rw [Bool.eq_iff_iff,Bool.and_eq_true,decide_eq_true_eq,decide_eq_true_eq]
 cases a with
 | ofNat n=>rw [show aU (Int.ofNat n)=Nat.ble n 4611686018427387903 from rfl,Nat.ble_eq];simp only [Int.ofNat_eq_natCast];omega
 | negSucc n=>rw [show aU (Int.negSucc n)=Nat.ble n 4611686018427387903 from rfl,Nat.ble_eq];omega
def oR (i j c:Int):Nat:=(Builtin.Range.rangeSize i j c).toNat
def jG:Int→Bool
 | .ofNat n=>Nat.ble n 1000000000
 | .negSucc n=>Nat.ble n 1000000000
theorem kF {a:Int} (h:jG a=true):-1000000001≤a∧a≤1000000000:=by
 cases a with
 | ofNat n=>rw [show jG (Int.ofNat n)=Nat.ble n 1000000000 from rfl,Nat.ble_eq] at h;simp only [Int.ofNat_eq_natCast];omega
 | negSucc n=>rw [show jG (Int.negSucc n)=Nat.ble n 1000000000 from rfl,Nat.ble_eq] at h;omega
theorem my {i j c:Int} (h:(jG i&&jG j&&jG c)=true) (g:c≠0):Builtin.Range.small i j c=true:=by
 simp only [Bool.and_eq_true] at h
 obtain ⟨⟨d,e⟩,f⟩:=h
 have k:=kF d
 have l:=kF e
 have m:=kF f
 have fl:∀ {a:Int},-1000000000000≤a→a≤1000000000000→Builtin.Range.rangeFitsLong a=true:=fun {a} h0 d=>by
  unfold Builtin.Range.rangeFitsLong
  simp only [Bool.and_eq_true,decide_eq_true_eq]
  constructor<;>omega
 have rs:-1000000000000≤Builtin.Range.rangeSize i j c∧Builtin.Range.rangeSize i j c≤1000000000000:=by
  unfold Builtin.Range.rangeSize
  split
  ·split
   ·have:=Int.ediv_nonneg (a:=j-i-1) (b:=c) (by omega) (by omega)
    have:=Int.ediv_le_self (a:=j-i-1) c (by omega)
    omega
   ·omega
  ·split
   ·have:=Int.ediv_nonneg (a:=i-j-1) (b:=-c) (by omega) (by omega)
    have:=Int.ediv_le_self (a:=i-j-1) (-c) (by omega)
    omega
   ·omega
 unfold Builtin.Range.small
 rw [fl (by omega) (by omega),fl (by omega) (by omega),fl (by omega) (by omega),fl rs.1 rs.2]
 split
 ·rw [fl (by omega) (by omega)];simp
 ·rw [fl (by omega) (by omega)];simp
def aQ:List D→Option (List D)
 | [.int j]=>if aU j then some (aC 0 1 j.toNat) else none
 | [.int i,.int j]=>if aU i&&aU j then some (aC i 1 (j-i).toNat) else none
 | [.int i,.int j,.int c]=>if (jG i&&jG j&&jG c)&&decide (c≠0)&&decide (c.natAbs<1000000) then some (aC i c (oR i j c)) else none
 | _=>none
def pairsOf:List D→Option (List (Nat × Nat))
 | []=>some []
 | .tup [.int (.ofNat x),.int (.ofNat y)]::ds=>if Nat.blt x 64&&Nat.blt y 64 then (pairsOf ds).map fun ps=>(x,y)::ps else none
 | _=>none
def kS (p:Nat × Nat):Nat:=p.1*64+p.2
def yz (p:Nat × Nat):List (Nat × Nat)→List (Nat × Nat)
 | []=>[p]
 | q::l=>if Nat.blt (kS p) (kS q) then p::q::l else if Nat.beq (kS p) (kS q) then q::l else q::yz p l
def iQ:List (Nat × Nat)→List (Nat × Nat)
 | []=>[]
 | p::l=>yz p (iQ l)
def pairD (p:Nat × Nat):D:=.tup [.int p.1,.int p.2]
def yC (k:Int):List Int→List Int
 | []=>[k]
 | q::l=>if decide (k<q) then k::q::l else if decide (k=q) then q::l else q::yC k l
def cj:List Int→List Int
 | []=>[]
 | k::l=>yC k (cj l)
def jb:List Int→Bool
 | []=>true
 | k::l=>!l.contains k&&jb l
def oneMore {K:Type} [DecidableEq K] (l:List K) (k:K):List K:=if l.any (fun y=>decide (y=k)) then l else l++[k]
def bF {K:Type} [DecidableEq K] (l:List K):List K:=l.foldl oneMore []
def iP (n lo st:Nat):Nat:=if Nat.blt lo n then (n-lo-1) / st+1 else 0
def gm {α:Type} (is:List Nat) (xs:List α):List α:=is.filterMap fun i=>xs[i]?
def bZ {α:Type} (xs:List α) (lo st:Nat):List α:=gm ((List.range (iP xs.length lo st)).map fun m=>min lo xs.length+m*st) xs
def wR:List D→Option (List (Nat × Nat))
 | []=>some []
 | .tup [.int (.ofNat x),.int (.ofNat y)]::ds=>(wR ds).map fun ps=>(x,y)::ps
 | _=>none
def ltQ (p q:Nat × Nat):Bool:=Nat.blt p.1 q.1||(Nat.beq p.1 q.1&&Nat.blt p.2 q.2)
def AO (p:Nat × Nat):List (Nat × Nat)→List (Nat × Nat)
 | []=>[p]
 | q::l=>if ltQ q p then q::AO p l else p::q::l
def qI:List (Nat × Nat)→List (Nat × Nat)
 | []=>[]
 | p::l=>AO p (qI l)
def strsOf:List D→Option (List Str)
 | []=>some []
 | .str s::ds=>(strsOf ds).map (s::·)
 | _=>none
def yM:D→Option (List Int)
 | .tup xs=>intsOf xs
 | _=>none
def fP:List D→Option (List (List Int))
 | []=>some []
 | d::ds=>match yM d with
  | some r=>(fP ds).map (r::·)
  | none=>none
def yK:D→Option (List (List Int))
 | .tup xs=>fP xs
 | _=>none
def dH:List D→Option (List (List (List Int)))
 | []=>some []
 | d::ds=>match yK d with
  | some z=>(dH ds).map (z::·)
  | none=>none
def fZ (z:Str):List D:=z.cps.toList.map fun c=>.str ⟨#[c]⟩
def wo (a x:Str) (k b:Int):Bool:=aU k&&aU b&&decide (a.length≠0)&&decide ((Str.ofString (toString k)).length≠0)&&decide (a.length+(Str.ofString (toString k)).length≤1000)&&!(a++Str.ofString (toString k)==Str.ofString (toString b))&&decide (x.length+(x.length+1)*(Str.ofString (toString b)).length≤16777216)
def tupI (k:List Int):D:=.tup (k.map .int)
def nk:D→Option (List Int)
 | .tup xs=>intsOf xs
 | _=>none
def fF:List Int→Int
 | []=>0
 | x::r=>x*64 ^ r.length+fF r
def zq (k:List Int):List (List Int)→List (List Int)
 | []=>[k]
 | q::l=>if decide (fF k≤fF q) then k::q::l else q::zq k l
def fE:List (List Int)→List (List Int)
 | []=>[]
 | k::l=>zq k (fE l)
def lA:List (List Int)→Bool
 | []=>true
 | k::r=>decide (k::r).Nodup&&(r.isEmpty||Nat.blt 0 k.length)&&Nat.blt r.length 63&&(k::r).all fun q=>decide (q.length=k.length)&&q.all fun x=>decide (0≤x)&&decide (x<64)
def atK (ks:List (List Int)) (xs:List D) (q:List Int):Option D:=((ks.zip xs).find? fun p=>decide (p.1=q)).map (·.2)
def putD (ks:List (List Int)) (xs:List D) (q:List Int) (d:D):List (List Int) × List D :=
 if ks.contains q then (ks,(ks.zip xs).map fun p=>if p.1=q then d else p.2) else (ks++[q],xs++[d])
def Gk (k:List Int):Int:=PySem.reduceHash (PySem.Builtin.Tuple.tupleHashOf (k.map PySem.hashInt))
def lq (ks:List (List Int)) (xs:List D) (ks2:List (List Int)) (xs2:List D):List (List Int) × List D:=(ks2.zip xs2).foldl (fun a p=>putD a.1 a.2 p.1 p.2) (ks,xs)
def fX (ks:List (List Int)):Bool:=decide (ks.map Gk).Nodup
def biD:Bi→List D→Option D
 | .len,[.lst _ xs]=>some (.int xs.length)
 | .len,[.tup xs]=>some (.int xs.length)
 | .len,[.str s]=>if decide (s.length≤cap) then some (.int s.length) else none
 | .abs,[.int a]=>some (.int (if a<0 then -a else a))
 | .min2,[.int a,.int b]=>some (.int (if b<a then b else a))
 | .max2,[.int a,.int b]=>some (.int (if b > a then b else a))
 | .min1,[.lst _ xs]=>match intsOf xs with
  | some (n::ns)=>some (.int (qS n ns))
  | _=>none
 | .min1,[.tup xs]=>match intsOf xs with
  | some (n::ns)=>some (.int (qS n ns))
  | _=>none
 | .max1,[.lst _ xs]=>match intsOf xs with
  | some (n::ns)=>some (.int (qu n ns))
  | _=>none
 | .maxd,[.lst _ xs,.int z]=>match intsOf xs with
  | some (n::ns)=>some (.int (qu n ns))
  | some []=>some (.int z)
  | none=>none
 | .sum1,[.lst _ xs]=>match intsOf xs with
  | some ns=>some (.int ns.sum)
  | _=>none
 | .sum1,[.tup xs]=>match intsOf xs with
  | some ns=>some (.int ns.sum)
  | _=>none
 | .int1,[.int a]=>some (.int a)
 | .int1,[.bl b]=>some (.int (if b then 1 else 0))
 | .int1,[.str z]=>if decide (z.length≤640) then (PySem.intText? z).map .int else none
 | .list1,[.str z]=>if decide (z.length≤cap) then some (.lst true (fZ z)) else none
 | .list1,[.dtk _ ks _]=>some (.lst true (ks.map tupI))
 | .list1,[d]=>(items d).map (.lst true)
 | .tuple1,[d]=>(items d).map .tup
 | .sorted1,[.lst _ xs]=>match intsOf xs with
  | some ns=>some (.lst true ((sortI ns).map .int))
  | none=>match wR xs with
   | some ps=>some (.lst true ((qI ps).map pairD))
   | none=>match strsOf xs with
    | some ss=>if Nat.ble xs.length 60 then some (.lst true ((rA ss).map .str)) else none
    | none=>none
 | .sorted1,[.dtk _ ks _]=>if lA ks then some (.lst true ((fE ks).map tupI)) else none
 | .sorted1,[.tup xs]=>match intsOf xs with
  | some ns=>some (.lst true ((sortI ns).map .int))
  | _=>none
 | .all1,[.lst _ xs]=>match boolsOf xs with
  | some ns=>some (.bl (ns.all id))
  | _=>none
 | .any1,[.lst _ xs]=>match boolsOf xs with
  | some ns=>some (.bl (ns.any id))
  | _=>none
 | .divmod,[.int a,.int b]=>if decide (0<b)&&decide (b<1073741824) then some (.tup [.int (a / b),.int (a % b)]) else none
 | .lrange,ds=>match aQ ds with
  | some xs=>if decide (xs.length≤cap) then some (.lst true xs) else none
  | none=>none
 | .trange,ds=>match aQ ds with
  | some xs=>if decide (xs.length≤cap) then some (.tup xs) else none
  | none=>none
 | .lenr,ds=>match aQ ds with
  | some xs=>if decide (xs.length≤cap) then some (.int xs.length) else none
  | none=>none
 | .step,[.tup xs,.int (.ofNat lo),.int (.ofNat st)]=>if Nat.blt 0 st then some (.tup (bZ xs lo st)) else none
 | .sset,[.tup xs]=>match intsOf xs with
  | some ns=>if Nat.ble xs.length 3000&&Nat.blt (cj ns).length 64 then some (.lst true ((cj ns).map D.int)) else none
  | none=>none
 | .sset,[.lst _ xs]=>match pairsOf xs with
  | some ps=>if Nat.ble xs.length 60 then some (.lst true ((iQ ps).map pairD)) else none
  | none=>match intsOf xs with
   | some ns=>if Nat.ble xs.length 60 then some (.lst true ((cj ns).map D.int)) else none
   | none=>match strsOf xs with
    | some ss=>if Nat.ble xs.length 60 then some (.lst true ((rA (bF ss)).map .str)) else none
    | none=>none
 | .lset,[.lst _ xs]=>match intsOf xs with
  | some ns=>if jb ns&&Nat.ble xs.length 60 then some (.int xs.length) else if Nat.ble xs.length 60 then some (.int (bF ns).length) else none
  | none=>match strsOf xs with
   | some ss=>if Nat.ble xs.length 60 then some (.int (bF ss).length) else none
   | none=>match dH xs with
    | some zs=>if Nat.ble xs.length 76 then some (.int (bF zs).length) else none
    | none=>none
 | .str1,[.int i]=>if aU i then some (.str (toString i)) else none
 | .str1,[.str z]=>some (.str z)
 | .join a,[.lst _ xs]=>match strsOf xs with
  | some ys=>if Nat.ble ((ys.map (·.length)).sum+ys.length*a.length) 1000000 then some (.str (Txt.join a ys)) else none
  | none=>none
 | .splt a,[.str z]=>if decide (0<a.length)&&decide (z.length≤999000) then some (.lst true ((Txt.split z a).map .str)) else none
 | .repl a,[.str x,.int k,.int u,.int v]=>if wo a x k (u+v) then some (.str (Txt.replace x (a++Str.ofString (toString k)) (Str.ofString (toString (u+v))))) else none
 | _,_=>none
def eR:D→Ty→Bool
 | .bl _,.bool=>true
 | .bl _,.int=>true
 | .int _,.int=>true
 | .str _,.str=>true
 | .lst _ _,.list=>true
 | .scr _,.list=>true
 | .tup _,.tuple=>true
 | _,_=>false
inductive A where
 | tmp (d:D)
 | bor (i:Nat) (p:List Nat)
 deriving Inhabited,Repr
abbrev Dl:=List (Option D)
def D.at:D→List Nat→Option D
 | d,[]=>some d
 | .lst true xs,k::p=>match xs[k]? with
  | some x=>x.at p
  | none=>none
 | _,_::_=>none
def D.mP:D→List Nat→(D→Option D)→Option D
 | d,[],f=>f d
 | .lst true xs,k::p,f=>match xs[k]? with
  | some x=>match x.mP p f with
   | some y=>some (.lst true (xs.set k y))
   | none=>none
  | none=>none
 | _,_::_,_=>none
def slot (δ:Dl) (i:Nat):Option D:=match δ[i]? with
 | some (some d)=>some d
 | _=>none
def look (δ:Dl):A→Option D
 | .tmp d=>some d
 | .bor i p=>match slot δ i with
  | some d=>d.at p
  | none=>none
def looks (δ:Dl):List A→Option (List D)
 | []=>some []
 | a::as=>match look δ a,looks δ as with
  | some d,some ds=>some (d::ds)
  | _,_=>none
def bN (δ:Dl) (i:Nat) (p:List Nat) (f:D→Option D):Option Dl:=match slot δ i with
 | some d=>match d.mP p f with
  | some d'=>some (δ.set i (some d'))
  | none=>none
 | none=>none
def toV (δ:Dl):A→Option (D × Dl)
 | .tmp d=>some (d,δ)
 | .bor i p=>match look δ (.bor i p),bN δ i p (fun d=>some d.frz) with
  | some d,some δ'=>some (d.frz,δ')
  | _,_=>none
def bL (δ:Dl):List A→Option (List D × Dl)
 | []=>some ([],δ)
 | a::as=>match toV δ a with
  | some (d,δ1)=>match bL δ1 as with
   | some (ds,δ2)=>some (d::ds,δ2)
   | none=>none
  | none=>none
def oD:A→Bool
 | .bor _ (_::_)=>false
 | _=>true
def settle {α:Type} (es:List α) (δ:Dl):A→Option (A × Dl)
 | .bor i (k::p)=>if es.isEmpty then some (.bor i (k::p),δ) else match toV δ (.bor i (k::p)) with
  | some (d,δ1)=>some (.tmp d,δ1)
  | none=>none
 | a=>some (a,δ)
def Jh:Op→Int→Int→Option Int
 | .add,a,b=>some (a+b)
 | .sub,a,b=>some (a-b)
 | .mul,a,b=>if small64 a||small64 b then some (a*b) else none
 | _,_,_=>none
inductive Tg where
 | nm (i:Nat)
 | tp (is:List Nat)
 deriving Repr
def cR (lock:List Nat) (i:Nat) (d:D) (δ:Dl):Option Dl:=if decide (i<δ.length)&&!lock.contains i then some (δ.set i (some d)) else none
def cE (lock:List Nat):List Nat→List D→Dl→Option Dl
 | [],[],δ=>some δ
 | i::is,d::ds,δ=>match cR lock i d δ with
  | some δ1=>cE lock is ds δ1
  | none=>none
 | _,_,_=>none
def nP:D→Option (D × List D)
 | .lst _ (x::xs)=>if fzs (x::xs)&&decide (xs.length≤cap) then some (x,xs) else none
 | .tup (x::xs)=>if fzs (x::xs)&&decide (xs.length≤cap) then some (x,xs) else none
 | _=>none
def setT (lock:List Nat):Tg→D→Dl→Option Dl
 | .nm i,d,δ=>cR lock i d δ
 | .tp is,.tup ds,δ=>if fzs ds then cE lock is ds δ else none
 | .tp is,.lst _ ds,δ=>if fzs ds then cE lock is ds δ else none
 | .tp _,_,_=>none
inductive Kc where
 | int (i:Int) | str (s:Str) | strs (l:List Str) | dct (ps:List (Str × Int))
 deriving Inhabited,Repr,DecidableEq
def Kc.toD:Kc→D
 | .int i=>.int i
 | .str s=>.str s
 | .strs l=>.tup (l.map .str)
 | .dct _=>.non
inductive E where
 | non | bl (b:Bool) | int (i:Int) | str (s:Str)
 | con (k:Kc)
 | kin (ne:Bool) (ps:List (Str × Int)) (e:E)
 | kix (ps:List (Str × Int)) (e:E)
 | var (i:Nat)
 | bin (op:Op) (a b:E)
 | neg (a:E)
 | cmp (op:Cop) (a b:E)
 | chain (o1 o2:Cop) (a b c:E)
 | band (es:List E)
 | bor (es:List E)
 | bnot (a:E)
 | ite (c a b:E)
 | tup (es:List E)
 | lst (es:List E)
 | disS (l:Bool) (pre:List E) (st:E) (post:List E)
 | pur (e:E)
 | sub (a i:E)
 | slice (a:E) (lo hi:Option E)
 | rev (a:E)
 | call (f:Nat) (es:List E)
 | callK (f:Nat) (es:List E) (perm:List Nat)
 | callT (f:Nat) (es:List E)
 | bi (b:Bi) (es:List E)
 | isi (a:E) (ts:List Ty)
 | xf (a:E) (nm:Str) (cns:List Str)
 | isx (a:E) (t:Str) (cns:List (Str × Bool))
 | meth (m:Me) (o:E) (es:List E)
 | fld (a:E) (cn nm:Str) (i:Nat)
 | wk (a:E)
 | tupN (a:E)
 | tix (a:E) (cn nm:Str) (i:Nat) (e:E)
 | ob (o:OOp) (cn nm:Str) (f:Nat) (es:List E)
 | mthM (v:Nat) (cn nm:Str) (f:Nat) (es:List E)
 | mthMK (v:Nat) (cn nm:Str) (f:Nat) (ks ps:List Str) (es:List E)
 | dct (ks:List Str) (es:List E)
 | key (a:E) (k:Str)
 | dtk0
 | dtk1 (k v:E)
 | dgt (v:Nat) (k d:E)
 | dgt1 (v:Nat) (k:E)
 | dix (v:Nat) (k:E)
 | dck (k e:E) (tg:Tg) (ik:ItK) (its:List E) (own:List Nat)
 | clsC (v:Nat) (cn nm:Str) (f:Nat) (st:Bool) (es:List E)
 | lc (elt:E) (tg:Tg) (k:ItK) (its:List E) (ifs:List E) (own:List Nat)
 | lc2 (elt:E) (tg:Tg) (k:ItK) (its:List E) (tg2:Tg) (k2:ItK) (its2:List E) (own own2:List Nat)
 deriving Inhabited,Repr
inductive S where
 | expr (e:E)
 | ret (e:E)
 | retN
 | asg (t:Tg) (e:E)
 | par (is:List Nat) (es:List E)
 | setIx (o i e:E)
 | swapIx (o1 i1 o2 i2:E) (e:E)
 | aug (i:Nat) (op:Op) (e:E)
 | ifs (c:E) (a b:List S)
 | for_ (tg:Tg) (k:ItK) (its:List E) (body:List S)
 | while_ (c:E) (body:List S)
 | pass | brk | cont | bad
 | raise (cn:Str) (nms:List Str) (es:List E)
 | raiseF (cn:Str) (nms:List Str) (es:List E) (cn2:Str) (nms2:List Str) (es2:List E)
 | asgS (i j:Nat) (e:E)
 | setF (v:Nat) (cn nm:Str) (i:Nat) (e:E)
 | parF (v:Nat) (cn:Str) (fs:List (Str × Nat)) (es:List E)
 | setD (v:Nat) (k e:E)
 | updD (v:Nat) (e:E)
 | setK (v:Nat) (k:Str) (e:E)
 | parK (v:Nat) (ks:List Str) (es:List E)
 deriving Inhabited,Repr
inductive Fl where
 | nx (δ:Dl) | rt (d:D) (δ:Dl) | bk (δ:Dl) | ct (δ:Dl)
 deriving Inhabited,Repr
structure Ctx where
 call:Nat→List D→Option (D × List D)
 io:Nat→List Nat
 lock:List Nat
def isAtom:D→Bool
 | .tup _=>false
 | .lst _ _=>false
 | .scr _=>false
 | .obj _ _=>false
 | .exc _ _ _=>false
 | .mob _ _=>false
 | .dct _ _ _=>false
 | .dtk _ _ _=>false
 | .cls _=>false
 | .tpn _=>false
 | _=>true
def fK:D→Option Bool
 | .non=>some false
 | .bl b=>some b
 | .int i=>some (i != 0)
 | .str s=>if decide (s.length≤cap) then some ((s.length:Int) != 0) else none
 | .tup xs=>some (!xs.isEmpty)
 | .lst _ xs=>some (!xs.isEmpty)
 | .scr _=>none
 | .obj _ _=>none
 | .exc _ _ _=>none
 | .mob _ _=>none
 | .dct _ _ _=>none
 | .dtk _ _ _=>none
 | .cls _=>none
 | .tpn _=>none
def deep (io:List Nat):Bool:=io.contains 1000
@[simp] theorem Eu:deep []=false:=rfl
@[simp] theorem BE (i:Nat) (io:List Nat):deep (i::io)=(1000==i||deep io):=List.contains_cons
def i7 (io:List Nat):Nat→List A→Dl→Option (List (Option D) × Dl)
 | _,[],δ=>some ([],δ)
 | j,a::as,δ=>match io.contains j with
  | true=>match a with
   | .tmp _=>match i7 io (j+1) as δ with
    | some (os,δ')=>some (none::os,δ')
    | none=>none
   | .bor i []=>match slot δ i with
    | some d=>match i7 io (j+1) as (δ.set i none) with
     | some (os,δ')=>some (some d::os,δ')
     | none=>none
    | none=>none
   | .bor _ (_::_)=>none
  | false=>match i7 io (j+1) as δ with
   | some (os,δ')=>some (none::os,δ')
   | none=>none
def valOf:List (Option D)→List A→Dl→Option (List D × Dl)
 | [],[],δ=>some ([],δ)
 | some d::os,_::as,δ=>match valOf os as δ with
  | some (ds,δ')=>some (d::ds,δ')
  | none=>none
 | none::os,a::as,δ=>match toV δ a with
  | some (d,δ1)=>match valOf os as δ1 with
   | some (ds,δ')=>some (d::ds,δ')
   | none=>none
  | none=>none
 | _,_,_=>none
mutual
def tfl:D→Bool
 | .tup xs=>wc xs
 | .lst _ _=>false
 | .scr _=>false
 | .obj _ _=>false
 | .exc _ _ _=>false
 | .mob _ _=>false
 | .dct _ _ _=>false
 | .dtk _ _ _=>false
 | .cls _=>false
 | .tpn _=>false
 | .non=>true
 | .bl _=>true
 | .int _=>true
 | .str _=>true
def wc:List D→Bool
 | []=>true
 | d::ds=>tfl d&&wc ds
end
def bY:D→Bool
 | .lst true xs=>eE xs
 | .mob _ xs=>wc xs
 | .dct true _ xs=>wc xs
 | _=>false
def bR (io:List Nat):Nat→List A→List D→Dl→Dl
 | _,[],_,δ=>δ
 | j,a::as,outs,δ=>match io.contains j with
  | true=>match outs with
   | d::outs=>bR io (j+1) as outs (match a with
    | .bor i _=>δ.set i (some d)
    | _=>δ)
   | []=>δ
  | false=>bR io (j+1) as outs δ
def vd {α:Type} (perm:List Nat) (ds:List α):Option (List α):=perm.mapM fun i=>ds[i]?
def cT:Nat→List D→List D
 | _,[]=>[]
 | k,d::ds=>.tup [.int k,d]::cT (k+1) ds
def jE:List D→List D→List D
 | x::xs,y::ys=>.tup [x,y]::jE xs ys
 | _,_=>[]
def eX:List D→List D→List D→List D
 | x::xs,y::ys,z::zs=>.tup [x,y,z]::eX xs ys zs
 | _,_,_=>[]
def mL:List D→Option (List D)
 | [.tup xs]=>some xs
 | [.lst false xs]=>some xs
 | [.str z]=>some (fZ z)
 | [.dtk false ks _]=>some (ks.map tupI)
 | _=>none
def iy:List D→Option (List D)
 | [.lst false xs]=>some (cT 0 xs)
 | [.tup xs]=>some (cT 0 xs)
 | _=>none
def ly:List D→Option (List D)
 | [.tup xs,.tup ys]=>some (jE xs ys)
 | [.lst false xs,.lst false ys]=>some (jE xs ys)
 | [.tup xs,.tup ys,.tup zs]=>some (eX xs ys zs)
 | _=>none
def itD:ItK→List D→Option (List D)
 | .val,ds=>mL ds
 | .valO _ _,ds=>mL ds
 | .range,ds=>aQ ds
 | .enum,ds=>iy ds
 | .zip,ds=>ly ds
def aY (δ:Dl):List Nat→Dl
 | []=>δ
 | v::vs=>(aY δ vs).set v none
def gh (δ0 δ:Dl):List Nat→Dl
 | []=>δ
 | v::vs=>(gh δ0 δ vs).set v (match δ0[v]? with
  | some x=>x
  | none=>none)
def dcL (set:D→Dl→Option Dl) (key val:Dl→Option (D × Dl)) (own:List Nat):List D→List (List Int)→List D→Dl→Option ((List (List Int) × List D) × Dl)
 | [],ks,vs,δ=>some ((ks,vs),δ)
 | x::xs,ks,vs,δ=>match set x δ with
  | none=>none
  | some δ1=>match key δ1 with
   | none=>none
   | some (kd,δ2)=>match nk kd with
    | none=>none
    | some q=>match val δ2 with
     | none=>none
     | some (d,δ3)=>if Nat.ble ks.length 100000 then dcL set key val own xs (putD ks vs q d.frz).1 (putD ks vs q d.frz).2 (aY δ3 own) else none
def lcL (set:D→Dl→Option Dl) (test:Dl→Option (Bool × Dl)) (elt:Dl→Option (D × Dl)) (own:List Nat):List D→List D→Dl→Option (List D × Dl)
 | [],acc,δ=>some (acc,δ)
 | x::xs,acc,δ=>match set x δ with
  | none=>none
  | some δ1=>match test δ1 with
   | none=>none
   | some (false,δ2)=>lcL set test elt own xs acc (aY δ2 own)
   | some (true,δ2)=>match elt δ2 with
    | none=>none
    | some (y,δ3)=>if decide (acc.length<cap) then lcL set test elt own xs (acc++[y]) (aY δ3 own) else none
def zu (set:D→Dl→Option Dl) (its:Dl→Option (List D × Dl)) (inner:List D→List D→Dl→Option (List D × Dl)) (own own2:List Nat):List D→List D→Dl→Option (List D × Dl)
 | [],acc,δ=>some (acc,δ)
 | x::xs,acc,δ=>match set x δ with
  | none=>none
  | some δ1=>match its δ1 with
   | none=>none
   | some (ys,δ2)=>match inner ys acc (aY δ2 own2) with
    | none=>none
    | some (acc',δ3)=>zu set its inner own own2 xs acc' (aY δ3 own)
def forL (set:D→Dl→Option Dl) (body:Dl→Option Fl):List D→Dl→Option Fl
 | [],δ=>some (.nx δ)
 | x::xs,δ=>match set x δ with
  | none=>none
  | some δ1=>match body δ1 with
   | some (.nx δ2)=>forL set body xs δ2
   | some (.ct δ2)=>forL set body xs δ2
   | some (.bk δ2)=>some (.nx δ2)
   | some (.rt d δ2)=>some (.rt d δ2)
   | none=>none
def fY (test:Dl→Option (Bool × Dl)) (body:Dl→Option Fl):Nat→Dl→Option Fl
 | 0,_=>none
 | n+1,δ=>match test δ with
  | none=>none
  | some (false,δ1)=>some (.nx δ1)
  | some (true,δ1)=>match body δ1 with
   | some (.nx δ2)=>fY test body n δ2
   | some (.ct δ2)=>fY test body n δ2
   | some (.bk δ2)=>some (.nx δ2)
   | some (.rt d δ2)=>some (.rt d δ2)
   | none=>none
def zg (i:Int):List Int→Option Nat
 | []=>none
 | x::xs=>if x=i then some 0 else match zg i xs with
  | some j=>some (j+1)
  | none=>none
def uA:Me→D→List D→Option (D × D)
 | .append,.lst true xs,[d]=>if decide (xs.length<cap) then some (.non,.lst true (xs++[d])) else none
 | .pop,.lst true xs,[]=>match xs.reverse with
  | y::r=>if y.fz then some (y,.lst true r.reverse) else none
  | []=>none
 | .popAt,.lst true xs,[.int i]=>if aU i then match ixN xs.length i with
   | some k=>match xs[k]? with
    | some y=>if y.fz then some (y,.lst true (xs.eraseIdx k)) else none
    | none=>none
   | none=>none
  else none
 | .extend,.lst true xs,[.lst _ ys]=>if fzs ys&&decide (xs.length+ys.length≤cap) then some (.non,.lst true (xs++ys)) else none
 | .remove,.lst true xs,[.int i]=>match intsOf xs with
  | some ns=>match zg i ns with
   | some j=>some (.non,.lst true ((ns.eraseIdx j).map .int))
   | none=>none
  | none=>none
 | .reverse,.lst true xs,[]=>some (.non,.lst true xs.reverse)
 | _,_,_=>none
def Cr:Me→D→List D→Option D
 | .index,.lst _ xs,[.int i]=>match intsOf xs with
  | some ns=>match zg i ns with
   | some j=>some (.int j)
   | none=>none
  | none=>none
 | _,_,_=>none
def uD:Option D→Bool
 | some (.lst _ _)=>true
 | _=>false
def partsOf:Bool→Bool→List A→Option (Option Int × Option Int)
 | false,false,[]=>some (none,none)
 | true,false,[.tmp (.int i)]=>some (some i,none)
 | false,true,[.tmp (.int i)]=>some (none,some i)
 | true,true,[.tmp (.int i),.tmp (.int j)]=>some (some i,some j)
 | _,_,_=>none
def br (C:Ctx) (f:Nat) (as:List A) (δ:Dl):Option (A × Dl):=match i7 (C.io f) 0 as δ with
 | some (os,δm)=>match valOf os as δm with
  | some (ds,δ2)=>match C.call f ds with
   | some (r,outs)=>some (.tmp r,bR (C.io f) 0 as outs (if isAtom r then (if deep (C.io f) then δ2 else δm) else δ2))
   | none=>none
  | none=>none
 | none=>none
def CV (C:Ctx) (f:Nat) (as:List A) (δ:Dl):Option (A × Dl):=if deep (C.io f) then none else match i7 (C.io f) 0 as δ with
 | some (os,δm)=>match valOf os as δm with
  | some (ds,_)=>match C.call f ds with
   | some (r,outs)=>if tfl r||bY r then some (.tmp r,bR (C.io f) 0 as outs δm) else none
   | none=>none
  | none=>none
 | none=>none
def B6 (C:Ctx) (cn:Str) (f:Nat) (as:List A) (δ:Dl):Option (A × Dl):=match as with
 | [a]=>match look δ a with
  | some (.lst _ xs)=>match C.call f [.lst false xs] with
   | some (.lst true rs,_)=>match intsOf xs,intsOf rs with
    | some ns,some ms=>if decide (ns=ms) then some (.tmp (.obj cn [.tpn rs]),δ) else none
    | _,_=>none
   | _=>none
  | some (.tpn xs)=>match C.call f [.tup xs] with
   | some (.lst true rs,_)=>match intsOf xs,intsOf rs with
    | some ns,some ms=>if decide (ns=ms) then some (.tmp (.obj cn [.tpn rs]),δ) else none
    | _,_=>none
   | _=>none
  | _=>none
 | _=>none
def xN:Option D→Bool
 | some (.dtk _ _ _)=>true
 | _=>false
def isOf (cn:Str):Option D→Bool
 | some (.obj cn' _)=>decide (cn'=cn)
 | _=>false
def isObj:D→Bool
 | .obj _ _=>true
 | .exc _ _ _=>true
 | .mob _ _=>true
 | .dct _ _ _=>true
 | .dtk _ _ _=>true
 | .cls _=>true
 | .tpn _=>true
 | _=>false
def x5:D→Bool
 | .tup _=>true
 | .lst _ _=>true
 | _=>false
def okR (sq:Bool) (cn:Str) (e:D):Bool:=isOf cn (some e)||(sq&&x5 e)
def okQ (cn:Str) (e:D):Bool:=isOf cn (some e)||!isObj e
def isInt:D→Bool
 | .int _=>true
 | _=>false
def okI (cn:Str) (e:D):Bool:=isOf cn (some e)||isInt e
def vz {α:Type}:List Str→List α→List Str→List α→List α
 | n::ns,d::ds,ks,zs=>((ks.zip zs).lookup n).getD d::vz ns ds ks zs
 | _,_,_,_=>[]
abbrev kA:List Str:=["way","workers","batch","ends"]
abbrev HI:List D:=[.str "turns",.int 1,.int 1,.str "short"]
def Jd (C:Ctx) (cn:Str) (f:Nat) (ks:List Str) (as:List A) (δ:Dl):Option (A × Dl):=match bL δ as with
 | some (it::ru::zs,δ2)=>if zs.length=ks.length then match C.call f (it::ru::vz kA HI ks zs) with
   | some (.lst true (r::rs),_)=>some (.tmp (.mob cn (r::rs)),δ2)
   | _=>none
  else none
 | _=>none
abbrev Ed:List Str:=["items","rule"]
def GD (C:Ctx) (cn:Str) (f m:Nat) (ks:List Str) (as:List A) (δ:Dl):Option (A × Dl):=match bL δ as with
 | some (ds,δ2)=>if (ds.drop m).length=ks.length&&decide (m<2) then match ds.take m++vz (Ed.drop m) [.non,.non] ks (ds.drop m) with
   | [it,ru]=>match C.call f (it::ru::vz kA HI ks (ds.drop m)) with
    | some (.lst true (r::rs),_)=>some (.tmp (.mob cn (r::rs)),δ2)
    | _=>none
   | _=>none
  else none
 | _=>none
def stD (C:Ctx) (cn:Str) (f:Nat) (as:List A) (δ:Dl):Option (A × Dl):=match as with
 | [.tmp (.int a),.tmp (.int b),.tmp (.int u)]=>match C.call f [.int a,.int b,.int u] with
  | some (.lst true (r::rs),_)=>some (.tmp (.obj cn (r::rs)),δ)
  | _=>none
 | _=>none
def Hy (C:Ctx) (cn:Str) (f:Nat) (x:D):List D→Dl→Option (Bool × Dl)
 | [],δ=>some (false,δ)
 | y::ys,δ=>if plain x&&plain y then (if y.eq x then some (true,δ) else Hy C cn f x ys δ)
  else if isOf cn (some x)&&x5 y then match br C f [.tmp x,.tmp y] δ with
   | some (.tmp (.bl true),δ')=>some (true,δ')
   | some (.tmp (.bl false),δ')=>Hy C cn f x ys δ'
   | _=>none
  else if isOf cn (some x)&&isOf cn (some y) then match br C f [.tmp y,.tmp x] δ with
   | some (.tmp (.bl true),δ')=>some (true,δ')
   | _=>none
  else none
def obD (C:Ctx) (o:OOp) (cn:Str) (f:Nat) (as:List A) (δ:Dl):Option (A × Dl):=match o with
 | .made=>match br C f as δ with
  | some (.tmp (.lst true rs),δ')=>some (.tmp (.obj cn [.tup rs]),δ')
  | _=>none
 | .mth=>match as with
  | .tmp d::bs=>if isOf cn (some d) then br C f (.tmp d::bs) δ else none
  | _=>none
 | .mthK _=>match as with
  | .tmp d::bs=>if isOf cn (some d) then br C f (.tmp d::bs) δ else none
  | _=>none
 | .len=>match as with
  | [.tmp (.obj cn' [.tup xs])]=>if decide (cn'=cn)&&Nat.ble xs.length 1000000 then match C.call f [.tup []] with
    | some _=>some (.tmp (.int xs.length),δ)
    | none=>none
   else none
  | _=>none
 | .tupO=>match looks δ as with
  | some [.obj cn' [.tup xs]]=>if decide (cn'=cn)&&Nat.ble xs.length 1000000 then match C.call f [.tup []] with
    | some _=>some (.tmp (.tup xs),δ)
    | none=>none
   else none
  | some [d]=>if isObj d then none else match biD .tuple1 [d] with
   | some r=>some (.tmp r,δ)
   | none=>none
  | _=>none
 | .isO=>match as with
  | [.tmp d]=>if isOf cn (some d) then some (.tmp (.bl true),δ) else if isObj d then none else some (.tmp (.bl false),δ)
  | _=>none
 | .madeK perm=>match vd perm as with
  | some as'=>match br C f as' δ with
   | some (.tmp (.lst true rs),δ')=>some (.tmp (.obj cn [.tup rs]),δ')
   | _=>none
  | none=>none
 | .new=>match as with
  | [a]=>match br C f [a] δ with
   | some (.tmp (.lst true rs),δ')=>some (.tmp (.obj cn [.tup rs]),δ')
   | _=>none
  | _=>none
 | .tX=>match as with
  | [a]=>match br C f [a] δ with
   | some (.tmp (.lst true rs),δ')=>some (.tmp (.obj cn [.tup rs]),δ')
   | _=>none
  | _=>none
 | .newL=>B6 C cn f as δ
 | .newLK _=>B6 C cn f as δ
 | .contO ne=>match vd [1,0] as with
  | some (.tmp d::bs)=>if isOf cn (some d) then match br C f (.tmp d::bs) δ with
    | some (.tmp (.bl t),δ')=>some (.tmp (.bl (if ne then !t else t)),δ')
    | _=>none
   else none
  | _=>none
 | .bin sq=>match as with
  | .tmp d::bs=>match looks δ bs with
   | some [e]=>if isOf cn (some d)&&okR sq cn e then br C f (.tmp d::bs) δ else none
   | _=>none
  | _=>none
 | .una=>match as with
  | [.tmp d]=>if isOf cn (some d) then br C f [.tmp d] δ else none
  | _=>none
 | .prop=>match as with
  | [.tmp d]=>if isOf cn (some d) then br C f [.tmp d] δ else none
  | _=>none
 | .mobN ks=>Jd C cn f ks as δ
 | .mobP m ks=>GD C cn f m ks as δ
 | .st=>stD C cn f as δ
 | .stK perm=>match vd perm as with
  | some as'=>stD C cn f as' δ
  | none=>none
 | .cmpO _=>match as with
  | .tmp d::bs=>match looks δ bs with
   | some [e]=>if isOf cn (some d)&&isOf cn (some e) then match br C f (.tmp d::bs) δ with
     | some (.tmp (.bl t),δ')=>some (.tmp (.bl t),δ')
     | _=>none
    else none
   | _=>none
  | _=>none
 | .binI=>match as with
  | .tmp d::bs=>match looks δ bs with
   | some [e]=>if isOf cn (some d)&&okI cn e then br C f (.tmp d::bs) δ else none
   | _=>none
  | _=>none
 | .rbinI=>match as with
  | [.tmp (.int i),.tmp d]=>if isOf cn (some d) then br C f [.tmp d,.tmp (.int i)] δ else none
  | _=>none
 | .dcp=>match looks δ as with
  | some [.dct _ ks xs]=>some (.tmp (.dct true ks xs),δ)
  | some [.dtk _ ks xs]=>if fX ks then some (.tmp (.dtk true ks xs),δ) else none
  | _=>none
 | .cm=>br C f (.tmp (.cls cn)::as) δ
 | .cmK _=>br C f (.tmp (.cls cn)::as) δ
 | .inMix ne=>match as with
  | [.tmp x,.tmp (.tup ys)]=>match C.call f [ys.getLastD .non,x] with
   | some _=>if x.fz then match Hy C cn f x ys δ with
     | some (b,δ')=>some (.tmp (.bl (if ne then !b else b)),δ')
     | none=>none
    else none
   | none=>none
  | _=>none
 | .eqO ne=>match as with
  | .tmp d::bs=>match looks δ bs with
   | some [e]=>if isOf cn (some d)&&okQ cn e then match br C f (.tmp d::bs) δ with
     | some (.tmp (.bl t),δ')=>some (.tmp (.bl (if ne then !t else t)),δ')
     | _=>none
    else none
   | _=>none
  | _=>none
def yW (m:Me) (es:Dl→Option (List A × Dl)):Option (A × Dl)→Option (A × Dl)
 | some (.bor s p,δ1)=>match slot δ1 s with
  | some d0=>if uD (d0.at p) then match es (if p.isEmpty then δ1 else δ1.set s none) with
    | some (as,δ2)=>match bL δ2 as with
     | some (ds,δ3)=>match slot (if p.isEmpty then δ3 else δ3.set s (some d0)) s with
      | some d1=>match d1.at p with
       | some d=>match uA m d ds with
        | some (r,d')=>match bN (if p.isEmpty then δ3 else δ3.set s (some d0)) s p (fun _=>some d') with
         | some δ4=>some (.tmp r,δ4)
         | none=>none
        | none=>none
       | none=>none
      | none=>none
     | none=>none
    | none=>none
   else none
  | none=>none
 | _=>none
def cH (δ:Dl):List Nat→Bool
 | []=>true
 | v::vs=>(match slot δ v with
  | some d=>d.fz
  | none=>true)&&cH δ vs
def ixK (k:Str):List Str→Option Nat
 | []=>none
 | x::xs=>if x=k then some 0 else (ixK k xs).map (·+1)
def xZ:List D→List (Str × Nat)→List D→List D
 | xs,p::fs,d::ds=>xZ (xs.set p.2 d) fs ds
 | xs,_,_=>xs
def Bt (ns:List Str):List D→List Str→List D→List D
 | xs,k::ks,d::ds=>match ixK k ns with
  | some i=>Bt ns (xs.set i d) ks ds
  | none=>xs
 | xs,_,_=>xs
def inK (ns:List Str) (l:Nat) (k:Str):Bool:=match ixK k ns with
 | some i=>decide (i<l)
 | none=>false
def Il (δ:Dl):Dl:=δ.map (Option.map D.frz)
def HV (l:Bool) (ds:List D):D:=if l then .lst true ds else .tup ds
def itC (C:Ctx):ItK→List D→Option (List D)
 | .valO cn f,ds=>match ds with
  | [.obj cn' [.tup xs]]=>if decide (cn'=cn)&&(C.call f [.tup []]).isSome then some xs else none
  | _=>mL ds
 | k,ds=>itD k ds
mutual
def evE (C:Ctx):Nat→E→Dl→Option (A × Dl)
 | 0,_,_=>none
 | n+1,e,δ=>match e with
  | .non=>some (.tmp .non,δ)
  | .bl b=>some (.tmp (.bl b),δ)
  | .int i=>some (.tmp (.int i),δ)
  | .str s=>some (.tmp (.str s),δ)
  | .con k=>some (.tmp k.toD,δ)
  | .kin ne ps e=>match evE C n e δ with
   | some (a,δ1)=>match look δ1 a with
    | some (.str z)=>some (.tmp (.bl (ne != (ps.lookup z).isSome)),δ1)
    | _=>none
   | none=>none
  | .kix ps e=>match evE C n e δ with
   | some (a,δ1)=>match look δ1 a with
    | some (.str z)=>match ps.lookup z with
     | some i=>some (.tmp (.int i),δ1)
     | none=>none
    | _=>none
   | none=>none
  | .var i=>match slot δ i with
   | some d=>if d.fz then some (.tmp d,δ) else some (.bor i [],δ)
   | none=>none
  | .bin op a b=>match aN C n [a,b] δ with
   | some (as,δ1)=>match looks δ1 as with
    | some [x,y]=>match nA op x y with
     | some d=>some (.tmp d,δ1)
     | none=>match bL δ1 as with
      | some ([x,y],δ2)=>match nA op x.frz y.frz with
       | some d=>some (.tmp d,δ2)
       | none=>none
      | _=>none
    | _=>none
   | none=>none
  | .neg a=>match evE C n a δ with
   | some (.tmp (.int i),δ1)=>some (.tmp (.int (-i)),δ1)
   | _=>none
  | .cmp op a b=>match aN C n [a,b] δ with
   | some (as,δ1)=>match looks δ1 as with
    | some [x,y]=>match lC op x y with
     | some t=>some (.tmp (.bl t),δ1)
     | none=>none
    | _=>none
   | none=>none
  | .chain o1 o2 a b c=>match aN C n [a,b] δ with
   | some ([.tmp x,.tmp y],δ1)=>match lC o1 x y with
    | some false=>some (.tmp (.bl false),δ1)
    | some true=>match evE C n c δ1 with
     | some (.tmp z,δ2)=>match lC o2 y z with
      | some t=>some (.tmp (.bl t),δ2)
      | none=>none
     | _=>none
    | none=>none
   | _=>none
  | .band es=>jJ C n es δ
  | .bor es=>Aq C n es δ
  | .bnot a=>match evE C n a δ with
   | some (x,δ1)=>match look δ1 x with
    | some d=>match fK d with
     | some b=>some (.tmp (.bl (!b)),δ1)
     | none=>none
    | none=>none
   | none=>none
  | .ite c a b=>match evT C n c δ with
   | some (true,δ1)=>evE C n a δ1
   | some (false,δ1)=>evE C n b δ1
   | none=>none
  | .tup es=>match aN C n es δ with
   | some (as,δ1)=>match bL δ1 as with
    | some (ds,δ2)=>if decide (ds.length≤cap) then some (.tmp (.tup (frzs ds)),δ2) else none
    | none=>none
   | none=>none
  | .lst es=>match aN C n es δ with
   | some (as,δ1)=>match bL δ1 as with
    | some (ds,δ2)=>if decide (ds.length≤cap) then some (.tmp (.lst true ds),δ2) else none
    | none=>none
   | none=>none
  | .disS l pre st post=>match Ea C n pre δ with
   | some (ds,δ1)=>match evV C n st δ1 with
    | some (d,δ2)=>match items d.frz with
     | some xs=>match Ea C n post δ2 with
      | some (bs,δ3)=>if decide (ds.length+xs.length+bs.length≤cap) then some (.tmp (HV l (frzs ds++xs++frzs bs)),δ3) else none
      | none=>none
     | none=>none
    | none=>none
   | none=>none
  | .pur e=>match evE C n e (Il δ) with
   | some (.tmp d,_)=>if isAtom d then some (.tmp d,δ) else none
   | _=>none
  | .sub a i=>match aN C n [a,i] δ with
   | some ([x,.tmp (.int k)],δ1)=>match look δ1 x with
    | some d=>match d with
     | .lst _ xs=>match ixN xs.length k with
      | some j=>match xs[j]? with
       | some y=>if y.fz then some (.tmp y,δ1) else match x with
        | .bor s p=>some (.bor s (p++[j]),δ1)
        | .tmp _=>none
       | none=>none
      | none=>none
     | .tup xs=>match ixN xs.length k with
      | some j=>match xs[j]? with
       | some y=>some (.tmp y,δ1)
       | none=>none
      | none=>none
     | .str z=>if decide (z.length≤cap) then match ixN z.cps.toList.length k with
       | some j=>match z.cps.toList[j]? with
        | some y=>some (.tmp (.str ⟨#[y]⟩),δ1)
        | none=>none
       | none=>none
      else none
     | _=>none
    | none=>none
   | _=>none
  | .slice a lo hi=>match aN C n (a::(lo.toList++hi.toList)) δ with
   | some (x::as,δ1)=>match look δ1 x,partsOf lo.isSome hi.isSome as with
    | some d,some (l,h)=>match slD d l h with
     | some r=>some (.tmp r,δ1)
     | none=>match bL δ1 (x::as) with
      | some (d::_,δ2)=>match slD d.frz l h with
       | some r=>some (.tmp r,δ2)
       | none=>none
      | _=>none
    | _,_=>none
   | _=>none
  | .rev a=>match evE C n a δ with
   | some (x,δ1)=>match look δ1 x with
    | some d=>match Ja d with
     | some r=>some (.tmp r,δ1)
     | none=>none
    | none=>none
   | none=>none
  | .call f es=>match aN C n es δ with
   | some (as,δ1)=>br C f as δ1
   | none=>none
  | .callK f es perm=>match aN C n es δ with
   | some (as,δ1)=>match vd perm as with
    | some as=>br C f as δ1
    | none=>none
   | none=>none
  | .callT f es=>match aN C n es δ with
   | some (as,δ1)=>CV C f as δ1
   | none=>none
  | .bi b es=>match aN C n es δ with
   | some (as,δ1)=>match looks δ1 as with
    | some ds=>match biD b ds with
     | some d=>some (.tmp d,δ1)
     | none=>none
    | none=>none
   | none=>none
  | .isi a ts=>match evE C n a δ with
   | some (x,δ1)=>match look δ1 x with
    | some d=>if isObj d then none else some (.tmp (.bl (ts.any (eR d))),δ1)
    | none=>none
   | none=>none
  | .xf a nm cns=>match evE C n a δ with
   | some (x,δ1)=>match look δ1 x with
    | some (.exc cn nms xs)=>if cns.contains cn then match (nms.zip xs).lookup nm with
      | some d=>if tfl d then some (.tmp d,δ1) else none
      | none=>none
     else none
    | _=>none
   | none=>none
  | .isx a t cns=>match evE C n a δ with
   | some (x,δ1)=>match look δ1 x with
    | some (.exc cn nms xs)=>match cns.lookup cn with
     | some b=>some (.tmp (.bl b),δ1)
     | none=>none
    | some .non=>some (.tmp (.bl false),δ1)
    | _=>none
   | none=>none
  | .fld a cn nm i=>match evE C n a δ with
   | some (x,δ1)=>match look δ1 x with
    | some (.obj cn' xs)=>if decide (cn'=cn) then match xs[i]? with
      | some y=>some (.tmp y,δ1)
      | none=>none
     else none
    | some (.mob cn' xs)=>if decide (cn'=cn) then match xs[i]? with
      | some y=>some (.tmp y,δ1)
      | none=>none
     else none
    | _=>none
   | none=>none
  | .wk a=>match evE C n a δ with
   | some (x,δ1)=>match look δ1 x with
    | some (.obj cn [.tpn xs])=>some (.tmp (.obj cn [.tup xs]),δ1)
    | some (.obj cn [.tup xs])=>some (.tmp (.obj cn [.tup xs]),δ1)
    | some (.tpn xs)=>some (.tmp (.tup xs),δ1)
    | _=>none
   | none=>none
  | .tupN a=>match evE C n a δ with
   | some (x,δ1)=>match look δ1 x with
    | some (.lst _ xs)=>match intsOf xs with
     | some _=>some (.tmp (.tpn xs),δ1)
     | none=>none
    | _=>none
   | none=>none
  | .tix a cn nm i e=>match evE C n a δ with
   | some (x,δ1)=>match look δ1 x with
    | some (.obj cn' xs)=>if decide (cn'=cn) then match xs[i]? with
      | some (.tpn ys)=>match evE C n e δ1 with
       | some (.tmp (.int z),δ2)=>match intsOf ys with
        | some ns=>match zg z ns with
         | some j=>some (.tmp (.int j),δ2)
         | none=>none
        | none=>none
       | _=>none
      | _=>none
     else none
    | _=>none
   | none=>none
  | .mthM v cn nm f es=>match evE C n (.var v) δ with
   | some (.bor s [],δ0)=>match slot δ0 s with
    | some (.mob cn' _)=>if decide (cn'=cn) then match aN C n es δ0 with
      | some (as,δ1)=>br C f (.bor s []::as) δ1
      | none=>none
     else none
    | _=>none
   | _=>none
  | .mthMK v cn nm f ks ps es=>match evE C n (.var v) δ with
   | some (.bor s [],δ0)=>match slot δ0 s with
    | some (.mob cn' _)=>if decide (cn'=cn) then match aN C n es δ0 with
      | some (as,δ1)=>match bL δ1 as with
       | some (ds,δ2)=>if fzs ds&&decide (ds.length=ks.length) then br C f (.bor s []::(vz ps (ps.map fun _=>.non) ks ds).map .tmp) δ2 else none
       | none=>none
      | none=>none
     else none
    | _=>none
   | _=>none
  | .dct ks es=>match aN C n es δ with
   | some (as,δ1)=>match bL δ1 as with
    | some (ds,δ2)=>if decide (ds.length=ks.length) then some (.tmp (.dct true ks (frzs ds)),δ2) else none
    | none=>none
   | none=>none
  | .key a k=>match evE C n a δ with
   | some (x,δ1)=>match look δ1 x with
    | some (.dct _ ks xs)=>match (ks.zip xs).lookup k with
     | some y=>some (.tmp y,δ1)
     | none=>none
    | _=>none
   | none=>none
  | .dtk0=>some (.tmp (.dtk true [] []),δ)
  | .dtk1 ke ve=>match evV C n ke δ with
   | some (kd,δ1)=>match nk kd with
    | some q=>match evV C n ve δ1 with
     | some (d,δ2)=>some (.tmp (.dtk true [q] [d.frz]),δ2)
     | none=>none
    | none=>none
   | none=>none
  | .dgt v ke de=>match evE C n (.var v) δ with
   | some (.bor s [],δ1)=>if xN (slot δ1 s) then match evV C n ke δ1 with
     | some (kd,δ2)=>match nk kd with
      | some q=>match evV C n de δ2 with
       | some (d,δ3)=>match slot δ3 s with
        | some (.dtk _ ks xs)=>some (.tmp ((atK ks xs q).getD d.frz),δ3)
        | _=>none
       | none=>none
      | none=>none
     | none=>none
    else none
   | _=>none
  | .dgt1 v ke=>match evE C n (.var v) δ with
   | some (.bor s [],δ1)=>if xN (slot δ1 s) then match evV C n ke δ1 with
     | some (kd,δ2)=>match nk kd with
      | some q=>match slot δ2 s with
       | some (.dtk _ ks xs)=>some (.tmp ((atK ks xs q).getD .non),δ2)
       | _=>none
      | none=>none
     | none=>none
    else none
   | _=>none
  | .dix v ke=>match evE C n (.var v) δ with
   | some (.bor s [],δ1)=>match evV C n ke δ1 with
     | some (kd,δ2)=>match nk kd with
      | some q=>match slot δ2 s with
       | some (.dtk _ ks xs)=>match atK ks xs q with
        | some d=>some (.tmp d,δ2)
        | none=>none
       | _=>none
      | none=>none
     | none=>none
   | _=>none
  | .ob o cn nm f es=>match aN C n es δ with
   | some (as,δ1)=>obD C o cn f as δ1
   | none=>none
  | .clsC v cn nm f st es=>match evE C n (.var v) δ with
   | some (.tmp (.cls cn'),δ0)=>if decide (cn'=cn) then match aN C n es δ0 with
     | some (as,δ1)=>obD C (if st then .st else .new) cn f as δ1
     | none=>none
    else none
   | _=>none
  | .meth m o es=>match m with
   | .index=>match evE C n o δ with
    | some (x,δ1)=>if oD x&&uD (look δ1 x) then match aN C n es δ1 with
      | some (as,δ2)=>match look δ2 x,looks δ2 as with
       | some d,some ds=>match Cr m d ds with
        | some r=>some (.tmp r,δ2)
        | none=>none
       | _,_=>none
      | none=>none
     else none
    | none=>none
   | m=>yW m (aN C n es) (evE C n o δ)
  | .lc elt tg k its ifs own=>match dB C n k its δ with
   | some (xs,δ1)=>if cH δ1 own then match lcL (setT C.lock tg) (cu C n ifs) (evV C n elt) own xs [] (aY δ1 own) with
     | some (ys,δ2)=>some (.tmp (.lst true ys),gh δ1 δ2 own)
     | none=>none
    else none
   | none=>none
  | .dck ke ve tg k its own=>match dB C n k its δ with
   | some (xs,δ1)=>if cH δ1 own then match dcL (setT C.lock tg) (evV C n ke) (evV C n ve) own xs [] [] (aY δ1 own) with
     | some (r,δ2)=>some (.tmp (.dtk true r.1 r.2),gh δ1 δ2 own)
     | none=>none
    else none
   | none=>none
  | .lc2 elt tg k its tg2 k2 its2 own own2=>match dB C n k its δ with
   | some (xs,δ1)=>if cH δ1 own then match zu (setT C.lock tg) (dB C n k2 its2) (lcL (setT C.lock tg2) (cu C n []) (evV C n elt) own2) own own2 xs [] (aY δ1 own) with
     | some (ys,δ2)=>some (.tmp (.lst true ys),gh δ1 δ2 own)
     | none=>none
    else none
   | none=>none
def cu (C:Ctx):Nat→List E→Dl→Option (Bool × Dl)
 | 0,_,_=>none
 | _+1,[],δ=>some (true,δ)
 | n+1,[c],δ=>evT C n c δ
 | _+1,_::_::_,_=>none
def evV (C:Ctx):Nat→E→Dl→Option (D × Dl)
 | 0,_,_=>none
 | n+1,e,δ=>match evE C n e δ with
  | some (a,δ1)=>toV δ1 a
  | none=>none
def Ea (C:Ctx):Nat→List E→Dl→Option (List D × Dl)
 | 0,_,_=>none
 | n+1,es,δ=>match aN C n es δ with
  | some (as,δ1)=>bL δ1 as
  | none=>none
def aN (C:Ctx):Nat→List E→Dl→Option (List A × Dl)
 | 0,_,_=>none
 | _+1,[],δ=>some ([],δ)
 | n+1,e::es,δ=>match evE C n e δ with
  | some (a,δ1)=>match settle es δ1 a with
   | some (a,δ2)=>match aN C n es δ2 with
    | some (as,δ3)=>some (a::as,δ3)
    | none=>none
   | none=>none
  | none=>none
def jJ (C:Ctx):Nat→List E→Dl→Option (A × Dl)
 | 0,_,_=>none
 | _+1,[],_=>none
 | n+1,[e],δ=>evE C n e δ
 | n+1,e::es,δ=>match evE C n e δ with
  | some (a,δ1)=>match look δ1 a with
   | some d=>match fK d with
    | some true=>jJ C n es δ1
    | some false=>some (a,δ1)
    | none=>none
   | none=>none
  | none=>none
def Aq (C:Ctx):Nat→List E→Dl→Option (A × Dl)
 | 0,_,_=>none
 | _+1,[],_=>none
 | n+1,[e],δ=>evE C n e δ
 | n+1,e::es,δ=>match evE C n e δ with
  | some (a,δ1)=>match look δ1 a with
   | some d=>match fK d with
    | some false=>Aq C n es δ1
    | some true=>some (a,δ1)
    | none=>none
   | none=>none
  | none=>none
def evT (C:Ctx):Nat→E→Dl→Option (Bool × Dl)
 | 0,_,_=>none
 | n+1,e,δ=>match e with
  | .band es=>mB C n es δ
  | .bor es=>kD C n es δ
  | .bnot a=>match evT C n a δ with
   | some (b,δ1)=>some (!b,δ1)
   | none=>none
  | e=>match evE C n e δ with
   | some (a,δ1)=>match look δ1 a with
    | some d=>match fK d with
     | some b=>some (b,δ1)
     | none=>none
    | none=>none
   | none=>none
def mB (C:Ctx):Nat→List E→Dl→Option (Bool × Dl)
 | 0,_,_=>none
 | _+1,[],_=>none
 | n+1,[e],δ=>evT C n e δ
 | n+1,e::es,δ=>match evT C n e δ with
  | some (true,δ1)=>mB C n es δ1
  | some (false,δ1)=>some (false,δ1)
  | none=>none
def kD (C:Ctx):Nat→List E→Dl→Option (Bool × Dl)
 | 0,_,_=>none
 | _+1,[],_=>none
 | n+1,[e],δ=>evT C n e δ
 | n+1,e::es,δ=>match evT C n e δ with
  | some (false,δ1)=>kD C n es δ1
  | some (true,δ1)=>some (true,δ1)
  | none=>none
def dB (C:Ctx):Nat→ItK→List E→Dl→Option (List D × Dl)
 | 0,_,_,_=>none
 | n+1,k,es,δ=>match aN C n es δ with
  | some (as,δ1)=>match bL δ1 as with
   | some (ds,δ2)=>match itC C k (frzs ds) with
    | some xs=>some (xs,δ2)
    | none=>none
   | none=>none
  | none=>none
def evS (C:Ctx):Nat→S→Dl→Option Fl
 | 0,_,_=>none
 | n+1,s,δ=>match s with
  | .expr e=>match evE C n e δ with
   | some (_,δ1)=>some (.nx δ1)
   | none=>none
  | .ret e=>match evE C n e δ with
   | some (.tmp d,δ1)=>some (.rt d δ1)
   | some (.bor i [],δ1)=>match slot δ1 i with
    | some d=>if C.lock.contains i then none else some (.rt d (δ1.set i none))
    | none=>none
   | some (.bor i p,δ1)=>match toV δ1 (.bor i p) with
    | some (d,δ2)=>some (.rt d δ2)
    | none=>none
   | none=>none
  | .retN=>some (.rt .non δ)
  | .asg t e=>match evV C n e δ with
   | some (d,δ1)=>match setT C.lock t d δ1 with
    | some δ2=>some (.nx δ2)
    | none=>none
   | none=>none
  | .par is es=>match aN C n es δ with
   | some (as,δ1)=>match bL δ1 as with
    | some (ds,δ2)=>match cE C.lock is ds δ2 with
     | some δ3=>some (.nx δ3)
     | none=>none
    | none=>none
   | none=>none
  | .setIx o i e=>match aN C n [e,o,i] δ with
   | some ([v,.bor s p,.tmp (.int k)],δ1)=>match toV δ1 v with
    | some (d,δ2)=>match bN δ2 s p (fun x=>match x with
      | .lst true xs=>match ixN xs.length k with
       | some j=>some (.lst true (xs.set j d))
       | none=>none
      | _=>none) with
     | some δ3=>some (.nx δ3)
     | none=>none
    | none=>none
   | _=>none
  | .setF v cn nm i e=>match evV C n e δ with
   | some (d,δ1)=>match evE C n (.var v) δ1 with
    | some (.bor s [],δ2)=>match slot δ2 s with
     | some (.mob cn' xs)=>if decide (cn'=cn)&&d.fz&&decide (i<xs.length) then some (.nx (δ2.set s (some (.mob cn' (xs.set i d))))) else none
     | _=>none
    | _=>none
   | none=>none
  | .parF v cn fs es=>match aN C n es δ with
   | some (as,δ1)=>match bL δ1 as with
    | some (ds,δ1)=>match evE C n (.var v) δ1 with
     | some (.bor s [],δ2)=>match slot δ2 s with
      | some (.mob cn' xs)=>if decide (cn'=cn)&&fzs ds&&decide (ds.length=fs.length)&&fs.all (fun p=>decide (p.2<xs.length)) then some (.nx (δ2.set s (some (.mob cn' (xZ xs fs ds))))) else none
      | _=>none
     | _=>none
    | none=>none
   | none=>none
  | .setD v ke e=>match evV C n e δ with
   | some (d,δ1)=>match evE C n (.var v) δ1 with
    | some (.bor s [],δ2)=>match evV C n ke δ2 with
     | some (kd,δ3)=>match nk kd with
      | some q=>match slot δ3 s with
       | some (.dtk true ks xs)=>if Nat.ble ks.length 100000 then some (.nx (δ3.set s (some (.dtk true (putD ks xs q d.frz).1 (putD ks xs q d.frz).2)))) else none
       | _=>none
      | none=>none
     | none=>none
    | _=>none
   | none=>none
  | .updD v e=>match evE C n (.var v) δ with
   | some (.bor s [],δ1)=>if xN (slot δ1 s) then match evV C n e δ1 with
     | some (.dtk true ks2 xs2,δ2)=>match slot δ2 s with
      | some (.dtk true ks xs)=>if (!ks.isEmpty||fX ks2)&&Nat.ble (ks.length+ks2.length) 100000 then some (.nx (δ2.set s (some (.dtk true (lq ks xs ks2 xs2).1 (lq ks xs ks2 xs2).2)))) else none
      | _=>none
     | _=>none
    else none
   | _=>none
  | .setK v k e=>match evV C n e δ with
   | some (d,δ1)=>match evE C n (.var v) δ1 with
    | some (.bor s [],δ2)=>match slot δ2 s with
     | some (.dct true ks xs)=>match ixK k ks with
      | some i=>if decide (i<xs.length)&&decide (ks.length≤15) then some (.nx (δ2.set s (some (.dct true ks (xs.set i d.frz))))) else none
      | none=>none
     | _=>none
    | _=>none
   | none=>none
  | .parK v ks es=>match aN C n es δ with
   | some (as,δ1)=>match bL δ1 as with
    | some (ds,δ1)=>match evE C n (.var v) δ1 with
     | some (.bor s [],δ2)=>match slot δ2 s with
      | some (.dct true ns xs)=>if decide (ds.length=ks.length)&&ks.all (inK ns xs.length)&&decide (ns.length≤15) then some (.nx (δ2.set s (some (.dct true ns (Bt ns xs ks (frzs ds)))))) else none
      | _=>none
     | _=>none
    | none=>none
   | none=>none
  | .swapIx o1 i1 o2 i2 e=>match evV C n e δ with
   | some (.tup [a,b],δ1)=>match aN C n [o1,i1] δ1 with
    | some ([.bor s1 [],.tmp (.int k1)],δ2)=>match bN δ2 s1 [] (fun x=>match x with
      | .lst true xs=>match ixN xs.length k1 with
       | some j=>some (.lst true (xs.set j a))
       | none=>none
      | _=>none) with
     | some δ3=>match aN C n [o2,i2] δ3 with
      | some ([.bor s2 [],.tmp (.int k2)],δ4)=>match bN δ4 s2 [] (fun x=>match x with
        | .lst true xs=>match ixN xs.length k2 with
         | some j=>some (.lst true (xs.set j b))
         | none=>none
        | _=>none) with
       | some δ5=>some (.nx δ5)
       | none=>none
      | _=>none
     | none=>none
    | _=>none
   | _=>none
  | .aug i op e=>match slot δ i with
   | some (.int x)=>match evE C n e δ with
    | some (.tmp (.int y),δ1)=>match Jh op x y with
     | some z=>match cR C.lock i (.int z) δ1 with
      | some δ2=>some (.nx δ2)
      | none=>none
     | none=>none
    | _=>none
   | _=>none
  | .ifs c a b=>match evT C n c δ with
   | some (true,δ1)=>bg C n a δ1
   | some (false,δ1)=>bg C n b δ1
   | none=>none
  | .for_ tg k its body=>match dB C n k its δ with
   | some (xs,δ1)=>forL (setT C.lock tg) (bg C n body) xs δ1
   | none=>none
  | .while_ c body=>fY (evT C n c) (bg C n body) 1000 δ
  | .pass=>some (.nx δ)
  | .brk=>some (.bk δ)
  | .cont=>some (.ct δ)
  | .bad=>none
  | .raise cn nms es=>none
  | .raiseF cn nms es cn2 nms2 es2=>none
  | .asgS i j e=>match evV C n e δ with
   | some (d,δ1)=>match nP d with
    | some (x,xs)=>if i != j then match cR C.lock i x δ1 with
      | some δ2=>match cR C.lock j (.lst true xs) δ2 with
       | some δ3=>some (.nx δ3)
       | none=>none
      | none=>none
     else none
    | none=>none
   | none=>none
def bg (C:Ctx):Nat→List S→Dl→Option Fl
 | 0,_,_=>none
 | _+1,[],δ=>some (.nx δ)
 | n+1,s::ss,δ=>match evS C n s δ with
  | some (.nx δ1)=>bg C n ss δ1
  | r=>r
end
def isX:D→Bool
 | .exc _ _ xs=>wc xs
 | _=>false
def lI (C:Ctx) (f:Nat) (as:List A) (δ:Dl):Option (D × Dl):=if deep (C.io f) then none else match i7 (C.io f) 0 as δ with
  | some (os,δm)=>match valOf os as δm with
   | some (ds,_)=>match C.call (1000+f) ds with
    | some (x,outs)=>if isX x then some (x,bR (C.io f) 0 as outs δm) else none
    | none=>none
   | none=>none
  | none=>none
def rSt (C:Ctx) (xn:Str) (f:Nat) (as:List A) (δ:Dl):Option (D × Dl):=match as with
 | [.tmp (.int a),.tmp (.int b),.tmp (.int u)]=>match C.call f [.int a,.int b,.int u] with
  | some (.lst true [],_)=>some (.exc xn ["used"] [.int u],δ)
  | _=>none
 | _=>none
def HP:List Int→List Int→Option Int
 | _,[]=>none
 | pre,x::xs=>if pre.contains x then some x else HP (pre++[x]) xs
def IB:D→Option (List Int)
 | .tup xs=>intsOf xs
 | .lst _ xs=>intsOf xs
 | _=>none
def Ij (C:Ctx) (f:Nat) (as:List A) (δ:Dl):Option (D × Dl):=match as with
 | [a]=>match look δ a with
  | some d=>match IB d with
   | some ns=>match HP [] ns with
    | some z=>match C.call f [.tup []] with
     | some _=>some (.exc "Twice" ["item"] [.int z],δ)
     | none=>none
    | none=>none
   | none=>none
  | none=>none
 | _=>none
def rOb (C:Ctx) (o:OOp) (cn nm:Str) (f:Nat) (as:List A) (δ:Dl):Option (D × Dl):=match o with
 | .mth=>match as with
  | .tmp d::bs=>if isOf cn (some d) then lI C f (.tmp d::bs) δ else none
  | _=>none
 | .bin sq=>match as with
  | .tmp d::bs=>match looks δ bs with
   | some [e]=>if isOf cn (some d)&&okR sq cn e then lI C f (.tmp d::bs) δ else none
   | _=>none
  | _=>none
 | .binI=>match as with
  | .tmp d::bs=>match looks δ bs with
   | some [e]=>if isOf cn (some d)&&okI cn e then lI C f (.tmp d::bs) δ else none
   | _=>none
  | _=>none
 | .tX=>Ij C f as δ
 | .st=>rSt C nm f as δ
 | .stK perm=>match vd perm as with
  | some as'=>rSt C nm f as' δ
  | none=>none
 | .cm=>lI C f (.tmp (.cls cn)::as) δ
 | .cmK _=>lI C f (.tmp (.cls cn)::as) δ
 | _=>none
def G3:E→Bool
 | .ob .mth _ _ _ (.var _::_)=>true
 | .ob .mth _ _ _ (.wk (.var _)::_)=>true
 | .call _ _=>true
 | .ob .cm _ _ _ _=>true
 | .mthM _ _ _ _ _=>true
 | _=>false
def Gz (set:D→Dl→Option Dl) (test:Dl→Option (Bool × Dl)) (elt:Dl→Option (D × Dl)) (relt:Dl→Option (D × Dl)) (own:List Nat):List D→List D→Dl→Option (D × Dl)
 | [],_,_=>none
 | x::xs,acc,δ=>match set x δ with
  | none=>none
  | some δ1=>match test δ1 with
   | none=>none
   | some (false,δ2)=>Gz set test elt relt own xs acc (aY δ2 own)
   | some (true,δ2)=>match relt δ2 with
    | some (r,δ3)=>some (r,aY δ3 own)
    | none=>match elt δ2 with
     | none=>none
     | some (y,δ3)=>if decide (acc.length<cap) then Gz set test elt relt own xs (acc++[y]) (aY δ3 own) else none
def rE (C:Ctx):Nat→E→Dl→Option (D × Dl)
 | 0,_,_=>none
 | n+1,e,δ=>match e with
  | .call f es=>if es.isEmpty then none else match aN C n es δ with
   | some (as,δ1)=>lI C f as δ1
   | none=>match es with
    | [e1]=>if G3 e1 then rE C n e1 δ else none
    | _=>none
  | .sub a _=>rE C n a δ
  | .ob o cn nm f es=>match aN C n es δ with
   | some (as,δ1)=>rOb C o cn nm f as δ1
   | none=>match o,es with
    | .new,[.lc elt tg k its ifs own]=>if G3 elt&&(C.call f [.tup []]).isSome then match dB C n k its δ with
      | some (xs,δ1)=>if cH δ1 own then match Gz (setT C.lock tg) (cu C n ifs) (evV C n elt) (rE C n elt) own xs [] (aY δ1 own) with
        | some (r,δ2)=>some (r,gh δ1 δ2 own)
        | none=>none
       else none
      | none=>none
     else none
    | .mth,e1::_=>rE C n e1 δ
    | _,_=>none
  | .ite c a b=>match evT C n c δ with
   | some (t,δ1)=>rE C n (if t then a else b) δ1
   | none=>none
  | .clsC v cn nm f st es=>match evE C n (.var v) δ with
   | some (.tmp (.cls cn'),δ0)=>if st&&decide (cn'=cn) then match aN C n es δ0 with
     | some (as,δ1)=>rSt C nm f as δ1
     | none=>none
    else none
   | _=>none
  | .mthM v cn _ f es=>match evE C n (.var v) δ with
   | some (.bor s [],δ0)=>match slot δ0 s with
    | some (.mob cn' _)=>if decide (cn'=cn) then match aN C n es δ0 with
      | some (as,δ1)=>lI C f (.bor s []::as) δ1
      | none=>match es with
       | [e1]=>if G3 e1 then rE C n e1 δ0 else none
       | _=>none
     else none
    | _=>none
   | _=>none
  | .mthMK v cn _ f ks ps es=>match evE C n (.var v) δ with
   | some (.bor s [],δ0)=>match slot δ0 s with
    | some (.mob cn' _)=>if decide (cn'=cn) then match aN C n es δ0 with
      | some (as,δ1)=>match bL δ1 as with
       | some (ds,δ2)=>if fzs ds&&decide (ds.length=ks.length) then lI C f (.bor s []::(vz ps (ps.map fun _=>.non) ks ds).map .tmp) δ2 else none
       | none=>none
      | none=>none
     else none
    | _=>none
   | _=>none
  | _=>none
def Aj (set:D→Dl→Option Dl) (rb:Dl→Option (D × Dl)) (body:Dl→Option Fl):List D→Dl→Option (D × Dl)
 | [],_=>none
 | x::xs,δ=>match set x δ with
  | none=>none
  | some δ1=>match rb δ1 with
   | some r=>some r
   | none=>match body δ1 with
    | some (.nx δ2)=>Aj set rb body xs δ2
    | some (.ct δ2)=>Aj set rb body xs δ2
    | _=>none
mutual
def rS (C:Ctx):Nat→S→Dl→Option (D × Dl)
 | 0,_,_=>none
 | n+1,s,δ=>match s with
  | .expr e=>rE C n e δ
  | .ret e=>rE C n e δ
  | .asg _ e=>rE C n e δ
  | .ifs c a b=>match evT C n c δ with
   | some (t,δ1)=>rSs C n (if t then a else b) δ1
   | none=>none
  | .raise cn nms es=>match aN C n es δ with
   | some (as,δ1)=>match bL δ1 as with
    | some (ds,δ2)=>if wc ds&&decide (ds.length=nms.length) then some (.exc cn nms.reverse ds.reverse,δ2) else none
    | none=>none
   | none=>none
  | .raiseF cn nms es cn2 nms2 es2=>match aN C n es δ with
   | some (as,δ1)=>match bL δ1 as with
    | some (ds,δ2)=>if wc ds&&decide (ds.length=nms.length) then match aN C n es2 δ2 with
      | some (as2,δ3)=>match bL δ3 as2 with
       | some (ds2,δ4)=>if decide (ds2.length=nms2.length) then some (.exc cn nms.reverse ds.reverse,δ4) else none
       | none=>none
      | none=>none
     else none
    | none=>none
   | none=>none
  | .par _ es=>match es with
   | e::_=>rE C n e δ
   | []=>none
  | .for_ tg k its body=>match dB C n k its δ with
   | some (xs,δ1)=>Aj (setT C.lock tg) (fun δ=>rSs C n body δ) (bg C n body) xs δ1
   | none=>none
  | _=>none
def rSs (C:Ctx):Nat→List S→Dl→Option (D × Dl)
 | 0,_,_=>none
 | n+1,ss,δ=>match ss with
  | []=>none
  | s::ss=>match rS C n s δ with
   | some r=>some r
   | none=>match evS C n s δ with
    | some (.nx δ1)=>rSs C n ss δ1
    | _=>none
end
structure Tr where
 body:List S
 ei:Nat
 ci:Nat
 cs:List Str
 post:List S
 su:Option (List S):=none
 nm:Bool:=true
 sco:Option (List Nat):=none
 rz:Option (Str × Str):=none
 deriving Inhabited,Repr
def IJ:D→Option Str
 | .exc cn _ _=>some cn
 | _=>none
def H6 (C:Ctx) (t:Tr) (δ:Dl):Option Fl:=match bg C 100 t.body δ with
 | some r=>some r
 | none=>match rSs C 100 t.body δ with
  | some (x,δ1)=>match IJ x with
   | some cn=>if !t.nm then (if t.cs.contains cn then match t.su with
     | some ss=>match bg C 100 ss δ1 with
      | some (.rt d δ3)=>some (.rt d δ3)
      | some (.nx δ3)=>some (.nx δ3)
      | _=>none
     | none=>none
    else none) else if t.cs.contains cn&&(slot δ1 t.ei).isNone&&t.ei != t.ci&&!C.lock.contains t.ei then match t.su with
    | none=>match cR C.lock t.ci x δ1 with
     | some δ2=>some (.nx δ2)
     | none=>none
    | some ss=>match cR C.lock t.ei x δ1 with
     | some δ2=>match bg C 100 ss δ2 with
      | some (.rt d δ3)=>some (.rt d δ3)
      | some (.nx δ3)=>some (.nx (δ3.set t.ei none))
      | _=>none
     | none=>none
    else none
   | none=>none
  | none=>none
def rQ (C:Ctx) (post:List S):Option Fl→Option Fl
 | some (.nx δ)=>bg C 100 post δ
 | r=>r
structure Fn where
 n:Nat
 ps:Nat
 io:List Nat
 body:List S
 vt:Option (Nat × List (Str × Nat)):=none
 tr:Option Tr:=none
 deriving Inhabited,Repr
def CK:S:=.asg (.nm 2) (.bi .tuple1 [(.var 1)])
def B4:S:=.for_ (.tp [3,4]) .enum [(.var 2)] [.ifs (.cmp .isin (.var 4) (.slice (.var 2) none (some (.var 3)))) [.bad] []]
abbrev CI:Ctx:=⟨fun _ _=>none,fun _=>[],[0]⟩
abbrev CI2:Ctx:=⟨fun _ _=>none,fun _=>[],[0,2]⟩
def vM (d:D):Option (List D):=match evS CI 99 CK [none,some d,none,none,none] with
 | some (.nx δ1)=>match evS CI2 98 B4 δ1 with
  | some (.nx δ2)=>match slot δ2 2 with
   | some (.tup rs)=>if fzs rs then some rs else none
   | _=>none
  | _=>none
 | _=>none
structure tq where
 take:Nat
 done:Nat
 rest:Nat
 state:Nat
 text:Nat
 items:Nat
 good:Nat
 frm:Nat
 goOn:Nat
 chg:Nat
 ld:Nat
abbrev DkR:=Option ((Bool × Str) × List D)
def mK:List D→Option (List D)
 | [.mob cn ls]=>if cn="Loader" then some ls else none
 | _=>none
def As (C:Ctx) (ix:tq) (r:D):Option Str:=match C.call ix.items [r] with
 | some (.str z,_)=>some z
 | _=>none
abbrev HR:List Str:=["NoBatch","BadText","Unlike","NoState","Uneven"]
def Hm:Option (D × List D)→DkR
 | some (.exc cn _ _,outs)=>if HR.contains cn then (mK outs).map fun ls'=>((false,cn),ls') else none
 | _=>none
def ze (C:Ctx) (ix:tq) (f:Nat) (ls:List D):DkR:=match C.call f [.mob "Loader" ls] with
 | some (r,outs)=>match mK outs,As C ix r with
  | some ls',some z=>some ((true,z),ls')
  | _,_=>none
 | none=>Hm (C.call (1000+f) [.mob "Loader" ls])
def Gj:List D→List D→Option (List D)
 | [b,l,d,_,_,_,_,w],[_,_,_,e,i,r,y,_]=>some [b,l,d,e,i,r,y,w]
 | _,_=>none
def CY (C:Ctx) (ix:tq) (fails:Bool) (ls:List D):DkR:=if ls.length=8 then match C.call ix.take [.mob "Loader" ls] with
  | some (r,outs)=>match mK outs,As C ix r with
   | some ls',some z=>if fails then (Gj ls ls').map fun q=>((true,z),q) else some ((true,z),ls')
   | _,_=>none
  | none=>Hm (C.call (1000+ix.take) [.mob "Loader" ls])
 else none
def zE (C:Ctx) (ix:tq) (ls:List D):DkR:=match C.call ix.state [.mob "Loader" ls] with
 | some (.obj cn xs,outs)=>if cn="State" then match mK outs,C.call ix.text [.obj cn xs] with
   | some ls',some (.str z,_)=>some ((true,z),ls')
   | _,_=>none
  else none
 | _=>none
def Hr (ls:List D):DkR:=match (ls[1]?:Option D) with
 | some (.int i)=>if aU i then some ((true,toString i),ls) else none
 | _=>none
def Bv (C:Ctx) (ix:tq) (word:Str) (ls:List D):DkR :=
 if word="take" then ze C ix ix.take ls else if word="done" then ze C ix ix.done ls else if word="rest" then ze C ix ix.rest ls
 else if word="state" then zE C ix ls else if word="lap" then Hr ls else CY C ix (decide (word="fail")) ls
def Dm (C:Ctx) (ix:tq) (n:Int) (way ends:Str) (k:Int) (ls:List D):DkR:=match (ls[0]?:Option D),(ls[7]?:Option D) with
 | some (.int b),some (.int w)=>match C.call ix.good [.tup [.str way,.int w,.int b,.str ends],.tup [.str way,.int k,.int b,.str ends],.int n] with
  | some (r,_)=>(As C ix r).map fun z=>((true,z),ls)
  | none=>none
 | _,_=>none
def Gh (C:Ctx) (f:Nat) (ls:List D) (ds:List D):DkR:=match C.call f (.mob "Loader" ls::ds) with
 | some (_,outs)=>(mK outs).map fun ls'=>((true,"done"),ls')
 | none=>Hm (C.call (1000+f) (.mob "Loader" ls::ds))
def IP (C:Ctx) (ix:tq) (z:Str) (ls:List D):DkR:=match C.call ix.frm [.cls "State",.str z] with
 | some (.obj cn xs,_)=>if fzs xs then Gh C ix.goOn ls [.obj cn xs] else none
 | some _=>none
 | none=>match C.call (1000+ix.frm) [.cls "State",.str z] with
  | some (.exc cn _ _,_)=>if HR.contains cn then some ((false,cn),ls) else none
  | _=>none
def vG (C:Ctx) (ix:tq) (n:Int) (way ends:Str) (word:Str) (m:D) (ls:List D):DkR :=
 if word="good" then match m with
  | .int k=>Dm C ix n way ends k ls
  | _=>none
 else if word="go" then match m with
  | .str z=>IP C ix z ls
  | _=>none
 else match m with
  | .int k=>if word="workers" then Gh C ix.chg ls [.int k,.non] else Gh C ix.chg ls [.non,.int k]
  | _=>none
def vF (C:Ctx) (ix:tq) (n:Int) (way ends:Str):D→List D→Option (Str × List D)
 | .tup (.str word::rest),ls=>match (match rest with
   | []=>Bv C ix word ls
   | [m]=>vG C ix n way ends word m ls
   | _=>none) with
  | some ((true,z),ls')=>some (z,ls')
  | some ((false,cn),ls')=>some ("refused " ++ cn,ls')
  | none=>none
 | _,_=>none
def DV (C:Ctx) (ix:tq) (n:Int) (way ends:Str):List D→List D→Option (List D)
 | [],_=>some []
 | q::qs,ls=>match vF C ix n way ends q ls with
  | some (z,ls')=>(DV C ix n way ends qs ls').map (.str z::·)
  | none=>none
def uN:List (Str × Nat)→Option tq
 | [(_,a),(_,b),(_,c),(_,d),(_,e),(_,f),(_,g),(_,h),(_,i),(_,j),(_,k)]=>some ⟨a,b,c,d,e,f,g,h,i,j,k⟩
 | _=>none
def dkF (C:Ctx) (ways:List (Str × Nat)):List D→Option (List D)
 | [.int n,rule,.tup [.str way,.int w,.int b,.str ends],.lst _ qs]=>match uN ways with
  | some ix=>if rule.fz&&fzs qs&&decide (0≤n)&&decide (n≤1000)&&decide (qs.length≤cap) then match C.call ix.ld [.tup (aC 0 1 n.toNat),rule,.str way,.int w,.int b,.str ends] with
    | some (.lst _ (r::rs),_)=>DV C ix n way ends qs (r::rs)
    | _=>none
   else none
  | none=>none
 | _=>none
def xM (C:Ctx) (it:Nat) (ways:List (Str × Nat)):List D→Option (List D)
 | [rule,items,lap]=>match evS C 99 (.asg (.nm 4) (.call it [.var 1])) [none,some rule,some items,some lap,none,none] with
  | some (.nx δ1)=>match evE C 97 (.sub (.var 4) (.int 0)) δ1 with
   | some (.tmp (.str w),δ2)=>match ways.lookup w with
    | some f=>match δ2[5]? with
     | some none=>match evE C 96 (.call f [(.bi .tuple1 [.var 2]),.var 3,.var 4]) δ2 with
      | some (.tmp d,_)=>vM d
      | _=>none
     | _=>none
    | none=>none
   | _=>none
  | _=>none
 | [a,b,c,d]=>dkF C ways [a,b,c,d]
 | _=>none
abbrev stN:Nat:=7777
def stF:List D→Option (List D)
 | [.int a,.int b,.int u]=>some (if u<a then [.int b,.tup [.int a,.int b,.int u],.int a,.int u] else [])
 | _=>none
def ldF (C:Ctx) (it:Nat):List D→Option (List D)
 | [items,rule,.str way,.int wk,.int bt,.str en]=>match aN C 99 [(.bi .tuple1 [.var 1]),(.call it [.var 2])] [none,some items,some rule,some (.str way),some (.int wk),some (.int bt),some (.str en)] with
  | some (as,δ1)=>match bL δ1 as with
   | some ([a,b],_)=>if a.fz&&b.fz then some [.int bt,.int 0,.tup [],.str en,a,b,.str way,.int wk] else none
   | _=>none
  | none=>none
 | _=>none
def rB (C:Ctx) (it:Nat) (ways:List (Str × Nat)) (ds:List D):Option (List D):=match ways with
 | []=>if it=stN then stF ds else if 8000≤it then ldF C (it-8000) ds else match ds with
  | [d]=>vM d
  | _=>none
 | w::ws=>xM C it (w::ws) ds
def bc (δ:Dl) (io:List Nat):Nat→Nat→Option (List D)
 | _,0=>some []
 | j,m+1=>if io.contains j then match slot δ j,bc δ io (j+1) m with
   | some d,some ds=>if bY d||deep io then some (d::ds) else none
   | _,_=>none
  else bc δ io (j+1) m
def bE (f:Fn) (ds:List D):Dl:=ds.map some++List.replicate (f.n-ds.length) none
def BQ (C:Ctx) (t:Tr) (vars:List Nat) (δ:Dl):Option Fl:=match bg ⟨C.call,C.io,((List.range δ.length).filter fun i=>!vars.contains i)++C.lock⟩ 100 t.body (δ.map (Option.map D.frz)) with
 | some (.nx δ2)=>if δ2.length=δ.length then some (.nx (aY δ vars)) else none
 | _=>none
def wL (C:Ctx) (f:Fn) (δ:Dl):Option Fl:=match f.tr with
 | none=>bg C 100 f.body δ
 | some t=>match t.sco with
  | some vars=>rQ C t.post (match bg C 100 f.body δ with
   | some (.nx δ1)=>BQ C t vars δ1
   | _=>none)
  | none=>rQ C t.post (match bg C 100 f.body δ with
   | some (.nx δ1)=>H6 C t δ1
   | _=>none)
def IZ (t:Tr):Bool:=t.rz.isNone&&t.sco.isNone&&t.su.isNone&&!t.nm
def FO (C:Ctx) (f:Fn) (δ:Dl):Option (D × Dl):=match f.tr with
 | none=>rSs C 100 f.body δ
 | some t=>match t.rz with
  | none=>if IZ t then rSs C 100 f.body δ else none
  | some (cC,cB)=>match rSs C 100 f.body δ with
   | some r=>some r
   | none=>match bg C 100 f.body δ with
    | some (.nx δ1)=>match rSs C 100 t.body δ1 with
     | some (.exc cn (_::_) _,δ2)=>if cn==cC&&!C.lock.contains t.ei then some (.exc cB [] [],δ2.set t.ei none) else none
     | _=>none
    | _=>none
def evF (T:List Fn):Nat→Nat→List D→Option (D × List D)
 | 0,_,_=>none
 | k+1,g,ds=>match T[g]? with
  | none=>match T[g-1000]? with
   | some f=>if decide (1000≤g)&&f.vt.isNone&&decide (ds.length=f.ps) then match FO ⟨evF T k,fun h=>((T[h]?).map (·.io)).getD [],f.io⟩ f (bE f ds) with
     | some (x,δ)=>(bc δ f.io 0 f.ps).map fun o=>(x,o)
     | none=>none
    else none
   | none=>none
  | some f=>match f.vt with
   | some (it,ways)=>match k with
    | k'+8=>(rB ⟨evF T k',fun h=>((T[h]?).map (·.io)).getD [],[0]⟩ it ways ds).map fun rs=>(.lst true rs,[])
    | _=>none
   | none=>if ds.length=f.ps then match wL ⟨evF T k,fun h=>((T[h]?).map (·.io)).getD [],f.io⟩ f (bE f ds) with
    | some (.rt d δ)=>(bc δ f.io 0 f.ps).map fun o=>(d,o)
    | some (.nx δ)=>(bc δ f.io 0 f.ps).map fun o=>(.non,o)
    | _=>none
   else none
end Ev
namespace Ev
open PySem PySem.Spec PyProof.Rows L2 PySem.W
theorem j9:∀ ns ms:List Int,PyProof.Rows.lexLt itemOrd (keyToksAll (ns.map PyData.int)) (keyToksAll (ms.map PyData.int))=ltI ns ms
 | [],[]=>by rfl
 | [],y::ys=>by rfl
 | x::xs,[]=>by rfl
 | x::xs,y::ys=>by
  rw [List.map_cons,List.map_cons]
  have a:alike (.int x) (.int y)=true:=by simp [alike]
  by_cases h:x=y
  ·rw [dataLt_all_yes a (by simp [PyData.eqv,h]),j9 xs ys]
   simp [ltI,h]
  ·rw [dataLt_all_no a (by simp [PyData.eqv,h]),dataLt_int]
   simp [ltI,h]
theorem fU:∀ ns ms:List Int,alike (.tuple (ns.map PyData.int)) (.tuple (ms.map PyData.int))=true:=by
 intro ns ms
 simp only [alike]
 induction ns generalizing ms with
 | nil=>cases ms<;>simp [alikeAll]
 | cons n ns ih =>
  cases ms with
  | nil=>simp [alikeAll]
  | cons m ms =>
   simp only [List.map_cons,alikeAll,Bool.and_eq_true]
   exact ⟨by simp [alike],ih ms⟩
theorem iA:∀ ns:List Int,(PyData.tuple (ns.map PyData.int)).depth≤2:=by
 intro ns
 induction ns with
 | nil=>decide
 | cons n ns ih=>simp_all [PyData.depth,PyData.depthAll]
section
variable {X:Cx}
def ID (K:Frag):R2:=fun x y H Q=>∃ ns ms:List Int,Dp K H x (.tuple (ns.map PyData.int))∧Dp K H y (.tuple (ms.map PyData.int))∧Q (.bl (ltI ms ns)) H
theorem B5 (d:X.A.units+4<cLine):OpR X (compareOp .Gt) (ID X.K):=by
 intro pins s σ H x y v u Q I a b h
 obtain ⟨ns,ms,hd,he,q⟩:=h
 obtain ⟨as,r1⟩:=Dp.reads I _ x v hd a
 obtain ⟨bs,c⟩:=Dp.reads I _ y u he b
 refine gt_data r1 c (fU ns ms) (fun z=>nomatch z) (by have:=iA ns;omega) ⟨.bl _,H,I,rfl,?_⟩
 rw [dataLt_tuple,j9]
 exact q
def G7 (K:Frag):R2:=fun x y H Q=>∃ ns ms:List Int,Dp K H x (.tuple (ns.map PyData.int))∧Dp K H y (.tuple (ms.map PyData.int))∧Q (.bl (!ltI ms ns)) H
theorem zl (d:X.A.units+4<cLine):OpR X (compareOp .LtE) (G7 X.K):=by
 intro pins s σ H x y v u Q I a b h
 obtain ⟨ns,ms,hd,he,q⟩:=h
 obtain ⟨as,r1⟩:=Dp.reads I _ x v hd a
 obtain ⟨bs,c⟩:=Dp.reads I _ y u he b
 refine le_data r1 c (fU ns ms) (fun z=>nomatch z) (by have:=iA ns;omega) ⟨.bl _,H,I,rfl,?_⟩
 rw [dataLt_tuple,j9]
 exact q
def Ga (K:Frag):R2:=fun x y H Q=>∃ ns ms:List Int,Dp K H x (.tuple (ns.map PyData.int))∧Dp K H y (.tuple (ms.map PyData.int))∧Q (.bl (!ltI ns ms)) H
theorem Am (d:X.A.units+4<cLine):OpR X (compareOp .GtE) (Ga X.K):=by
 intro pins s σ H x y v u Q I a b h
 obtain ⟨ns,ms,hd,he,q⟩:=h
 obtain ⟨as,r1⟩:=Dp.reads I _ x v hd a
 obtain ⟨bs,c⟩:=Dp.reads I _ y u he b
 refine ge_data r1 c (fU ns ms) (fun z=>nomatch z) (by have:=iA ns;omega) ⟨.bl _,H,I,rfl,?_⟩
 rw [dataLt_tuple,j9]
 exact q
end
end Ev
namespace Xc
open PySem PySem.Spec PySem.W PySem.Calls PyProof.Rows
section
variable {prog:Program} {w:World} {M:Model} {A:Around} {E:Value→Shared→Prop} {h:Heap} {g:Array GenState} {d:Drawn} {t:Nat} {os:OsState}
variable {nm q:Str} {C N:Addr} {bs bm bmB:List Value} {hdct:Bool} {sn:List Str} {sub:List Value} {ab:Bool} {col:Option Bool} {dd:Option Addr} {k0 k1 k2 k3 k5:Option Value} {B newId i:String}
structure Bas where
 nm:String
 newId:String
 initId:String
 mro:List Value
section
open Builtin Builtin.ObjectAttr
variable {R:Result→Shared→Prop} {K:Frag}
end
section
variable {bb:Bas} {K:Frag} {mg:Str→Option Value} {base:Heap} {C fI cc e t0 L:Addr} {qual:Str} {params:Arguments} {body rest:List Stmt} {scope:Scope} {fd:FuncData} {m:Str→Option Value} {es:List Expr} {us:List Value} {p0 p1 p2 p3 p4:Pos} {cda:Addr}
end
end
end Xc
namespace Xn
open PySem PySem.Spec PyProof.Rows L2
def Zd (cls:Value) (d:Option Addr):Obj→Prop:=fun o=>o.cls=cls∧o.dict=d∧(d≠none→PXN.CtxN o)
end Xn
namespace Xc
open PySem PySem.Spec PySem.W PySem.Calls PyProof.Rows L2
end Xc
namespace Xc
open PySem PySem.Spec PySem.W PySem.Calls PyProof.Rows L2
section
variable {M:Model} {K:Frag} {A:Around} {E:Value→Shared→Prop} {s:Shared}
end
section
variable {X:Cx} {pins:List (Addr × Obj)} {σ:L2.St} {H:Hp} {s:Shared}
def HQ (a:Addr) (cls:Value) (d:Option Addr):HO:=.ext fun h=>∃ oe vs,h.get? a=some oe∧Xn.Zd cls d oe∧oe.data=.fields vs
end
end Xc
namespace Xc
open PySem PySem.Spec PySem.W PySem.Calls PyProof.Rows L2
section
variable {prog:Program} {w:World} {A:Around} {E:Value→Shared→Prop} {s:Shared} {K:Frag} {x D:Addr} {ox:Obj} {od:Option Obj}
end
def rIsK (K:Frag):List V→Hp→VK→Prop:=fun xs H Q=>∃ (a C:Addr) (d:Option Addr) (c:V) (cv:Value) (b:Bool),xs=[.ref a,c]∧H a=some (HQ a (.ref C) d)∧(∀ dd,d=some dd→∃ fs,H dd=some (.xd fs))∧ExcC K C∧(∀ u,RelV c u→u=cv)∧kitOne K (.ref C) cv=some b∧Q (.bl b) H
end Xc
namespace Ev.Dt
open PySem PySem.Spec PyProof.Rows L2
abbrev Row:=Addr × List Int × V
def cF (L:List Row):List (List Int):=L.map fun p=>p.2.1
def mM (L:List Row):List V:=L.map fun p=>p.2.2
def Ent (p:Row) (q:List Int × Addr × Value):Prop:=p.2.1=q.1∧p.1=q.2.1∧RelV p.2.2 q.2.2
def mO (k:List Int):Int:=reduceHash (Builtin.Tuple.tupleHashOf (k.map hashInt))
def HD (q:List Int × Addr × Value):DictEntry:=⟨mO q.1,.ref q.2.1,q.2.2⟩
structure DkT (d:Addr) (ob:Obj) (L:List Row):Prop where
 lo:(d==sysModules)=false
 sz:L.length≤sizeLine
 ex:ob.ExactDict
 ent:∃ es ep xs,ob.data=.dict es ep∧Paired Ent L xs∧es.toList=xs.map HD∧(xs.map (·.1)).Nodup
def DkO (d:Addr) (ob:Obj) (L:List Row):HO:=.ext fun h=>h.get? d=some ob∧DkT d ob L
theorem gG {P:Program} {w:World} {H:Hp} {h:Heap} {d:Addr} {ob:Obj} {L:List Row} (e:h.get? d=some ob) (t:DkT d ob L):ObjOk P w H h d (DkO d ob L) :=
 ⟨⟨e,t⟩,⟨ob,e⟩,fun _ _ ⟨a,t⟩ k=>⟨k _ a,t⟩⟩
def aT (K:Frag) (H:Hp) (L:List Row):Prop:=∀ p∈L,SqT K H p.1 (p.2.1.map V.int)
def atL (L:List Row) (k:List Int):Option V:=(L.find? fun p=>decide (p.2.1=k)).map (·.2.2)
def putL (L:List Row) (k:List Int) (b:Addr) (v:V):List Row:=if (atL L k).isSome then L.map fun p=>if p.2.1=k then (p.1,p.2.1,v) else p else L++[(b,k,v)]
theorem eN (L:List Row) (k:List Int) (b:Addr) (v:V):(putL L k b v).length≤L.length+1:=by
 unfold putL
 split<;>simp
theorem fc {k:List Int}:∀ {L:List Row} {xs:List (List Int × Addr × Value)},Paired Ent L xs→RelO (atL L k) ((atKey xs k).map (·.2))
 | _,_,.nil=>True.intro
 | p::L,q::xs,.cons r t=>by
  have ih:=fc (k:=k) t
  unfold atL atKey at ih ⊢
  rw [List.find?_cons,List.find?_cons]
  by_cases h:p.2.1=k
  ·have a:q.1=k:=r.1▸h
   rw [decide_eq_true h,decide_eq_true a]
   exact r.2.2
  ·have a:¬ q.1=k:=fun z=>h (r.1.trans z)
   rw [decide_eq_false h,decide_eq_false a]
   exact ih
theorem vX {k:List Int} {v:V} {u:Value} (b:RelV v u) {L:List Row} {xs:List (List Int × Addr × Value)} (r:Paired Ent L xs):Paired Ent (L.map fun p=>if p.2.1=k then (p.1,p.2.1,v) else p) (xs.map (putAt k u)):=by
 induction r with
 | nil=>exact .nil
 | @cons p q L xs h t ih =>
  refine .cons ?_ ih
  show Ent (if p.2.1=k then (p.1,p.2.1,v) else p) (if q.1=k then (q.1,q.2.1,u) else q)
  by_cases hk:p.2.1=k
  ·have a:q.1=k:=h.1▸hk
   rw [if_pos hk,if_pos a]
   exact ⟨h.1,h.2.1,b⟩
  ·have a:¬ q.1=k:=fun z=>hk (h.1.trans z)
   rw [if_neg hk,if_neg a]
   exact h
theorem nU {k:List Int} {b:Addr} {v:V} {u:Value} (a:RelV v u) {L:List Row} {xs:List (List Int × Addr × Value)} (r:Paired Ent L xs):Paired Ent (putL L k b v) (storedH xs k b u):=by
 have e:(atL L k).isSome=(atKey xs k).isSome:=by
  have:=(fc (k:=k) r).isSome_eq
  rwa [Option.isSome_map] at this
 unfold putL storedH
 rw [e]
 split
 ·exact vX a r
 ·exact Paired.snoc r ⟨rfl,rfl,a⟩
theorem Cv {P:Program} {w:World} {h:Heap} {L:List Row} {xs:List (List Int × Addr × Value)} (r:Paired Ent L xs) (hk:∀ p∈L,IsT P w h p.2.1 p.1):∀ x∈xs,(TK P w).is h x.1 x.2.1:=by
 induction r with
 | nil=>exact fun x a=>nomatch a
 | @cons p q L xs r _ ih =>
  intro x a
  rcases List.mem_cons.mp a with rfl | a
  ·have:=hk p List.mem_cons_self
   rw [r.1,r.2.1] at this
   exact this
  ·exact ih (fun p b=>hk p (List.mem_cons_of_mem _ b)) x a
theorem pJ {P:Program} {w:World} {d:Addr} {L:List Row} {h:Heap} {xs:List (List Int × Addr × Value)} (lo:(d==sysModules)=false) (sz:L.length≤sizeLine) (r:Paired Ent L xs) (dd:h.DictOfH (TK P w) d xs):∃ ob,h.get? d=some ob∧DkT d ob L:=by
 obtain ⟨o,es,ep,a,b,c,e,_,f⟩:=dd
 exact ⟨o,a,lo,sz,b,es,ep,xs,c,r,e,f⟩
section
variable {X:Cx} {pins:List (Addr × Obj)} {σ:L2.St} {H:Hp} {s:Shared} {A:Around} {E:Value→Shared→Prop} {d b:Addr} {ob:Obj} {L:List Row} {k:List Int} {v:V} {u r:Value}
theorem full (I:Inv X pins σ H s) (e:H d=some (DkO d ob L)) (ks:aT X.K H L):DkT d ob L∧s.heap.get? d=some ob∧∃ xs,Paired Ent L xs∧s.heap.DictOfH (TK X.prog X.w) d xs:=by
 obtain ⟨⟨a,t⟩,_⟩:=I.hok d _ e
 obtain ⟨es,ep,xs,c,b,f,g⟩:=t.ent
 exact ⟨t,a,xs,b,ob,es,ep,a,t.ex,c,f,Cv b fun p h=>I.isT (ks p h),g⟩
theorem Cd {Q:Value→Shared→Prop} (g:A.units+1<cLine) (I:Inv X pins σ H s) (e:H d=some (DkO d ob L)) (ks:aT X.K H L) (i:SqT X.K H b (k.map V.int)) (l:atL L k=some v) (h:∀ a f,Inv X pins σ H f→RelV v a→Q a f) :
  wpAny (model X.prog X.w) A (getItem (.ref d) (.ref b)) Q E s:=by
 obtain ⟨t,m,xs,r,dd⟩:=full I e ks
 obtain ⟨a,hw,c⟩:=RelO.some_of (v:=v) (o:=(atKey xs k).map (·.2)) (by rw [← l];exact fc r)
 obtain ⟨p,j,rfl⟩:=Option.map_eq_some_iff.mp hw
 exact wpAny_getItem_heap (tupleKind_room_in1 g) (I.isT i) dd j (h _ _ (I.tok _) c)
theorem CB {Q:Value→Shared→Prop} (f:A.units+1<cLine) (I:Inv X pins σ H s) (e:H d=some (DkO d ob L)) (ks:aT X.K H L) (g:SqT X.K H b (k.map V.int)) (h:∀ a c,Inv X pins σ H c→RelV ((atL L k).getD .non) a→Q a c) :
  wpAny (model X.prog X.w) A (call (.builtin "dict.get") [.ref d,.ref b]) Q E s:=by
 obtain ⟨t,i,xs,r,dd⟩:=full I e ks
 exact call_meetsIn PySem.F.slot_dict_get dd.typeIs PySem.F.entry_dict_get (PySem.F.args_dict_get_2 _ _) (meetsH_dict_get (TK X.prog X.w) d b t.lo) ⟨tupleKind_room_in1 f,k,xs,I.isT g,dd,h _ _ (I.tok _) ((fc r).getD rfl)⟩
theorem DR {y:V} {Q:Value→Shared→Prop} (f:A.units+1<cLine) (I:Inv X pins σ H s) (e:H d=some (DkO d ob L)) (ks:aT X.K H L) (g:SqT X.K H b (k.map V.int)) (i:RelV y r) (h:∀ a c,Inv X pins σ H c→RelV ((atL L k).getD y) a→Q a c) :
  wpAny (model X.prog X.w) A (call (.builtin "dict.get") [.ref d,.ref b,r]) Q E s:=by
 obtain ⟨t,l,xs,j,dd⟩:=full I e ks
 exact call_meetsIn PySem.F.slot_dict_get dd.typeIs PySem.F.entry_dict_get (PySem.F.args_dict_get_3 _ _ _) (meetsH_dict_get_default (TK X.prog X.w) d b t.lo r) ⟨tupleKind_room_in1 f,k,xs,I.isT g,dd,h _ _ (I.tok _) ((fc j).getD i)⟩
theorem yP {Q:Unit→Shared→Prop} (j:A.units+1<cLine) (I:Inv X pins σ H s) (e:H d=some (DkO d ob L)) (ks:aT X.K H L) (l:SqT X.K H b (k.map V.int)) (m:RelV v r) (few:L.length<sizeLine)
  (h:∀ a f,Inv X pins σ (upd H d (DkO d a (putL L k b v))) f→Q () f):wpAny (model X.prog X.w) A (setItem (.ref d) (.ref b) r) Q E s:=by
 obtain ⟨t,p,xs,g,dd⟩:=full I e ks
 have n:xs.length≤sizeLine:=by rw [← Paired.length g];exact t.sz
 have o:(putL L k b v).length≤sizeLine:=by have:=eN L k b v;omega
 refine wpAny_setItem_heap (hsz:=n) (tupleKind_room_in1 j) (I.isT l) dd fun h' c hs=>?_
 obtain ⟨a,i,t'⟩:=pJ t.lo o (nU m g) c
 exact h a _ (d_write I (by rw [e];exact True.intro) hs ⟨_,i⟩ (gG i t'))
end
section
variable {X:Cx} {o i f value:Expr} {pos pos' apos cpos:Pos} {td ty tx tv:TE}
def yc (X:Cx) (H:Hp) (d:Addr) (L:List Row):Prop:=(∃ ob,H d=some (DkO d ob L))∧aT X.K H L
theorem yc.type {pins:List (Addr × Obj)} {σ:L2.St} {H:Hp} {s:Shared} {d:Addr} {L:List Row} (g:yc X H d L) (I:Inv X pins σ H s):s.TypeIs (.ref d) "dict" ∧ ∀ b,Value.ref d=.ref b→∃ ob,s.heap.get? b=some ob∧ob.dict=none:=by
 obtain ⟨⟨ob,e⟩,ks⟩:=g
 obtain ⟨t,a,_⟩:=full I e ks
 refine ⟨⟨ob,a,t.ex.1⟩,fun b q=>?_⟩
 cases q
 exact ⟨ob,a,t.ex.2.1⟩
def IV (X:Cx) (td ty:TE):TE:=fun σ H Q=>td σ H fun x H1=>ty σ H1 fun y H2=>∃ d b L k v,x=.ref d∧y=.ref b∧yc X H2 d L∧SqT X.K H2 b (k.map V.int)∧atL L k=some v∧Q v H2
theorem CT (f:X.A.units+1<cLine) (j:PE X o td) (hi:PE X i ty) (hs:NoSl i):PE X (.Subscript o i pos) (IV X td ty):=by
 refine ⟨fun pins s σ H Q I h=>subD_of PySem.F.slot_dict_getitem.lookup hs (thn (j.run pins s σ H _ I h) fun u s1 ⟨x,H1,m,n,p⟩=>thn (hi.run pins s1 σ H1 _ m p) fun iv s2 ⟨y,q,c,r,d,b,L,k,v,ex,t,g,w,l,z⟩=>?_)⟩
 subst ex t
 cases n
 cases r
 obtain ⟨⟨ob,e⟩,ks⟩:=id g
 exact ⟨(g.type c).1,Cd f c e ks w l fun C s3 B a=>⟨v,q,B,a,z⟩⟩
def BR (X:Cx) (td ty:TE):TE:=fun σ H Q=>td σ H fun x H1=>∃ d L1,x=.ref d∧yc X H1 d L1∧ty σ H1 fun y H2=>∃ b L k,y=.ref b∧yc X H2 d L∧SqT X.K H2 b (k.map V.int)∧Q ((atL L k).getD .non) H2
def Cw (X:Cx) (td ty tx:TE):TE:=fun σ H Q=>td σ H fun x H1=>∃ d L1,x=.ref d∧yc X H1 d L1∧ty σ H1 fun y H2=>tx σ H2 fun z H3=>∃ b L k,y=.ref b∧yc X H3 d L∧SqT X.K H3 b (k.map V.int)∧Q ((atL L k).getD z) H3
theorem x6 (f:X.A.units+1<cLine) (j:PE X o td) (he:PE X i ty) (m:M1 X o "get" apos i cpos):PE X (.Call (.Attribute o "get" apos) [i] [] cpos) (BR X td ty):=by
 refine ⟨fun pins s σ H Q I h=>wpAny_Call_method m.base m.few m.line PySem.F.plainAttrs_dict PySem.F.slot_dict_get PySem.F.type_dict_get (thn (j.run pins s σ H _ I h) fun u s1 ⟨x,H1,c,l,d,B,ex,g1,n⟩=>?_)⟩
 subst ex
 cases l
 obtain ⟨t1,t2⟩:=g1.type c
 refine ⟨t1,t2,?_⟩
 rw [m.trees]
 refine Calls.callWith_builtin rfl (Calls.evalArgs_plain (Calls.spliced_cons (thn (he.run pins s1 σ H1 _ c n) fun iv s2 ⟨y,p,q,r,b,L,k,t,g,v,w⟩=>Calls.spliced_nil ?_)))
 subst t
 cases r
 obtain ⟨⟨ob,e⟩,ks⟩:=id g
 exact CB f q e ks v fun C s3 z a=>⟨_,p,z,a,w⟩
theorem vV (j:X.A.units+1<cLine) (l:PE X o td) (he:PE X i ty) (hf:PE X f tx) (m:M2 X o "get" apos i f cpos):PE X (.Call (.Attribute o "get" apos) [i,f] [] cpos) (Cw X td ty tx):=by
 refine ⟨fun pins s σ H Q I h=>wpAny_Call_method m.base m.few m.line PySem.F.plainAttrs_dict PySem.F.slot_dict_get PySem.F.type_dict_get (thn (l.run pins s σ H _ I h) fun u s1 ⟨x,H1,c,n,d,M,ex,g1,p⟩=>?_)⟩
 subst ex
 cases n
 obtain ⟨t1,t2⟩:=g1.type c
 refine ⟨t1,t2,?_⟩
 rw [m.trees]
 refine Calls.callWith_builtin rfl (Calls.evalArgs_plain (Calls.spliced_cons (thn (he.run pins s1 σ H1 _ c p) fun iv s2 ⟨y,q,r,t,v⟩ =>
  Calls.spliced_cons (thn (hf.run pins s2 σ q _ r v) fun N s3 ⟨z,w,B,rz,b,L,k,C,g,G,J⟩=>Calls.spliced_nil ?_))))
 subst C
 cases t
 obtain ⟨⟨ob,e⟩,ks⟩:=id g
 exact DR j B e ks G rz fun O s4 K a=>⟨_,w,K,a,J⟩
def GB (X:Cx) (td ty tv:TE):TS:=fun D σ H=>tv σ H fun v H1=>td σ H1 fun x H2=>ty σ H2 fun y H3=>∃ d b ob L k,x=.ref d∧y=.ref b∧H3 d=some (DkO d ob L)∧aT X.K H3 L∧SqT X.K H3 b (k.map V.int)∧L.length<sizeLine ∧
 ∀ ob',D.nx σ (upd H3 d (DkO d ob' (putL L k b v)))
theorem Ar (c:X.A.units+1<cLine) (f:PE X o td) (hi:PE X i ty) (g:PE X value tv) (hs:swapsWith value (some (.Subscript o i pos')) pos.line X.env=pure false):PS X (.Assign [.Subscript o i pos'] value pos) (GB X td ty tv):=by
 refine ⟨fun pins s σ H D I h=>wpAny_Assign_Subscript (thn (g.run pins s σ H _ I h) fun r s1 ⟨v,H1,j,l,m⟩=>thn (f.run pins s1 σ H1 _ j m) fun u s2 ⟨x,n,p,q,t⟩=>thn (hi.run pins s2 σ n _ p t) fun iv s3 ⟨y,J,w,z,d,b,ob,L,k,ex,B,e,ks,C,few,F⟩=>?_) hs⟩
 subst ex B
 cases q
 cases z
 exact yP c w e ks C l few fun a s4 G=>⟨σ,_,G,F a⟩
theorem nh (h:Heap) (a:sysModules<h.objs.size):DkT h.objs.size { cls:=.type "dict",data:=.dict #[] } [] :=
 ⟨beq_eq_false_iff_ne.mpr (Ne.symm (Nat.ne_of_lt a)),Nat.zero_le _,⟨rfl,rfl,rfl⟩,#[],0,[],rfl,.nil,rfl,List.nodup_nil⟩
def GY (X:Cx):TE:=fun _ H Q=>∀ p ob,H p=none→Q (.ref p) (upd H p (DkO p ob []))
theorem AJ:PE X (.Dict [] [] pos) (GY X):=⟨fun pins s σ H Q I h =>
 wpAny_Dict_empty ⟨.ref s.heap.objs.size,_,I.laid (a:=s.heap.objs.size) (o:=DkO s.heap.objs.size { cls:=.type "dict",data:=.dict #[] } []) (t':=s.toks) (fun _ _ q=>Heap.get?_push_of_some _ q) (Nat.le_refl _) (gG (Heap.get?_push_size _ rfl) (nh s.heap I.big)),rfl,h _ _ (I.hok.fresh (Nat.le_refl _))⟩⟩
end
end Ev.Dt
namespace Ev.Dt
open PySem PySem.Spec PyProof.Rows L2
section
variable {X:Cx} {o i f value k v e:Expr} {pos pos' apos cpos:Pos} {td ty tx tv tk:TE}
def FG (X:Cx) (tk tv:TE):TE:=fun σ H Q=>∀ p ob0,H p=none→tk σ (upd H p (DkO p ob0 [])) fun x H1=>tv σ H1 fun y H2=>∃ b ks,x=.ref b∧SqT X.K H2 b (ks.map V.int)∧H2 p=some (DkO p ob0 []) ∧
 ∀ ob,Q (.ref p) (upd H2 p (DkO p ob [(b,ks,y)]))
theorem AF (j:X.A.units<cLine) (hk:PE X k tk) (l:PE X v tv):PE X (.Dict [some k] [v] pos) (FG X tk tv):=by
 refine ⟨fun pins s σ H Q I h=>?_⟩
 have hn:=I.hok.fresh (Nat.le_refl s.heap.objs.size)
 have m:=I.laid (a:=s.heap.objs.size) (o:=DkO s.heap.objs.size { cls:=.type "dict",data:=.dict #[] } []) (h':=s.heap.push { cls:=.type "dict",data:=.dict #[] }) (t':=s.toks) (fun _ _ q=>Heap.get?_push_of_some _ q) (Nat.le_refl _)
  (gG (Heap.get?_push_size _ rfl) (nh s.heap I.big))
 rw [arm_eval_Dict,zip_pairTrees [some k] [v] X.env pos rfl rfl,dictDisplay_pairs (pairTrees [some k] [v] X.env pos) (by simp [pairTrees]) (by simp [pairTrees])]
 refine wpAny_bind (wpAny_standAt (wpAny_bind (wpAny_subDictH (knd:=TK X.prog X.w) (Q:=fun d n=>wpAny (model X.prog X.w) X.A (pure (Value.ref d)) (EP X pins σ Q) X.xe n) (pairs:=pairTrees [some k] [v] X.env pos) j (show 1≤15 by omega) ?_)))
 refine pairTrees_cons_walk (thn (hk.run pins _ σ _ _ m (h _ _ hn)) fun u1 s1 ⟨x,H1,u,r1,B⟩=>thn (l.run pins s1 σ H1 _ u B) fun u2 s2 ⟨y,J,c,C,b,ks,ex,F,g,q⟩=>pairTrees_nil_walk ?_)
 subst ex
 cases r1
 obtain ⟨t,K,xs,r,dd⟩:=full c g (fun p z=>nomatch z)
 cases r
 refine ⟨[(ks,b,u2)],⟨rfl,rfl,c.isT F,True.intro⟩,dd,fun h' G e hs=>wpAny_pure ?_⟩
 obtain ⟨f,i,t'⟩:=pJ (L:=[(b,ks,y)]) (xs:=[(ks,b,u2)]) t.lo (by rw [sizeLine_eq];simp) (.cons ⟨rfl,rfl,C⟩ .nil) e
 exact ⟨.ref s.heap.objs.size,_,d_write c (by rw [g];exact True.intro) hs ⟨_,i⟩ (gG i t'),rfl,q f⟩
theorem fb {xs:List (List Int × Addr × Value)} {es:Array DictEntry} (he:es.toList=xs.map HD):es.size=xs.length:=by rw [← Array.length_toList,he,List.length_map]
def mh (L:List Row):List V:=L.map fun p:Row=>V.ref p.1
theorem kT {L:List Row} {xs:List (List Int × Addr × Value)} {es:Array DictEntry} (r:Paired Ent L xs) (he:es.toList=xs.map HD) (j:Nat):(es[j]?).map (·.key)=(L[j]?).map fun p:Row=>Value.ref p.1:=by
 rw [← Array.getElem?_toList,he,List.getElem?_map]
 have a:L.length=xs.length:=Paired.length r
 have:∀ {L:List Row} {xs:List (List Int × Addr × Value)},Paired Ent L xs→∀ j:Nat,(xs[j]?).map (fun x:List Int × Addr × Value=>Value.ref x.2.1)=(L[j]?).map fun p:Row=>Value.ref p.1:=fun r=>by
  induction r with
  | nil=>exact fun j=>by simp
  | @cons p q L xs h _ ih =>
   intro j
   cases j with
   | zero=>simp [h.2.1]
   | succ j=>simpa using ih j
 rw [Option.map_map]
 exact this r j
theorem tj:∀ (L:List Row) (us:List Value),us.length=L.length→(∀ (j:Nat) (v:Value),us[j]?=some v→∃ p:Row,L[j]?=some p∧v=Value.ref p.1)→us=L.map fun p:Row=>Value.ref p.1:=fun L us c h=>by
 apply List.ext_getElem?
 intro j
 rw [List.getElem?_map]
 cases a:us[j]? with
 | none =>
  rw [List.getElem?_eq_none (by have:=List.getElem?_eq_none_iff.mp a;omega)]
  rfl
 | some v =>
  obtain ⟨p,b,rfl⟩:=h j v a
  rw [b]
  rfl
theorem gP:∀ L:List Row,Vals (mh L) (L.map fun p:Row=>Value.ref p.1)
 | []=>.nil
 | _::L=>.cons rfl (gP L)
def DT (X:Cx):List V→Hp→VK→Prop:=fun xs H Q=>∃ d ob L,xs=[V.ref d]∧H d=some (DkO d ob L)∧∀ p,H p=none→Q (.ref p) (upd H p (.lst (mh L)))
theorem wZ (f:X.calm=true):CallR X (.type "list") (DT X):=by
 intro pins s σ H xs us Q I r h
 obtain ⟨d,ob,L,rfl,hd,q⟩:=h
 rw [Vals.ref1 r]
 obtain ⟨⟨g,t⟩,_⟩:=I.hok d _ hd
 obtain ⟨es,ep,ks,b,pr,he,hn⟩:=t.ent
 have l1:es.size=L.length:=by rw [fb he];exact (Paired.length pr).symm
 have tz:=t.sz
 refine PySem.W.kdl_call (kdl_raw t.lo t.ex b) (I.ok.hd f) g (by omega) fun h' tk a i kp e it=>?_
 have k:a.toList=L.map fun p:Row=>Value.ref p.1:=tj L _ (by rw [Array.length_toList,it.1];exact l1) fun j v l=>by
  obtain ⟨en,c,rfl⟩:=it.2 j v (by rw [← Array.getElem?_toList];exact l)
  have:=kT pr he j
  rw [c] at this
  obtain ⟨p,m,e⟩:=Option.map_eq_some_iff.mp this.symm
  exact ⟨p,m,e.symm⟩
 refine ⟨.ref s.heap.objs.size,_,I.laid (t':=tk) (o:=.lst (mh L)) kp (Nat.le_refl _) ⟨by unfold mh;rw [List.length_map];exact tz,a.toList,i,by rw [k];exact gP L,by rw [Array.toArray_toList];exact e⟩,rfl,q _ (I.hok.fresh (Nat.le_refl _))⟩
def Itk (X:Cx) (d:Addr) (ob:Obj) (L:List Row):It :=
 ⟨fun i H=>H d=some (DkO d ob L)∧i<L.length,fun i H x H'=>H'=H∧∃ p,L[i]?=some p∧x=.ref p.1,fun i H=>H d=some (DkO d ob L)∧L.length≤i⟩
theorem qm {tg:Expr} {d it:Addr} {ob:Obj} {L:List Row} {es:Array DictEntry} {ep:Nat} (a:ob.data=.dict es ep):Turn X.prog X.w X.K tg (Itk X d ob L) [it] it (fun i h=>h.IsKeyIter it d i L.length ep) where
 mem:=by simp
 obj:=fun i h st b f=>by
  cases (show b=it by simpa using f)
  obtain ⟨l,e,c,dd⟩:=st
  exact ⟨l,e,fun v z=>by rw [dd] at z;cases z⟩
 keep:=fun i h h' st k=>st.at fun l e=>k it (by simp) l e
 item:=by
  intro Y m hw F y i pins s σ H E I hf st hg
  obtain ⟨hd,hi⟩:=hg
  obtain ⟨f0,f1,f2,n,f4,q⟩:=hf it (by simp)
  obtain ⟨⟨r,t⟩,_⟩:=I.hok d _ hd
  obtain ⟨es',u,ks,g,pr,he,hn⟩:=t.ent
  cases a.symm.trans g
  have l1:es.size=L.length:=by rw [fb he];exact (Paired.length pr).symm
  obtain ⟨p,B⟩:∃ p,L[i]?=some p:=⟨L[i],List.getElem?_eq_getElem hi⟩
  have C:=kT pr he i
  rw [B] at C
  obtain ⟨en,x,G⟩:=Option.map_eq_some_iff.mp C
  rw [← m,← hw] at *
  refine next_key_item st r a l1 x fun h' j sb=>?_
  have J:Inv Y pins σ H { s with heap:=h' }:=I.turned (t':=s.toks) (fun b ob f e=>(sb.2 b f).trans e) f0 f1 n f4 q
  obtain ⟨l,e,c,dd⟩:=id j
  exact ⟨en.key,rfl,go_of (s:={ s with heap:=h' }) e c dd (by decide) ⟨.ref p.1,H,J,by rw [G];rfl,⟨rfl,p,B,rfl⟩,j,fun b f=>(hf b f).1⟩⟩
 done:=by
  intro Y m hw F y i pins s σ H E I hf st hg
  obtain ⟨hd,hi⟩:=hg
  obtain ⟨f0,f1,f2,n,f4,q⟩:=hf it (by simp)
  obtain ⟨⟨r,t⟩,_⟩:=I.hok d _ hd
  obtain ⟨es',u,ks,g,pr,he,hn⟩:=t.ent
  cases a.symm.trans g
  have l1:es.size=L.length:=by rw [fb he];exact (Paired.length pr).symm
  rw [← m,← hw] at *
  exact next_key_end (I.ok.hd y) st r a l1 hi fun h' M=>⟨rfl,I.turned (t':=s.toks) (fun b o f e=>M b o f e) f0 f1 n f4 q⟩
 self:=fun A i s Q E st h=>wpAny_pyIter_keyiter st h
def Dk (X:Cx) (td:TE):TI:=fun σ H R=>td σ H fun x H1=>∃ d ob L,x=.ref d∧H1 d=some (DkO d ob L)∧R (Itk X d ob L) H1
theorem vT {tg:Expr} (he:PE X e td):PI X tg e (Dk X td):=by
 refine ⟨fun pins s σ H R I h=>thn (he.run pins s σ H _ I h) fun u s1 ⟨x,H1,b,c,d,ob,L,ex,hd,q⟩=>?_⟩
 subst ex
 cases c
 obtain ⟨⟨f,t⟩,_⟩:=b.hok d _ hd
 obtain ⟨es,ep,ks,a,pr,he,hn⟩:=t.ent
 have l1:es.size=L.length:=by rw [fb he];exact (Paired.length pr).symm
 refine iter_keys t.lo f t.ex a (pi_one (tk:=s1.toks) b _ (qm a) ⟨_,Heap.get?_push_size _ rfl,rfl,?_⟩ q)
 rw [l1]
 rfl
end
section
variable {prog:Program} {w:World} {A:Around} {E:Value→Shared→Prop} {s:Shared}
end
section
variable {X:Cx}
theorem xP {P:Program} {w:World} {L:List Row} {xs:List (List Int × Addr × Value)} (r:Paired Ent L xs):(xs.map fun x=>thash P w x.1)=L.map fun p:Row=>mO p.2.1:=by
 induction r with
 | nil=>rfl
 | cons h _ ih =>
  rw [List.map_cons,List.map_cons,ih,h.1]
  rfl
end
section
variable {prog:Program} {w:World} {A:Around} {E:Value→Shared→Prop} {s:Shared} {T:String} {r d:Addr} {n:Nat} {Pv:Nat→Value→Prop} {OK:Heap→Prop}
theorem gather {R:List Value→Shared→Prop} (K:PySem.W.KdlSrc prog w T r d n Pv OK) (k:A.handled=none) (hok:OK s.heap) (hn:n≤sizeLine)
  (h:∀ (h':Heap) (tk:Nat) (acc:Array Value),(∀ b o,s.heap.get? b=some o→h'.get? b=some o)→s.heap.objs.size<h'.objs.size→ItemsOf Pv acc n→R acc.toList { s with heap:=h',toks:=tk }) :
  wpAny (model prog w) A (collect (.ref r)) R E s:=by
 have lt:=K.there _ hok
 unfold collect
 refine wpAny_bind (wpAny_runValue (codeAny_builtin entry_proto_collect' ?_))
 rw [Around.under_plainId PySem.F.plain_proto_collect _]
 show wpAny _ A.in1 (newList [] >>= fun l=>again (.builtin "list.__iadd__" ⟨[l,.ref r],[]⟩)) _ _ s
 refine wpAny_bind (wpAny_newObj_type (wpAny_pure ⟨plainId_quiet PySem.F.plain_list_iadd _,codeAny_builtin entry_list_iadd' ?_⟩))
 rw [Around.under_plainId PySem.F.plain_list_iadd _]
 have new:(s.heap.push { cls:=.type "list",data:=.seq ([]:List Value).toArray }).get? s.heap.objs.size=some { cls:=.type "list",data:=.seq #[] }:=Heap.get?_push_size _ rfl
 show wpAny _ A.in1 (Builtin.List.listExtendWith (.ref s.heap.objs.size) (.ref r) (.ref s.heap.objs.size)) _ _ _
 have key:=PySem.W.kdl_extend (A:=A) (s:={ s with heap:=s.heap.push { cls:=.type "list",data:=.seq ([]:List Value).toArray } })
  (R:=fun (q:Result) (j:Shared)=>∃ (h':Heap) (tk:Nat) (a:Array Value) (i:Nat),q=.ok (.ret (.ref s.heap.objs.size))∧j={ s with heap:=h',toks:=tk } ∧
   (∀ b o,s.heap.get? b=some o→h'.get? b=some o)∧h'.get? s.heap.objs.size=some { cls:=.type "list",dict:=none,data:=.seq a i,slots:=#[] }∧ItemsOf Pv a n)
  K k (K.keep _ _ hok fun b _ o e=>Heap.get?_push_of_some _ e) s.heap.objs.size (Nat.ne_of_gt lt.1) (Nat.ne_of_gt lt.2) (.ref s.heap.objs.size) 0 new
  (fun h' tk a i hk g c=>⟨h',tk,a,i,rfl,rfl,fun b o e=>hk b o (Nat.ne_of_lt (Heap.lt_size e)) (Heap.get?_push_of_some _ e),g,c⟩) hn
 have last:∀ (h':Heap) (tk:Nat) (a:Array Value) (i:Nat),(∀ b o,s.heap.get? b=some o→h'.get? b=some o)→h'.get? s.heap.objs.size=some { cls:=.type "list",dict:=none,data:=.seq a i,slots:=#[] }→ItemsOf Pv a n→R a.toList { s with heap:=h',toks:=tk } :=
  fun h' tk a i hk g c=>h h' tk a hk (Heap.lt_size g) c
 refine wpAny_mono key (fun fin j x=>?_) fun e j x=>?_
 ·cases fin with
  | done f =>
   obtain ⟨h',tk,a,i,e,rfl,hk,g,c⟩:=x
   cases e
   show wpAny _ A (load s.heap.objs.size >>= _) _ _ _
   exact wpAny_bind (wpAny_load g (wpAny_pure (last h' tk a i hk g c)))
  | again c₁ =>
   refine ⟨x.1,codeAny_mono x.2 fun q s₂ y=>?_⟩
   obtain ⟨h',tk,a,i,rfl,rfl,hk,g,c⟩:=y
   show wpAny _ A (load s.heap.objs.size >>= _) _ _ _
   exact wpAny_bind (wpAny_load g (wpAny_pure (last h' tk a i hk g c)))
 ·obtain ⟨_,_,_,_,m,_⟩:=x
  cases m
end
section
variable {prog:Program} {w:World} {A:Around} {E:Value→Shared→Prop} {s:Shared}
theorem rJ {a:Addr} {vs:List Value} {n c:Nat} {B:Int} {P:PySem.Fin→Shared→Prop} (i:s.heap.get? a=some (seqObj "list" vs.toArray c)) (few:vs.length<64) (hn:2≤vs.length→1≤n) (x:TS.TupsOk s.heap n B vs)
  (h:∀ out:Array Value,out.toList.Perm vs→out.toList.Pairwise (fun u v=>TS.code B (TS.intsOf s.heap u)≤TS.code B (TS.intsOf s.heap v))→P (.done (.ret .none)) { s with heap:=sortedHeap s.heap a vs out }) :
  wpAny (model prog w) A (Builtin.«list.sort» ⟨[.ref a],[]⟩) P E s:=by
 have keep:∀ b o,s.heap.get? b=some o→o.cls=.type "tuple" → (TS.midHeap s.heap a vs).get? b=some o:=fun b o e j=>TS.midHeap_old (fun z=>by
  subst z
  cases i.symm.trans e
  have f:Value.type "list" = Value.type "tuple" := j
  injection f with f
  exact absurd f (by decide)) e
 refine SK.plain_sort (r:=fun v=>TS.code B (TS.intsOf s.heap v)) i few (fun d Q k=>TS.kind_tups (s:={ s with heap:=TS.midHeap s.heap a vs }) (hn d) d (x.keeps keep) _ (fun v l ns t=>?_) Q k) fun ps out m d q=>?_
 ·obtain ⟨g,t0,_⟩:=x v l
  have e:ns=g:=t.ints.symm.trans (t0.keeps keep).ints
  show TS.code B (TS.intsOf s.heap v)=TS.code B ns
  rw [e,t0.ints]
 ·obtain ⟨p,o⟩:=TS.out_rank (r:=fun v=>TS.code B (TS.intsOf s.heap v)) m d q
  exact h out p o
end
section
variable {X:Cx}
theorem qf {L:List Row} {xs:List (List Int × Addr × Value)} (r:Paired Ent L xs):(L.map fun p:Row=>p.2.1)=xs.map (·.1):=by
 induction r with
 | nil=>rfl
 | cons h _ ih=>rw [List.map_cons,List.map_cons,h.1,ih]
def CU (X:Cx):List V→Hp→VK→Prop:=fun xs H Q=>∃ d ob L n B,xs=[V.ref d]∧H d=some (DkO d ob L)∧aT X.K H L∧L.length<64∧(2≤L.length→1≤n)∧(∀ p∈L,p.2.1.length=n∧TS.Bd B p.2.1) ∧
 ∀ (L':List Row) p,L'.Perm L→L'.Pairwise (fun q r=>TS.code B q.2.1≤TS.code B r.2.1)→H p=none→Q (.ref p) (upd H p (.lst (mh L')))
theorem zK {L:List Row} {vs:List Value} (one:∀ q∈L,∀ r∈L,q.1=r.1→q=r) (nd:L.Nodup) (pm:vs.Perm (L.map fun p:Row=>Value.ref p.1)):∃ L':List Row,vs=L'.map (fun p:Row=>Value.ref p.1)∧L'.Perm L:=by
 have ex:∀ vs:List Value,(∀ v∈vs,∃ q∈L,v=Value.ref q.1)→∃ d:List Row,vs=d.map (fun p:Row=>Value.ref p.1)∧∀ q∈d,q∈L:=fun vs=>by
  induction vs with
  | nil=>exact fun _=>⟨[],rfl,fun q a=>nomatch a⟩
  | cons v vs ih =>
   intro f
   obtain ⟨q,a,rfl⟩:=f v List.mem_cons_self
   obtain ⟨d,rfl,hs⟩:=ih fun u h=>f u (List.mem_cons_of_mem _ h)
   exact ⟨q::d,rfl,fun r b=>by
    rcases List.mem_cons.mp b with rfl | z
    ·exact a
    ·exact hs r z⟩
 obtain ⟨L',rfl,hs⟩:=ex vs fun v f=>by
  obtain ⟨q,a,rfl⟩:=List.mem_map.mp (pm.mem_iff.mp f)
  exact ⟨q,a,rfl⟩
 have c:(L.map fun p:Row=>Value.ref p.1).Nodup:=List.pairwise_map.mpr (List.Pairwise.imp_of_mem (fun {q r} a b g e=>g (one q a r b (by injection e))) nd)
 have i:L'.Nodup:=nodup_of_map (pm.nodup_iff.mpr c)
 refine ⟨L',rfl,(List.perm_ext_iff_of_nodup i nd).mpr fun q=>⟨hs q,fun a=>?_⟩⟩
 obtain ⟨r,b,e⟩:=List.mem_map.mp (pm.mem_iff.mpr (List.mem_map.mpr ⟨q,a,rfl⟩))
 have e:r.1=q.1:=by injection e
 rw [← one r (hs r b) q a e]
 exact b
theorem xW (V:X.calm=true):CallR X (.builtin "sorted") (CU X):=by
 intro pins s σ H xs us Q I r h
 obtain ⟨d,ob,L,n,B,rfl,hd,ks,few,hn,bd,q⟩:=h
 rw [Vals.ref1 r]
 obtain ⟨⟨Y,t⟩,_⟩:=I.hok d _ hd
 obtain ⟨es,ep,xs,z,pr,he,nd⟩:=t.ent
 have l1:es.size=L.length:=by rw [fb he];exact (Paired.length pr).symm
 have tz:=t.sz
 have isT:∀ p∈L,IsT X.prog X.w s.heap p.2.1 p.1:=fun p C=>I.isT (ks p C)
 have l:(L.map fun p:Row=>p.2.1).Nodup:=by
  rw [qf pr]
  exact nd
 have one:∀ q∈L,∀ r∈L,q.1=r.1→q=r:=fun q f r x e=>by
  have a1:=isT q f
  have a2:=isT r x
  rw [e] at a1
  have Z:q.2.1=r.2.1:=a1.inj a2
  obtain ⟨i,hi,rfl⟩:=List.getElem_of_mem f
  obtain ⟨j,F,rfl⟩:=List.getElem_of_mem x
  have:i=j:=(List.getElem_inj (xs:=L.map fun p:Row=>p.2.1) (h₀:=by simpa using hi) (h₁:=by simpa using F) l).mp (by simpa using Z)
  subst this
  rfl
 have G:L.Nodup:=nodup_of_map l
 refine Calls.call_function_entry kind_sorted plain_sorted entry_sorted (args_sorted1 _) ?_
 unfold Builtin.«sorted»
 refine wpAny_bind (m:=checkCount "sorted" 1 1 _) (wpAny_pure ?_)
 refine wpAny_bind (gather (A:=X.A.in1) (kdl_raw t.lo t.ex z) (I.ok.hd V) Y (by omega) fun h' tk acc kp grown it=>?_)
 have ea:acc.toList=L.map fun p:Row=>Value.ref p.1:=tj L _ (by rw [Array.length_toList,it.1];exact l1) fun j v F=>by
  obtain ⟨en,J,rfl⟩:=it.2 j v (by rw [← Array.getElem?_toList];exact F)
  have:=kT pr he j
  rw [J] at this
  obtain ⟨p,C,e⟩:=Option.map_eq_some_iff.mp this.symm
  exact ⟨p,C,e.symm⟩
 rw [ea]
 obtain ⟨vs,g⟩:∃ vs,(L.map fun p:Row=>Value.ref p.1)=vs:=⟨_,rfl⟩
 have K:vs.length=L.length:=by rw [← g,List.length_map]
 rw [g]
 refine wpAny_bind (wpAny_newList ?_ (by rw [sizeLine_eq];omega))
 have k:(h'.push (seqObj "list" vs.toArray 0)).get? h'.objs.size=some (seqObj "list" vs.toArray 0):=Heap.get?_push_size _ rfl
 have M:∀ q∈L,TS.TupInts (h'.push (seqObj "list" vs.toArray 0)) (.ref q.1) q.2.1:=fun q f=>tupInts_of (P:=X.prog) (w:=X.w) (isT_keep (isT q f) fun b u e=>Heap.get?_push_of_some _ (kp b u e))
 have ok:TS.TupsOk (h'.push (seqObj "list" vs.toArray 0)) n B vs:=fun v O=>by
  rw [← g] at O
  obtain ⟨q,f,rfl⟩:=List.mem_map.mp O
  exact ⟨q.2.1,M q f,(bd q f).1,(bd q f).2⟩
 refine wpAny_bind (wpAny_holding (wpAny_call_entry slot_list_sort ⟨_,k,rfl⟩ entry_list_sort (rJ (s:={ s with heap:=h'.push (seqObj "list" vs.toArray 0),toks:=tk }) k (by omega) (by rw [K];exact hn) ok fun out a1 a2=>⟨_,rfl,?_⟩) (args_list_sort _)))
 obtain ⟨c,N⟩:=sortedHeap_at (vs:=vs) (out:=out) k
 obtain ⟨L',R,y⟩:=zK (vs:=out.toList) one G (by rw [g];exact a1)
 have pw:L'.Pairwise fun q r=>TS.code B q.2.1≤TS.code B r.2.1:=by
  rw [R] at a2
  refine List.Pairwise.imp_of_mem (fun {q r} f x hle=>?_) (List.pairwise_map.mp a2)
  have f1:=(M q (y.mem_iff.mp f)).ints
  have f2:=(M r (y.mem_iff.mp x)).ints
  rw [← f1,← f2]
  exact hle
 have hsz:s.heap.objs.size≤h'.objs.size:=Nat.le_of_lt grown
 refine wpAny_pure ⟨_,rfl,.ref h'.objs.size,_,I.laid (a:=h'.objs.size) (o:=.lst (mh L')) (t':=tk) (fun b u e=>?_) hsz ⟨by unfold mh;rw [List.length_map,y.length_eq];exact tz,out.toList,c,by rw [R];exact gP L',by rw [Array.toArray_toList];exact N⟩,rfl,q L' _ y pw (I.hok.fresh hsz)⟩
 have k1:=kp b u e
 have lt:=Heap.lt_size k1
 show (sortedHeap (h'.push (seqObj "list" vs.toArray 0)) h'.objs.size vs out).get? b=some u
 rw [sortedHeap_old (Nat.ne_of_lt lt) (by rw [size_push'];exact Nat.lt_succ_of_lt lt)]
 exact Heap.get?_push_of_some _ k1
end
end Ev.Dt
namespace Ev.Dt
open PySem PySem.Spec PyProof.Rows L2
section
variable {X:Cx} {pins:List (Addr × Obj)} {σ:L2.St} {H:Hp} {s:Shared} {A:Around} {E:Value→Shared→Prop} {d b:Addr} {ob:Obj} {L:List Row} {k:List Int} {v:V} {u r:Value}
theorem qU {Q:Unit→Shared→Prop} (j:A.units<cLine) (I:Inv X pins σ H s) (e:H d=some (DkO d ob L)) (ks:aT X.K H L) (l:SqT X.K H b (k.map V.int)) (m:RelV v r) (few:L.length<sizeLine)
  (h:∀ a f,Inv X pins σ (upd H d (DkO d a (putL L k b v))) f→Q () f):wpAny (model X.prog X.w) A (dictSet d (.ref b) r) Q E s:=by
 obtain ⟨t,p,xs,g,dd⟩:=full I e ks
 have n:xs.length≤sizeLine:=by rw [← Paired.length g];exact t.sz
 have o:(putL L k b v).length≤sizeLine:=by have:=eN L k b v;omega
 refine wpAny_dictSet_heap (hsz:=n) j (I.isT l) dd fun h' c hs=>?_
 obtain ⟨a,i,t'⟩:=pJ t.lo o (nU m g) c
 exact h a _ (d_write I (by rw [e];exact True.intro) hs ⟨_,i⟩ (gG i t'))
end
section
variable {X:Cx}
def ob0:Obj:={ cls:=.type "dict",data:=.dict #[] }
def HZ (X:Cx) (D:Addr) (H:Hp) (y z:V) (Nx:Hp→Prop):Prop:=∃ b ob L k,y=.ref b∧H D=some (DkO D ob L)∧aT X.K H L∧SqT X.K H b (k.map V.int)∧L.length<sizeLine∧∀ ob',Nx (upd H D (DkO D ob' (putL L k b z)))
def BJ (X:Cx) (J:It) (D:Addr) (g:TG) (tt:TT) (tk tv:TE) (vs:List Nat) (σ:L2.St) (W:Nat→Nat→Hp→Prop) (Qd:Hp→Prop):Prop:=∀ i m H,W i m H →
 (J.stop i H∧Qd H)∨(J.go i H∧∃ Nx:Hp→Prop,(∀ H',Nx H'→∃ m',m'<m∧W (i+1) m' H')∧∀ x H',J.yld i H x H'→g x (wipe σ vs) H' fun σ2 H2=>wipe σ2 vs=wipe σ vs∧tt σ2 H2 fun b H3 =>
  if b=true then tk σ2 H3 fun y H4=>tv σ2 H4 fun z H5=>HZ X D H5 y z Nx else Nx H3)
def HK (X:Cx) (wi:TI) (g:TG) (tt:TT) (tk tv:TE) (vs:List Nat):TE:=fun σ H Q=>wi σ H fun J H1=>∀ D,H1 D=none→∃ W:Nat→Nat→Hp→Prop,(∃ m,W 0 m (upd H1 D (DkO D ob0 [])))∧BJ X J D g tt tk tv vs σ W fun H=>Q (.ref D) H
theorem wI {pins:List (Addr × Obj)} {s:Shared} {σ:L2.St} {H:Hp} {Q:VK} {kx vx tg iter:Expr} {ifs:List Expr} {scope:Scope} {own:List (Str × Nat)} {pos pos':Pos} {wi:TI} {g:TG} {tt:TT} {tk tv:TE} {use:Option (Value→Sem Unit)} {Qf:Value→Shared→Prop}
  (hu:X.A.units<cLine) (hc:X.calm=true) (hN:X.N.Nodup) (I:Inv X pins σ H s) (hi:PI X tg iter wi) (ok:BlkOk X.N X.env.scope scope own)
  (hg:∀ (s:Shared) (H:Hp) (C:Addr) (cl:List (Str × Addr)) (fp:List Addr),PG (X.blk s H scope (compEnvC scope cl C X.env) fp) tg g)
  (ht:∀ (s:Shared) (H:Hp) (C:Addr) (cl:List (Str × Addr)) (fp:List Addr),PTs (X.blk s H scope (compEnvC scope cl C X.env) fp) ifs tt)
  (hk:∀ (s:Shared) (H:Hp) (C:Addr) (cl:List (Str × Addr)) (fp:List Addr),PE (X.blk s H scope (compEnvC scope cl C X.env) fp) kx tk)
  (he:∀ (s:Shared) (H:Hp) (C:Addr) (cl:List (Str × Addr)) (fp:List Addr),PE (X.blk s H scope (compEnvC scope cl C X.env) fp) vx tv)
  (hs:∀ x,foldedSetIterable iter X.env x=pure x) (h:HK X wi g tt tk tv (own.map (·.2)) σ H Q)
  (back:∀ D C f m H',Inv X pins σ H' f→Q (.ref D) H'→f.heap.Ns C m→FpOk X pins H' C→compPost (model X.prog X.w) X.A X.xe use Qf (.ref D) C (.ok .next) f) :
  wpAny (model X.prog X.w) X.A (comprehension (.DictComp kx vx [⟨tg,iter,ifs,0⟩] scope pos) scope X.env pos' newDict false (eval iter X.env) use) Qf X.xe s:=by
 have G:∀ y∈scope.names,y.2=.free→∃ c,X.env.cells.lookup y.1=some c:=fun y hy e=>(ok.free y hy e).elim (fun k=>I.ok.has _ (.inl k)) fun k=>I.ok.has _ (.inr k)
 refine wpAny_comprehension_free (use:=use) rfl hs (closure_ok G) ok.kind (fun y hy e=>by rw [ok.uniq y hy,e]) (thn (hi.run pins s σ H _ I h) fun _ _ hx=>thn hx fun _ s2 h2=>?_)
 obtain ⟨it,fp,tn,J,B,rfl,I2,T,V,f2,q⟩:=h2
 refine wpAny_newObj_type (newEnv_comp ?_)
 generalize hD:s2.heap.objs.size=D
 obtain ⟨W,⟨m0,w0⟩,turn⟩:=q D (I2.hok.fresh (Nat.le_of_eq hD))
 obtain ⟨s3,K⟩:∃ s3:Shared,s3={ s2 with heap:=s2.heap.push ob0 }:=⟨_,rfl⟩
 have h3:s3.heap=s2.heap.push ob0:=by rw [K]
 have I3:Inv X pins σ (upd B D (DkO D ob0 [])) s3:=by
  rw [K,← hD]
  exact I2.laid (a:=s2.heap.objs.size) (t':=s2.toks) (fun _ _ e=>Heap.get?_push_of_some _ e) (Nat.le_refl _) (gG (Heap.get?_push_size _ rfl) (nh s2.heap I2.big))
 have M:∀ b∈fp,FpOk X pins (upd B D (DkO D ob0 [])) b∧b<s3.heap.objs.size:=fun b d=>by
  obtain ⟨o,e,_⟩:=T.obj _ _ V b d
  have lt:=Heap.lt_size e
  refine ⟨⟨?_,(f2 b d).2⟩,by rw [h3,Heap.size_push];exact Nat.lt_succ_of_lt lt⟩
  rw [upd_ne (by rw [← hD];exact Nat.ne_of_lt lt)]
  exact (f2 b d).1
 have ab:tn 0 s3.heap:=T.keep _ _ _ V fun b _ o e=>by rw [h3];exact Heap.get?_push_of_some _ e
 have I4:=block_start I3 ok hN M
 have pg:=hg s3 (upd B D (DkO D ob0 [])) s3.heap.objs.size (cellsFrom (s3.heap.objs.size+1) scope.names (cloFrom X.env.cells scope.names [])) fp
 have pt:=ht s3 (upd B D (DkO D ob0 [])) s3.heap.objs.size (cellsFrom (s3.heap.objs.size+1) scope.names (cloFrom X.env.cells scope.names [])) fp
 have pk:=hk s3 (upd B D (DkO D ob0 [])) s3.heap.objs.size (cellsFrom (s3.heap.objs.size+1) scope.names (cloFrom X.env.cells scope.names [])) fp
 have pe:=he s3 (upd B D (DkO D ob0 [])) s3.heap.objs.size (cellsFrom (s3.heap.objs.size+1) scope.names (cloFrom X.env.cells scope.names [])) fp
 have Y:∀ b∈fp,(upd B D (DkO D ob0 [])) b=none:=fun b d=>(M b d).1.1
 show codeAny _ _ (.compStart (.DictComp kx vx [⟨tg,iter,ifs,0⟩] scope pos) 0 (.ref it) (.ref D) (compEnvC scope (cellsFrom ((s2.heap.push ob0).objs.size+1) scope.names (cloFrom X.env.cells scope.names [])) (s2.heap.push ob0).objs.size X.env)) (compPost (model X.prog X.w) X.A X.xe use Qf (.ref D) (s2.heap.push ob0).objs.size) { s2 with heap:=pushCells ((s2.heap.push ob0).push { cls:=.type "dict",data:=.dict #[] }) scope.names }
 rw [← h3]
 have es:({ s2 with heap:=pushCells (s3.heap.push { cls:=.type "dict",data:=.dict #[] }) scope.names }:Shared)={ s3 with heap:=pushCells (s3.heap.push { cls:=.type "dict",data:=.dict #[] }) scope.names }:=by rw [K]
 rw [es]
 generalize ac:compEnvC scope (cellsFrom (s3.heap.objs.size+1) scope.names (cloFrom X.env.cells scope.names [])) s3.heap.objs.size X.env=ce at I4 pg pt pk pe ⊢
 have cL:ce.locals=s3.heap.objs.size:=by rw [← ac];rfl
 generalize hH3:upd B D (DkO D ob0 [])=t at I3 I4 pg pt pk pe w0 Y M
 obtain ⟨s4,Z⟩:∃ s4:Shared,s4={ s3 with heap:=pushCells (s3.heap.push { cls:=.type "dict",data:=.dict #[] }) scope.names }:=⟨_,rfl⟩
 rw [← Z] at I4 ⊢
 have aa:tn 0 s4.heap:=T.keep _ _ _ ab fun b _ o e=>by rw [Z];exact pushCells_keeps _ _ _ _ (Heap.get?_push_of_some _ e)
 have l:∀ {σ':L2.St} {H':Hp} {f:Shared},Inv (X.blk s3 t scope ce fp) [] σ' H' f→(∀ b∈fp,H' b=none)→∀ b∈fp,FpOk (X.blk s3 t scope ce fp) [] H' b:=fun {σ' H' f} O hn b d =>
  ⟨hn b d,(O.ok.exf b d).1,O.ok.exfs b d,.inl d,fun x c e=>(O.ok.exf b d).2 x c e,fun p hp=>absurd (show p∈([]:List (Addr × Obj))++[] from hp) (by simp)⟩
 have loop:codeAny (model X.prog X.w) X.A (.compLoop (.DictComp kx vx [⟨tg,iter,ifs,0⟩] scope pos) 0 (.ref it) (.ref D) ce) (compPost (model X.prog X.w) X.A X.xe use Qf (.ref D) s3.heap.objs.size) s4:=by
  refine compLoop_anyD (fun n f=>∃ i H',Inv (X.blk s3 t scope ce fp) [] (wipe σ (own.map (·.2))) H' f∧tn i f.heap∧(∀ b∈fp,H' b=none)∧W i n H') ?_ m0 ⟨0,t,I4,aa,Y,w0⟩
  rintro n s5 ⟨i,P,I5,st5,n5,w5⟩
  rcases turn i n P w5 with ⟨stop,qq⟩ | ⟨go,Nx,hNx,step⟩
  ·refine thnF (T.done (X.blk s3 t scope ce fp) rfl rfl rfl hc i [] s5 _ P (fun _ _=>False) I5 (l I5 n5) st5 stop) fun r s6 ⟨hr,R⟩=>?_
   subst hr
   have I7:Inv X pins σ P s6:=I3.call' (ch:=fp) R.os R.base R.hok R.bare fun b d=>⟨(M b d).1.2.2.2.1,(M b d).1.2.1,(M b d).1.2.2.2.2.1,(M b d).1.2.2.2.2.2⟩
   have nC:P ce.locals=none:=R.free
   obtain ⟨m,hn,_⟩:=R.loc
   have hn:s6.heap.Ns ce.locals m:=hn
   rw [cL] at hn nC
   exact back D s3.heap.objs.size s6 m P I7 qq hn (I3.fpOk (Nat.le_refl _) nC)
  ·refine thnF (T.item (X.blk s3 t scope ce fp) rfl rfl rfl hc i [] s5 _ P (fun _ _=>False) I5 (l I5 n5) st5 go) fun r s6 ⟨u,hr,h6⟩=>?_
   subst hr
   refine thnF h6 fun _ s7 ⟨x,H7,I7,r7,y7,st7,n7⟩=>?_
   refine thnF (pg.run _ s7 _ H7 x u _ (I7.pinned (l I7 n7) (T.obj _ _ st7)) r7 (step x H7 y7)) fun _ s8 ⟨σ8,H8,I8,hw8,q8⟩=>?_
   refine thnF (pt.run _ s8 σ8 H8 _ I8 q8) fun b s9 ⟨H9,I9,q9⟩=>?_
   have fin:∀ {f:Shared} {H':Hp},Inv (X.blk s3 t scope ce fp) ([]++pinsAt fp s7.heap) σ8 H' f→Nx H'→∃ m,m<n∧∃ i H',Inv (X.blk s3 t scope ce fp) [] (wipe σ (own.map (·.2))) H' f∧tn i f.heap∧(∀ b∈fp,H' b=none)∧W i m H':=fun {f H'} O nx=>by
    obtain ⟨m',hm,w'⟩:=hNx H' nx
    have F:∀ b∈fp,∀ o,s7.heap.get? b=some o→f.heap.get? b=some o∧H' b=none:=fun b d o e =>
     have z:=O.pin (b,o) (List.mem_append_right _ (List.mem_append_right _ (mem_pinsAt d e)))
     ⟨z.1,z.2.1⟩
    refine ⟨m',hm,i+1,H',(O.unpinned (pins:=[])).weak (by rw [← hw8,wipe_length]) (fun j v e=>?_),T.keep _ _ _ st7 fun b d o e=>(F b d o e).1,fun b d=>?_,w'⟩
    ·rw [← hw8] at e
     exact (wipe_some e).1
    ·obtain ⟨o,e,_⟩:=T.obj _ _ st7 b d
     exact (F b d o e).2
   cases b with
   | false=>exact fin I9 q9
   | true =>
    refine thnF (pk.run _ s9 σ8 H9 _ I9 q9) fun z s10 ⟨yk,H10,ad,r10,q10⟩=>?_
    refine thnF (pe.run _ s10 σ8 H10 _ ad q10) fun z2 s11 ⟨yv,H11,I11,r11,b,ob,L,k,ek,hD11,ks,kb,few,nx⟩=>?_
    subst ek
    cases r10
    exact qU (X:=X.blk s3 t scope ce fp) hu I11 hD11 ks kb r11 few fun ae ag af=>fin af (nx ae)
 exact codeAny_compStart_dict loop (T.self X.A 0 _ _ _ aa loop)
theorem DP {kx vx tg iter:Expr} {ifs:List Expr} {scope:Scope} {own:List (Str × Nat)} {pos:Pos} {a:TI} {g:TG} {tt:TT} {tk tv:TE} (c:X.A.units<cLine) (d:X.calm=true) (hN:X.N.Nodup) (hi:PI X tg iter a) (ok:BlkOk X.N X.env.scope scope own)
  (hg:∀ (s:Shared) (H:Hp) (C:Addr) (cl:List (Str × Addr)) (fp:List Addr),PG (X.blk s H scope (compEnvC scope cl C X.env) fp) tg g)
  (ht:∀ (s:Shared) (H:Hp) (C:Addr) (cl:List (Str × Addr)) (fp:List Addr),PTs (X.blk s H scope (compEnvC scope cl C X.env) fp) ifs tt)
  (hk:∀ (s:Shared) (H:Hp) (C:Addr) (cl:List (Str × Addr)) (fp:List Addr),PE (X.blk s H scope (compEnvC scope cl C X.env) fp) kx tk)
  (he:∀ (s:Shared) (H:Hp) (C:Addr) (cl:List (Str × Addr)) (fp:List Addr),PE (X.blk s H scope (compEnvC scope cl C X.env) fp) vx tv) (hs:∀ x,foldedSetIterable iter X.env x=pure x:=by intro _;rfl) :
  PE X (.DictComp kx vx [⟨tg,iter,ifs,0⟩] scope pos) (HK X a g tt tk tv (own.map (·.2))):=by
 refine ⟨fun pins s σ H Q I h=>?_⟩
 rw [arm_eval_DictComp]
 refine wI c d hN I hi ok hg ht hk he hs h fun D C i m H' j q hn f=>⟨m,hn,fun k sb=>?_⟩
 exact ⟨.ref D,H',j.turned (t':=i.toks) (fun b o l e=>(sb.2 b l).trans e) f.1 f.2.1 f.2.2.2.1 f.2.2.2.2.1 f.2.2.2.2.2,rfl,q⟩
end
def gE (L M:List Row):List Row:=M.foldl (fun a p=>putL a p.2.1 p.1 p.2.2) L
theorem wH {M:List Row} {ms:List (List Int × Addr × Value)} (r:Paired Ent M ms):∀ {L:List Row} {xs:List (List Int × Addr × Value)},Paired Ent L xs→Paired Ent (gE L M) (storedAllH xs ms):=by
 induction r with
 | nil=>exact fun h=>h
 | @cons p q M ms h t ih =>
  intro L xs r
  have:=ih (nU (k:=p.2.1) (b:=p.1) h.2.2 r)
  unfold gE storedAllH at this ⊢
  rw [List.foldl_cons,List.foldl_cons]
  rw [h.1,h.2.1] at this
  rw [h.1,h.2.1]
  exact this
theorem fW:∀ (M L:List Row),(gE L M).length≤L.length+M.length
 | [],L=>by simp [gE]
 | p::M,L=>by
  have:=fW M (putL L p.2.1 p.1 p.2.2)
  have h:=eN L p.2.1 p.1 p.2.2
  unfold gE at *
  rw [List.foldl_cons,List.length_cons]
  omega
section
variable {X:Cx} {o i:Expr} {apos cpos:Pos} {td ty:TE}
def Fw (X:Cx) (td ty:TE):TE:=fun σ H Q=>td σ H fun x H1=>∃ d L1,x=.ref d∧yc X H1 d L1∧ty σ H1 fun y H2=>∃ b ob1 ob2 L M,y=.ref b∧d≠b∧H2 d=some (DkO d ob1 L)∧aT X.K H2 L∧H2 b=some (DkO b ob2 M)∧aT X.K H2 M ∧
 (L≠[]∨(M.map fun p:Row=>mO p.2.1).Nodup)∧L.length+M.length≤sizeLine∧∀ ob',Q .non (upd H2 d (DkO d ob' (gE L M)))
theorem AN (p:X.A.units+1<cLine) (q:PE X o td) (he:PE X i ty) (m:M1 X o "update" apos i cpos):PE X (.Call (.Attribute o "update" apos) [i] [] cpos) (Fw X td ty):=by
 refine ⟨fun pins s σ H Q I h=>wpAny_Call_method m.base m.few m.line PySem.F.plainAttrs_dict PySem.F.slot_dict_update PySem.F.type_dict_update (thn (q.run pins s σ H _ I h) fun u s1 ⟨x,H1,k,r,d,Y,ex,g1,t⟩=>?_)⟩
 subst ex
 cases r
 obtain ⟨t1,t2⟩:=g1.type k
 refine ⟨t1,t2,?_⟩
 rw [m.trees]
 refine Calls.callWith_builtin rfl (Calls.evalArgs_plain (Calls.spliced_cons (thn (he.run pins s1 σ H1 _ k t) fun iv s2 ⟨y,Z,a,v,b,B,C,L,M,G,ne,l,k1,J,k2,hap,hsz,K⟩=>Calls.spliced_nil ?_)))
 subst G
 cases v
 obtain ⟨ta,g1,xs,ra,N⟩:=full a l k1
 obtain ⟨tb,g2,ms,c,db⟩:=full a J k2
 have f:=Paired.length ra
 have O:=Paired.length c
 refine call_update_dictH (knd:=TK X.prog X.w) p ne tb.lo N db ?_ (by rw [← f,← O];exact hsz) fun h' g _ sb=>?_
 ·rcases hap with z | z
  ·left
   intro e
   rw [e] at f
   exact z (List.eq_nil_of_length_eq_zero f)
  ·right
   refine ⟨fun x R=>?_,?_⟩
   ·obtain ⟨_,_,_,_,_,_,_,V,_⟩:=db
    exact IsTupleKey.typeIs (V x R)
   ·have:=xP (P:=X.prog) (w:=X.w) c
    rw [← this] at z
    exact z
 ·have lp:=fW M L
  obtain ⟨j,n,t'⟩:=pJ (L:=gE L M) ta.lo (by omega) (wH c ra) g
  exact ⟨.non,_,d_write a (by rw [l];exact True.intro) sb ⟨_,n⟩ (gG n t'),rfl,K j⟩
end
end Ev.Dt
namespace Ev
open PySem PySem.Spec PyProof.Rows L2
mutual
theorem yh:∀ d:D,d.fz=true→d.frz=d
 | .non,_=>rfl
 | .bl _,_=>rfl
 | .int _,_=>rfl
 | .str _,_=>rfl
 | .scr _,_=>rfl
 | .tup xs,h=>by simp only [D.fz] at h;simp only [D.frz,cA xs h]
 | .obj cn xs,h=>by simp only [D.fz] at h;simp only [D.frz,cA xs h]
 | .exc cn nms xs,h=>by simp only [D.fz] at h;simp only [D.frz,cA xs h]
 | .mob _ _,h=>by simp [D.fz] at h
 | .cls _,_=>rfl
 | .tpn xs,h=>by simp only [D.fz] at h;simp only [D.frz,cA xs h]
 | .dct o ks xs,h=>by
  simp only [D.fz,Bool.and_eq_true,Bool.not_eq_true'] at h
  obtain ⟨a,b⟩:=h
  subst a
  simp only [D.frz,cA xs b]
 | .dtk o ks xs,h=>by
  simp only [D.fz,Bool.and_eq_true,Bool.not_eq_true'] at h
  obtain ⟨a,b⟩:=h
  subst a
  simp only [D.frz,cA xs b]
 | .lst o xs,h=>by
  simp only [D.fz,Bool.and_eq_true,Bool.not_eq_true'] at h
  obtain ⟨a,b⟩:=h
  subst a
  simp only [D.frz,cA xs b]
theorem cA:∀ ds:List D,fzs ds=true→frzs ds=ds
 | [],_=>rfl
 | d::ds,h=>by
  simp only [fzs,Bool.and_eq_true] at h
  simp only [frzs,yh d h.1,cA ds h.2]
end
mutual
theorem DS:∀ d:D,d.frz.fz=true
 | .non=>rfl
 | .bl _=>rfl
 | .int _=>rfl
 | .str _=>rfl
 | .scr _=>rfl
 | .tup xs=>by simp only [D.frz,D.fz,bV xs]
 | .obj cn xs=>by simp only [D.frz,D.fz,bV xs]
 | .exc cn nms xs=>by simp only [D.frz,D.fz,bV xs]
 | .mob cn xs=>by simp only [D.frz,D.fz,bV xs]
 | .dct o ks xs=>by simp only [D.frz,D.fz,bV xs];rfl
 | .dtk o ks xs=>by simp only [D.frz,D.fz,bV xs];rfl
 | .cls _=>rfl
 | .tpn xs=>by simp only [D.frz,D.fz,bV xs]
 | .lst o xs=>by simp only [D.frz,D.fz,bV xs];rfl
theorem bV:∀ ds:List D,fzs (frzs ds)=true
 | []=>rfl
 | d::ds=>by simp only [frzs,fzs,DS d,bV ds];rfl
end
theorem dq:∀ ds:List D,(frzs ds).length=ds.length
 | []=>rfl
 | d::ds=>by simp only [frzs,List.length_cons,dq ds]
def Hg (F:Hp):Option Addr→List (Str × V)→Prop
 | none,fs=>fs=[]
 | some dd,fs=>F dd=some (.xd fs)
def e9 (ks:List Str) (vs:List V):List (Key × V):=(ks.map Sum.inr).zip vs
def CP (F:Hp) (a:Addr) (vs:List V):Prop:=∃ o:Obj,F a=some (.frz o (.tup vs))∧o.cls=.type "tuple" ∧ o.dict=none
mutual
inductive Rp (K:Frag) (F:Hp):V→D→Prop
 | non:Rp K F .non .non
 | bl (b:Bool):Rp K F (.bl b) (.bl b)
 | int (i:Int):Rp K F (.int i) (.int i)
 | str (s:Str):Rp K F (.str s) (.str s)
 | tup {a:Addr} {vs:List V} {ds:List D}:SqT K F a vs→RpL K F vs ds→Rp K F (.ref a) (.tup ds)
 | lst {a:Addr} {vs:List V} {ds:List D}:F a=some (.lst vs)→RpL K F vs ds→Rp K F (.ref a) (.lst false ds)
 | scr {a:Addr} {ns:List Int}:SqL K F a (ns.map V.int)→Rp K F (.ref a) (.scr ns)
 | obj {a C dx:Addr} {cn:Str} {vs:List V} {ds:List D}:nsIn K mainGlobals cn=some (some (.ref C))→SlX.Slt F a C dx (vs.map some)→vs≠[]→RpL K F vs ds→Rp K F (.ref a) (.obj cn ds)
 | exc {a C:Addr} {d:Option Addr} {cn:Str} {fs:List (Str × V)} {vs:List V} {nms:List Str} {ds:List D}:nsIn K mainGlobals cn=some (some (.ref C))→F a=some (Xc.HQ a (.ref C) d)→Hg F d fs→fs.map (·.1)=nms→fs.map (·.2)=vs→RpL K F vs ds→Rp K F (.ref a) (.exc cn nms ds)
 | dct {a:Addr} {ks:List Str} {vs:List V} {ds:List D}:F a=some (.dK (e9 ks vs))→ks.length=vs.length→ks.Nodup→RpL K F vs ds→Rp K F (.ref a) (.dct false ks ds)
 | dtk {a:Addr} {ob:Obj} {L:List Dt.Row} {ks:List (List Int)} {vs:List V} {ds:List D}:F a=some (Dt.DkO a ob L)→Dt.aT K F L→Dt.cF L=ks→Dt.mM L=vs→RpL K F vs ds→Rp K F (.ref a) (.dtk false ks ds)
 | cls {C:Addr} {cn:Str}:nsIn K mainGlobals cn=some (some (.ref C))→Rp K F (.ref C) (.cls cn)
 | tpn {a:Addr} {vs:List V} {ds:List D}:CP F a vs→RpL K F vs ds→Rp K F (.ref a) (.tpn ds)
inductive RpL (K:Frag) (F:Hp):List V→List D→Prop
 | nil:RpL K F [] []
 | cons {v:V} {vs:List V} {d:D} {ds:List D}:Rp K F v d→RpL K F vs ds→RpL K F (v::vs) (d::ds)
end
theorem af {K:Frag} {F F':Hp} (s:Same F F') {a:Addr} {xs:List V} (h:SqT K F a xs):SqT K F' a xs:=by
 rcases h with (h | ⟨o,h⟩) | h
 ·exact .inl (.inl (s _ _ h))
 ·exact .inl (.inr ⟨o,s _ _ h⟩)
 ·exact .inr h
theorem aD {K:Frag} {F F':Hp} (s:Same F F') {L:List Dt.Row} (h:Dt.aT K F L):Dt.aT K F' L:=fun p a=>af s (h p a)
theorem uJ {F F':Hp} (s:Same F F') {a:Addr} {xs:List V} (h:CP F a xs):CP F' a xs:=by
 obtain ⟨o,b,c,d⟩:=h
 exact ⟨o,s _ _ b,c,d⟩
theorem Ay {F F':Hp} (s:Same F F') {d:Option Addr} {fs:List (Str × V)} (h:Hg F d fs):Hg F' d fs:=by
 cases d with
 | none=>exact h
 | some dd=>exact s _ _ h
theorem ck {F F':Hp} (s:Same F F') {a C dx:Addr} {vs:List (Option V)} (h:SlX.Slt F a C dx vs):SlX.Slt F' a C dx vs:=by
 rcases h with ⟨b,c⟩ | ⟨b,c⟩
 ·exact .inl ⟨s _ _ b,c⟩
 ·exact .inr ⟨s _ _ b,s _ _ c⟩
section
variable {K:Frag} {F F' H H':Hp}
mutual
theorem Rp.mono (s:Same F F'):∀ {v:V} {d:D},Rp K F v d→Rp K F' v d
 | _,_,.non=>.non
 | _,_,.bl b=>.bl b
 | _,_,.int i=>.int i
 | _,_,.str x=>.str x
 | _,_,.tup h l=>.tup (af s h) (RpL.mono s l)
 | _,_,.lst h l=>.lst (s _ _ h) (RpL.mono s l)
 | _,_,.scr h=>.scr (s.seq h)
 | _,_,.obj n h e l=>.obj n (ck s h) e (RpL.mono s l)
 | _,_,.exc n h x a c l=>.exc n (s _ _ h) (Ay s x) a c (RpL.mono s l)
 | _,_,.dct h e n l=>.dct (s _ _ h) e n (RpL.mono s l)
 | _,_,.dtk h ks a c l=>.dtk (s _ _ h) (aD s ks) a c (RpL.mono s l)
 | _,_,.cls n=>.cls n
 | _,_,.tpn h l=>.tpn (uJ s h) (RpL.mono s l)
theorem RpL.mono (s:Same F F'):∀ {vs:List V} {ds:List D},RpL K F vs ds→RpL K F' vs ds
 | _,_,.nil=>.nil
 | _,_,.cons h t=>.cons (Rp.mono s h) (RpL.mono s t)
end
mutual
theorem Rp.fz:∀ {v:V} {d:D},Rp K F v d→d.fz=true
 | _,_,.non=>rfl
 | _,_,.bl b=>rfl
 | _,_,.int i=>rfl
 | _,_,.str x=>rfl
 | _,_,.tup h l=>by simp only [D.fz];exact RpL.fz l
 | _,_,.lst h l=>by simp only [D.fz,Bool.not_false,Bool.true_and];exact RpL.fz l
 | _,_,.scr h=>rfl
 | _,_,.obj n h e l=>by simp only [D.fz];exact RpL.fz l
 | _,_,.exc n h x a c l=>by simp only [D.fz];exact RpL.fz l
 | _,_,.dct h e n l=>by simp only [D.fz,Bool.not_false,Bool.true_and];exact RpL.fz l
 | _,_,.dtk h ks a c l=>by simp only [D.fz,Bool.not_false,Bool.true_and];exact RpL.fz l
 | _,_,.cls _=>rfl
 | _,_,.tpn h l=>by simp only [D.fz];exact RpL.fz l
theorem RpL.fz:∀ {vs:List V} {ds:List D},RpL K F vs ds→fzs ds=true
 | _,_,.nil=>rfl
 | _,_,.cons h t=>by simp only [fzs,Rp.fz h,RpL.fz t];rfl
end
theorem RpL.length:∀ {vs:List V} {ds:List D},RpL K F vs ds→vs.length=ds.length
 | _,_,.nil=>rfl
 | _,_,.cons _ t=>by simp only [List.length_cons,RpL.length t]
theorem RpL.get:∀ {vs:List V} {ds:List D} {i:Nat} {d:D},RpL K F vs ds→ds[i]?=some d→∃ v,vs[i]?=some v∧Rp K F v d
 | _,_,i,d,.nil,e=>by simp at e
 | _,_,0,d,.cons h t,e=>by simp at e;subst e;exact ⟨_,rfl,h⟩
 | _,_,i+1,d,.cons h t,e=>by
  obtain ⟨v,a,b⟩:=RpL.get (i:=i) (d:=d) t (by simpa using e)
  exact ⟨v,by simpa using a,b⟩
theorem RpL.append:∀ {vs ws:List V} {ds es:List D},RpL K F vs ds→RpL K F ws es→RpL K F (vs++ws) (ds++es)
 | _,_,_,_,.nil,q=>q
 | _,_,_,_,.cons h t,q=>.cons h (RpL.append t q)
theorem RpL.take:∀ {vs:List V} {ds:List D} (n:Nat),RpL K F vs ds→RpL K F (vs.take n) (ds.take n)
 | _,_,0,_=>.nil
 | _,_,_+1,.nil=>.nil
 | _,_,n+1,.cons h t=>.cons h (RpL.take n t)
theorem RpL.drop:∀ {vs:List V} {ds:List D} (n:Nat),RpL K F vs ds→RpL K F (vs.drop n) (ds.drop n)
 | _,_,0,r=>r
 | _,_,_+1,.nil=>.nil
 | _,_,n+1,.cons h t=>RpL.drop n t
abbrev Fp:=Addr→Prop
def Dj (W U:Fp):Prop:=∀ b,W b→¬ U b
def Un2 (W U:Fp):Fp:=fun b=>W b∨U b
def No:Fp:=fun _=>False
mutual
inductive Ow (K:Frag) (F H:Hp):V→D→Fp→Prop
 | frz {v:V} {d:D} {W:Fp}:Rp K F v d→Ow K F H v d W
 | own {a:Addr} {vs:List V} {ds:List D} {W U:Fp}:H a=some (.lst vs)→F a=none→W a→OwL K F H vs ds U→¬ U a→(∀ b,U b→W b)→Ow K F H (.ref a) (.lst true ds) W
 | mob {a C dx:Addr} {cn:Str} {vs:List V} {ds:List D} {W:Fp}:nsIn K mainGlobals cn=some (some (.ref C))→H a=some (SlX.SlO a C dx (vs.map some))→H dx=some (.xd [])→dx≠a→vs≠[]→F a=none→F dx=none→W a→W dx→RpL K F vs ds→Ow K F H (.ref a) (.mob cn ds) W
 | dct {a:Addr} {ks:List Str} {vs:List V} {ds:List D} {W:Fp}:H a=some (.dK (e9 ks vs))→ks.length=vs.length→ks.Nodup→F a=none→W a→RpL K F vs ds→Ow K F H (.ref a) (.dct true ks ds) W
 | dtk {a:Addr} {ob:Obj} {L:List Dt.Row} {ks:List (List Int)} {vs:List V} {ds:List D} {W:Fp}:H a=some (Dt.DkO a ob L)→Dt.aT K F L→Dt.cF L=ks→Dt.mM L=vs→F a=none→W a→RpL K F vs ds→Ow K F H (.ref a) (.dtk true ks ds) W
inductive OwL (K:Frag) (F H:Hp):List V→List D→Fp→Prop
 | nil {W:Fp}:OwL K F H [] [] W
 | cons {v:V} {vs:List V} {d:D} {ds:List D} {W W1 W2:Fp}:Ow K F H v d W1→OwL K F H vs ds W2→Dj W1 W2→(∀ b,W1 b→W b)→(∀ b,W2 b→W b)→OwL K F H (v::vs) (d::ds) W
end
theorem Ow.weak {v:V} {d:D} {W W':Fp} (h:Ow K F H v d W) (s:∀ b,W b→W' b):Ow K F H v d W':=by
 cases h with
 | frz r=>exact .frz r
 | own a c g i j k=>exact .own a c (s _ g) i j fun b q=>s b (k b q)
 | mob n h hd ne e f1 f2 m o l=>exact .mob n h hd ne e f1 f2 (s _ m) (s _ o) l
 | dct h e n f w l=>exact .dct h e n f (s _ w) l
 | dtk h ks p t f w l=>exact .dtk h ks p t f (s _ w) l
theorem OwL.weak {vs:List V} {ds:List D} {W W':Fp} (h:OwL K F H vs ds W) (s:∀ b,W b→W' b):OwL K F H vs ds W':=by
 cases h with
 | nil=>exact .nil
 | cons a c d e f=>exact .cons a c d (fun b q=>s b (e b q)) fun b q=>s b (f b q)
mutual
theorem Ow.keep (s:Same F F'):∀ {v:V} {d:D} {W:Fp},Ow K F H v d W→(∀ b,W b→∀ o,H b=some o→F b=none→H' b=some o∧F' b=none)→Ow K F' H' v d W
 | _,_,_,.frz r,_=>.frz (r.mono s)
 | _,_,_,.own i j a p t m,k=>.own (k _ a _ i j).1 (k _ a _ i j).2 a (OwL.keep s p fun b q=>k b (m b q)) t m
 | _,_,_,.mob n h hd ne e f1 f2 c g l,k=>.mob n (k _ c _ h f1).1 (k _ g _ hd f2).1 ne e (k _ c _ h f1).2 (k _ g _ hd f2).2 c g (l.mono s)
 | _,_,_,.dct h e n f w l,k=>.dct (k _ w _ h f).1 e n (k _ w _ h f).2 w (l.mono s)
 | _,_,_,.dtk h ks u x f w l,k=>.dtk (k _ w _ h f).1 (aD s ks) u x (k _ w _ h f).2 w (l.mono s)
theorem OwL.keep (s:Same F F'):∀ {vs:List V} {ds:List D} {W:Fp},OwL K F H vs ds W→(∀ b,W b→∀ o,H b=some o→F b=none→H' b=some o∧F' b=none)→OwL K F' H' vs ds W
 | _,_,_,.nil,_=>.nil
 | _,_,_,.cons d e f a c,k=>.cons (Ow.keep s d fun b q=>k b (a b q)) (OwL.keep s e fun b q=>k b (c b q)) f a c
end
theorem Ow.fz {v:V} {d:D} {W:Fp} (h:Ow K F H v d W) (e:d.fz=true):Rp K F v d:=by
 cases h with
 | frz r=>exact r
 | own _ _ _ _ _ _=>simp [D.fz] at e
 | mob _ _ _ _ _ _ _ _ _ _=>simp [D.fz] at e
 | dct _ _ _ _ _ _=>simp [D.fz] at e
 | dtk _ _ _ _ _ _ _=>simp [D.fz] at e
theorem OwL.fz:∀ {vs:List V} {ds:List D} {W:Fp},OwL K F H vs ds W→fzs ds=true→RpL K F vs ds
 | _,_,_,.nil,_=>.nil
 | _,_,_,.cons a b _ _ _,e=>by
  simp only [fzs,Bool.and_eq_true] at e
  exact .cons (a.fz e.1) (OwL.fz b e.2)
theorem OwL.length:∀ {vs:List V} {ds:List D} {W:Fp},OwL K F H vs ds W→vs.length=ds.length
 | _,_,_,.nil=>rfl
 | _,_,_,.cons _ a _ _ _=>by simp only [List.length_cons,OwL.length a]
theorem OwL.of:∀ {vs:List V} {ds:List D} {W:Fp},RpL K F vs ds→OwL K F H vs ds W
 | _,_,_,.nil=>.nil
 | _,_,_,.cons h t=>.cons (W1:=No) (W2:=No) (.frz h) (OwL.of t) (fun _ q=>q.elim) (fun _ q=>q.elim) fun _ q=>q.elim
open Classical in
noncomputable def fzH (F H:Hp) (W:Fp):Hp:=fun b=>if W b then H b else F b
theorem cw {W:Fp} {b:Addr} (h:W b):fzH F H W b=H b:=by unfold fzH;rw [if_pos h]
theorem gF {W:Fp} {b:Addr} (h:¬ W b):fzH F H W b=F b:=by unfold fzH;rw [if_neg h]
theorem bT {W:Fp} (s:Same F H):Same F (fzH F H W):=fun b o e=>by
 by_cases h:W b
 ·rw [cw h];exact s _ _ e
 ·rw [gF h];exact e
theorem iU {W:Fp} (s:Same F H):Same (fzH F H W) H:=fun b o e=>by
 by_cases h:W b
 ·rw [cw h] at e;exact e
 ·rw [gF h] at e;exact s _ _ e
theorem iq {W:Fp} {b:Addr} {o:HO} (e:fzH F H W b=some o):F b=some o∨W b:=by
 by_cases h:W b
 ·exact .inr h
 ·rw [gF h] at e;exact .inl e
mutual
theorem Ow.share (s:Same F H) {U:Fp}:∀ {v:V} {d:D} {W:Fp},Ow K F H v d W→(∀ b,W b→U b)→Rp K (fzH F H U) v d.frz
 | _,d,_,.frz r,_=>by rw [yh d r.fz];exact r.mono (bT s)
 | _,_,_,.own a t c g u i,k=>by
  simp only [D.frz]
  exact .lst (by rw [cw (k _ c)];exact a) (OwL.share s g fun b q=>k b (i b q))
 | _,_,_,.mob n h hd ne e f1 f2 j m l,k=>by
  simp only [D.frz]
  rw [cA _ l.fz]
  exact .obj n (.inr ⟨by rw [cw (k _ j)];exact h,by rw [cw (k _ m)];exact hd⟩) e (l.mono (bT s))
 | _,_,_,.dct h e n f w l,k=>by
  simp only [D.frz]
  rw [cA _ l.fz]
  exact .dct (by rw [cw (k _ w)];exact h) e n (l.mono (bT s))
 | _,_,_,.dtk h ks o p f w l,k=>by
  simp only [D.frz]
  rw [cA _ l.fz]
  exact .dtk (by rw [cw (k _ w)];exact h) (aD (bT s) ks) o p (l.mono (bT s))
theorem OwL.share (s:Same F H) {U:Fp}:∀ {vs:List V} {ds:List D} {W:Fp},OwL K F H vs ds W→(∀ b,W b→U b)→RpL K (fzH F H U) vs (frzs ds)
 | _,_,_,.nil,_=>.nil
 | _,_,_,.cons a c _ d e,k=>.cons (Ow.share s a fun b q=>k b (d b q)) (OwL.share s c fun b q=>k b (e b q))
end
def bD (H:Hp):V→List Nat→V→Prop
 | v0,[],v=>v0=v
 | v0,k::p,v=>∃ a vs v1,v0=.ref a∧H a=some (.lst vs)∧vs[k]?=some v1∧bD H v1 p v
theorem bD.uniq:∀ {p:List Nat} {v0 v v':V},bD H v0 p v→bD H v0 p v'→v=v'
 | [],_,_,_,a,b=>a.symm.trans b
 | k::p,_,_,_,⟨a,vs,v1,d,e,g1,f⟩,⟨j,vs',g,h,c,g2,i⟩=>by
  subst d
  cases h
  rw [e] at c
  cases c
  rw [g1] at g2
  cases g2
  exact bD.uniq f i
theorem OwL.get:∀ {vs:List V} {ds:List D} {W:Fp} {i:Nat} {d:D},OwL K F H vs ds W→ds[i]?=some d→∃ v U,vs[i]?=some v∧Ow K F H v d U∧∀ b,U b→W b
 | _,_,_,i,d,.nil,e=>by simp at e
 | _,_,_,0,d,.cons a _ _ c _,e=>by simp at e;subst e;exact ⟨_,_,rfl,a,c⟩
 | _,_,_,i+1,d,.cons _ f _ _ j,e=>by
  obtain ⟨v,U,g,h,s⟩:=OwL.get (i:=i) (d:=d) f (by simpa using e)
  exact ⟨v,U,by simpa using g,h,fun b q=>j b (s b q)⟩
theorem Ow.at:∀ {p:List Nat} {v0:V} {d0 d:D} {W:Fp},Ow K F H v0 d0 W→d0.at p=some d→∃ v U,bD H v0 p v∧Ow K F H v d U∧∀ b,U b→W b
 | [],v0,d0,d,W,h,e=>by
  simp only [D.at,Option.some.injEq] at e
  subst e
  exact ⟨v0,W,rfl,h,fun _ q=>q⟩
 | k::p,v0,d0,d,W,h,e=>by
  cases d0 with
  | lst o ds =>
   cases o with
   | true =>
    cases h with
    | frz r=>cases r
    | own a g i c j f =>
     simp only [D.at] at e
     split at e
     ·rename_i x ex
      obtain ⟨v1,l,g1,o1,s1⟩:=c.get ex
      obtain ⟨v,U,q,o2,s2⟩:=Ow.at o1 e
      exact ⟨v,U,⟨_,_,v1,rfl,a,g1,q⟩,o2,fun b z=>f b (s1 b (s2 b z))⟩
     ·cases e
   | false=>simp [D.at] at e
  | _=>simp [D.at] at e
end
end Ev
namespace Ev
open PySem PySem.Spec PyProof.Rows L2
theorem gC {α:Type}:∀ {l:List α} {k:Nat} {x:α},l[k]?=some x→l.set k x=l
 | [],k,x,e=>by simp at e
 | y::l,0,x,e=>by simp at e;simp [e]
 | y::l,k+1,x,e=>by simp only [List.set_cons_succ];rw [gC (by simpa using e)]
section
variable {K:Frag} {F H:Hp}
def Kept (F H F' H':Hp) (W U:Fp):Prop:=∀ b,W b→¬ U b→∀ o,H b=some o→F b=none→H' b=some o∧F' b=none
theorem OwL.zip:∀ {vs:List V} {ds:List D} {W:Fp} {k:Nat} {d:D},OwL K F H vs ds W→ds[k]?=some d→∃ v U,vs[k]?=some v∧Ow K F H v d U∧(∀ b,U b→W b) ∧
  ∀ {F' H':Hp} {v':V} {d':D} {U' W':Fp},Same F F'→Ow K F' H' v' d' U'→Kept F H F' H' W U→(∀ b,U' b→U b∨¬ W b)→(∀ b,W b→W' b)→(∀ b,U' b→W' b)→OwL K F' H' (vs.set k v') (ds.set k d') W'
 | _,_,_,k,d,.nil,e=>by simp at e
 | _,_,_,0,d,.cons (v:=v) (W1:=W1) (W2:=W2) i j c f a,e=>by
  simp at e
  subst e
  refine ⟨v,W1,rfl,i,f,fun {F' H' v' d' U' W'} s o kp un h l=>?_⟩
  simp only [List.set_cons_zero]
  refine .cons o (j.keep s fun b q=>kp b (a b q) fun z=>c b z q) (fun b q z=>?_) l fun b q=>h b (a b q)
  rcases un b q with r | r
  ·exact c b r z
  ·exact r (a b z)
 | _,_,_,k+1,d,.cons (v:=v0) (W1:=W1) (W2:=W2) i j c f a,e=>by
  obtain ⟨v,U,g,o,s1,z⟩:=OwL.zip (k:=k) j (by simpa using e)
  refine ⟨v,U,by simpa using g,o,fun b q=>a b (s1 b q),fun {F' H' v' d' U' W'} s o' kp un h l=>?_⟩
  simp only [List.set_cons_succ]
  refine .cons (W1:=W1) (W2:=Un2 W2 U') (i.keep s fun b q=>kp b (f b q) fun r=>c b q (s1 b r)) (z s o' (fun b q=>kp b (a b q)) (fun b q=>(un b q).imp id fun r t=>r (a b t)) (fun b q=>.inl q) fun b q=>.inr q) (fun b q r=>?_) (fun b q=>h b (f b q)) fun b q=>?_
  ·rcases r with r | r
   ·exact c b q r
   ·rcases un b r with t | t
    ·exact c b q (s1 b t)
    ·exact t (f b q)
  ·rcases q with q | q
   ·exact h b (a b q)
   ·exact l b q
theorem Ow.zip:∀ {p:List Nat} {v0:V} {d0 d:D} {W:Fp},Ow K F H v0 d0 W→d0.at p=some d→∃ v U,bD H v0 p v∧Ow K F H v d U∧(∀ b,U b→W b) ∧
  ∀ {F' H':Hp} {d' c:D} {U' W':Fp} {f:D→Option D},Same F F'→Ow K F' H' v d' U'→Kept F H F' H' W U→(∀ b,U' b→U b∨¬ W b)→(∀ b,W b→W' b)→(∀ b,U' b→W' b) →
   f d=some d'→d0.mP p f=some c→Ow K F' H' v0 c W'
 | [],v0,d0,d,W,h,e=>by
  simp only [D.at,Option.some.injEq] at e
  subst e
  refine ⟨v0,W,rfl,h,fun _ q=>q,fun {F' H' d' c U' W' f} s o kp un j m hf g=>?_⟩
  simp only [D.mP] at g
  rw [hf] at g
  cases g
  exact o.weak m
 | k::p,v0,d0,d,W,h,e=>by
  cases d0 with
  | lst o ds =>
   cases o with
   | true =>
    cases h with
    | frz r=>cases r
    | @own a vs _ _ W0 w G u I B i =>
     simp only [D.at] at e
     split at e
     ·rename_i x ex
      obtain ⟨v1,C,g1,o1,s1,z1⟩:=I.zip ex
      obtain ⟨v,U,q,o2,s2,z2⟩:=Ow.zip o1 e
      refine ⟨v,U,⟨_,_,v1,rfl,w,g1,q⟩,o2,fun b z=>i b (s1 b (s2 b z)),fun {F' H' d' c U' W' f} s o kp un j m hf g=>?_⟩
      simp only [D.mP,ex] at g
      split at g
      ·rename_i y J
       cases g
       have na:¬ U a:=fun z=>B (s1 a (s2 a z))
       obtain ⟨ha,L⟩:=kp a u na _ w G
       have M:Ow K F' H' v1 y (Un2 C U'):=z2 s o (fun b q=>kp b (i b (s1 b q))) (fun b q=>(un b q).imp id fun r t=>r (i b (s1 b t))) (fun b q=>.inl q) (fun b q=>.inr q) hf J
       have l:=z1 (F':=F') (H':=H') (v':=v1) (d':=y) (U':=Un2 C U') (W':=Un2 W0 U') s M (fun b q n=>kp b (i b q) fun z=>n (s2 b z)) (fun b q=>?_) (fun b q=>.inl q) fun b q=>q.imp (s1 b) id
       ·rw [gC g1] at l
        refine .own ha L (j a u) l (fun z=>?_) fun b z=>?_
        ·rcases z with z | z
         ·exact B z
         ·rcases un a z with t | t
          ·exact na t
          ·exact t u
        ·rcases z with z | z
         ·exact j b (i b z)
         ·exact m b z
       ·rcases q with q | q
        ·exact .inl q
        ·rcases un b q with t | t
         ·exact .inl (s2 b t)
         ·exact .inr fun z=>t (i b z)
      ·cases g
     ·cases e
   | false=>simp [D.at] at e
  | _=>simp [D.at] at e
theorem Ow.uS (s:Same F H) {p:List Nat} {v0:V} {d0 d a:D} {W:Fp} (h:Ow K F H v0 d0 W) (e:d0.at p=some d) (u:d0.mP p (fun x=>some x.frz)=some a) :
  ∃ F' v,bD H v0 p v∧Same F F'∧Same F' H∧(∀ b o,F' b=some o→F b=some o∨W b)∧Rp K F' v d.frz∧Ow K F' H v0 a W:=by
 obtain ⟨v,U,q,o,s1,z⟩:=h.zip e
 have r:=o.share s (U:=U) fun _ z=>z
 exact ⟨fzH F H U,v,q,bT s,iU s,fun b o z=>(iq z).imp id (s1 b),r,z (U':=No) (bT s) (.frz r) (fun b _ n o e f=>⟨e,by rw [gF n];exact f⟩) (fun _ q=>q.elim) (fun _ q=>q) (fun _ q=>q.elim) rfl u⟩
end
section
variable {K:Frag} {F F' H H':Hp}
inductive StL (K:Frag) (F H:Hp):L2.St→Dl→Fp→Prop
 | nil {W:Fp}:StL K F H [] [] W
 | gap {x:Option V} {σ:L2.St} {δ:Dl} {W:Fp}:StL K F H σ δ W→StL K F H (x::σ) (none::δ) W
 | one {v:V} {d:D} {σ:L2.St} {δ:Dl} {W W1 W2:Fp}:Ow K F H v d W1→StL K F H σ δ W2→Dj W1 W2→(∀ b,W1 b→W b)→(∀ b,W2 b→W b)→StL K F H (some v::σ) (some d::δ) W
structure SOk (K:Frag) (F H:Hp) (σ:L2.St) (δ:Dl) (W:Fp):Prop where
 sub:Same F H
 st:StL K F H σ δ W
 lv:∀ b,W b→H b≠none
theorem StL.weak:∀ {σ:L2.St} {δ:Dl} {W W':Fp},StL K F H σ δ W→(∀ b,W b→W' b)→StL K F H σ δ W'
 | _,_,_,_,.nil,_=>.nil
 | _,_,_,_,.gap h,s=>.gap (StL.weak h s)
 | _,_,_,_,.one a c d e f,s=>.one a c d (fun b q=>s b (e b q)) fun b q=>s b (f b q)
theorem StL.keep (s:Same F F'):∀ {σ:L2.St} {δ:Dl} {W:Fp},StL K F H σ δ W→(∀ b,W b→∀ o,H b=some o→F b=none→H' b=some o∧F' b=none)→StL K F' H' σ δ W
 | _,_,_,.nil,_=>.nil
 | _,_,_,.gap h,k=>.gap (StL.keep s h k)
 | _,_,_,.one d e f a c,k=>.one (d.keep s fun b q=>k b (a b q)) (StL.keep s e fun b q=>k b (c b q)) f a c
theorem StL.length:∀ {σ:L2.St} {δ:Dl} {W:Fp},StL K F H σ δ W→σ.length=δ.length
 | _,_,_,.nil=>rfl
 | _,_,_,.gap h=>by simp only [List.length_cons,StL.length h]
 | _,_,_,.one _ h _ _ _=>by simp only [List.length_cons,StL.length h]
theorem StL.zip:∀ {σ:L2.St} {δ:Dl} {W:Fp} {i:Nat} {d:D},StL K F H σ δ W→δ[i]?=some (some d)→∃ v U R,σ[i]?=some (some v)∧Ow K F H v d U∧(∀ b,U b→W b)∧(∀ b,R b→W b)∧Dj U R∧StL K F H σ (δ.set i none) R ∧
  ∀ {F' H':Hp} {d':D} {U' W':Fp},Same F F'→Ow K F' H' v d' U'→Kept F H F' H' W U→(∀ b,U' b→U b∨¬ W b)→(∀ b,W b→W' b)→(∀ b,U' b→W' b)→StL K F' H' σ (δ.set i (some d')) W'
 | _,_,_,i,d,.nil,e=>by simp at e
 | _,_,_,0,d,.gap h,e=>by simp at e
 | _,_,_,i+1,d,.gap h,e=>by
  obtain ⟨v,U,R,g,o,s1,s2,dj,t,z⟩:=StL.zip (i:=i) h (by simpa using e)
  exact ⟨v,U,R,by simpa using g,o,s1,s2,dj,by simpa using StL.gap t,fun {F' H' d' U' W'} s o' kp un f k=>by simpa using StL.gap (z s o' kp un f k)⟩
 | _,_,_,0,d,.one (v:=v) (W1:=W1) (W2:=W2) l m c j a,e=>by
  simp at e
  subst e
  refine ⟨v,W1,W2,rfl,l,j,a,c,by simpa using StL.gap m,fun {F' H' d' U' W'} s o' kp un f k=>?_⟩
  simp only [List.set_cons_zero]
  refine .one o' (m.keep s fun b q=>kp b (a b q) fun z=>c b z q) (fun b q z=>?_) k fun b q=>f b (a b q)
  rcases un b q with r | r
  ·exact c b r z
  ·exact r (a b z)
 | _,_,_,i+1,d,.one (v:=v0) (d:=d0) (W1:=W1) (W2:=W2) l m c j a,e=>by
  obtain ⟨v,U,R,g,o,s1,s2,dj,t,z⟩:=StL.zip (i:=i) m (by simpa using e)
  refine ⟨v,U,Un2 W1 R,by simpa using g,o,fun b q=>a b (s1 b q),fun b q=>q.elim (j b) fun q=>a b (s2 b q),fun b q r=>?_,?_,fun {F' H' d' U' W'} s o' kp un f k=>?_⟩
  ·rcases r with r | r
   ·exact c b r (s1 b q)
   ·exact dj b q r
  ·simp only [List.set_cons_succ]
   exact .one l t (fun b q r=>c b q (s2 b r)) (fun b q=>.inl q) fun b q=>.inr q
  ·simp only [List.set_cons_succ]
   refine .one (W1:=W1) (W2:=Un2 W2 U') (l.keep s fun b q=>kp b (j b q) fun r=>c b q (s1 b r)) (z s o' (fun b q=>kp b (a b q)) (fun b q=>(un b q).imp id fun r t=>r (a b t)) (fun b q=>.inl q) fun b q=>.inr q) (fun b q r=>?_) (fun b q=>f b (j b q)) fun b q=>?_
   ·rcases r with r | r
    ·exact c b q r
    ·rcases un b r with t | t
     ·exact c b q (s1 b t)
     ·exact t (j b q)
   ·rcases q with q | q
    ·exact f b (a b q)
    ·exact k b q
theorem StL.drop:∀ {σ:L2.St} {δ:Dl} {W:Fp} (i:Nat),StL K F H σ δ W→StL K F H σ (δ.set i none) W
 | _,_,_,_,.nil=>.nil
 | _,_,_,0,.gap h=>.gap h
 | _,_,_,i+1,.gap h=>.gap (StL.drop i h)
 | _,_,_,0,.one _ a _ _ b=>.gap (a.weak b)
 | _,_,_,i+1,.one c a d e b=>.one c (StL.drop i a) d e b
theorem StL.put:∀ {σ:L2.St} {δ:Dl} {W U W':Fp} {i:Nat} {v:V} {d:D},StL K F H σ δ W→i<δ.length→Ow K F H v d U→Dj U W→(∀ b,W b→W' b)→(∀ b,U b→W' b)→StL K F H (σ.set i (some v)) (δ.set i (some d)) W'
 | _,_,_,_,_,i,_,_,.nil,hi,_,_,_,_=>by simp at hi
 | _,_,_,_,_,0,_,_,.gap h,_,o,dj,a,c=>by
  simp only [List.set_cons_zero]
  exact .one o h dj c a
 | _,_,_,_,_,i+1,_,_,.gap h,hi,o,dj,a,c=>by
  simp only [List.set_cons_succ]
  exact .gap (StL.put h (by simpa using hi) o dj a c)
 | _,_,_,_,_,0,_,_,.one j f k g e,_,o,dj,a,c=>by
  simp only [List.set_cons_zero]
  exact .one o f (fun b q r=>dj b q (e b r)) c fun b q=>a b (e b q)
 | _,_,W,U,W',i+1,_,_,.one (W1:=W1) (W2:=W2) j f k g e,hi,o,dj,a,c=>by
  simp only [List.set_cons_succ]
  refine .one (W1:=W1) (W2:=Un2 W2 U) j (StL.put f (by simpa using hi) o (fun b q r=>dj b q (e b r)) (fun b q=>.inl q) fun b q=>.inr q) (fun b q r=>?_) (fun b q=>a b (g b q)) fun b q=>?_
  ·rcases r with r | r
   ·exact k b q r
   ·exact dj b r (g b q)
  ·rcases q with q | q
   ·exact a b (e b q)
   ·exact c b q
theorem StL.back:∀ {σ:L2.St} {δ:Dl} {W U W':Fp} {i:Nat} {v:V} {d:D},StL K F H σ δ W→σ[i]?=some (some v)→Ow K F H v d U→Dj U W→(∀ b,W b→W' b)→(∀ b,U b→W' b)→StL K F H σ (δ.set i (some d)) W':=by
 intro σ δ W U W' i v d h g o dj a c
 have hi:i<δ.length:=by rw [← h.length];exact (List.getElem?_eq_some_iff.mp g).1
 have q:=h.put hi o dj a c
 rwa [gC g] at q
def mQ (o:HO):Prop:=(∃ vs,o=.tup vs)∨∃ x vs,o=.frz x (.tup vs)
theorem gD {vs:List V}:¬ mQ (.lst vs):=by rintro (⟨_,h⟩ | ⟨_,_,h⟩)<;>cases h
theorem jc {a:List (Key × V)}:¬ mQ (.dK a):=by rintro (⟨_,h⟩ | ⟨_,_,h⟩)<;>cases h
theorem dS {a:Addr} {ob:Obj} {L:List Dt.Row}:¬ mQ (Dt.DkO a ob L):=by
 unfold Dt.DkO
 rintro (⟨_,h⟩ | ⟨_,_,h⟩)<;>cases h
theorem jk {fs:List (Str × V)}:¬ mQ (.xd fs):=by rintro (⟨_,h⟩ | ⟨_,_,h⟩)<;>cases h
theorem ig {a C dx:Addr} {vs:List (Option V)}:¬ mQ (SlX.SlO a C dx vs):=by
 unfold SlX.SlO
 rintro (⟨_,h⟩ | ⟨_,_,h⟩)<;>cases h
def zZ (F H F' H':Hp) (W:Fp):Prop:=∀ b,W b→∀ o,H b=some o→¬ mQ o→F b=none→H' b=some o∧F' b=none
mutual
theorem Ow.dF (s:Same F F'):∀ {v:V} {d:D} {W:Fp},Ow K F H v d W→zZ F H F' H' W→Ow K F' H' v d W
 | _,_,_,.frz r,_=>.frz (r.mono s)
 | _,_,_,.own i j a o p m,k=>.own (k _ a _ i gD j).1 (k _ a _ i gD j).2 a (OwL.dF s o fun b q=>k b (m b q)) p m
 | _,_,_,.mob n h hd ne e f1 f2 c g l,k=>.mob n (k _ c _ h ig f1).1 (k _ g _ hd jk f2).1 ne e (k _ c _ h ig f1).2 (k _ g _ hd jk f2).2 c g (l.mono s)
 | _,_,_,.dct h e n f w l,k=>.dct (k _ w _ h jc f).1 e n (k _ w _ h jc f).2 w (l.mono s)
 | _,_,_,.dtk h ks t u f w l,k=>.dtk (k _ w _ h dS f).1 (aD s ks) t u (k _ w _ h dS f).2 w (l.mono s)
theorem OwL.dF (s:Same F F'):∀ {vs:List V} {ds:List D} {W:Fp},OwL K F H vs ds W→zZ F H F' H' W→OwL K F' H' vs ds W
 | _,_,_,.nil,_=>.nil
 | _,_,_,.cons d e f a c,k=>.cons (Ow.dF s d fun b q=>k b (a b q)) (OwL.dF s e fun b q=>k b (c b q)) f a c
end
theorem StL.dF (s:Same F F'):∀ {σ:L2.St} {δ:Dl} {W:Fp},StL K F H σ δ W→zZ F H F' H' W→StL K F' H' σ δ W
 | _,_,_,.nil,_=>.nil
 | _,_,_,.gap h,k=>.gap (StL.dF s h k)
 | _,_,_,.one d e f a c,k=>.one (d.dF s fun b q=>k b (a b q)) (StL.dF s e fun b q=>k b (c b q)) f a c
open Classical in
noncomputable def mO (F F':Hp):Hp:=fun b=>if ∃ o,F' b=some o∧mQ o then F' b else F b
theorem AW {b:Addr} {o:HO} (h:F' b=some o) (t:mQ o):mO F F' b=some o:=by
 unfold mO
 rw [if_pos ⟨o,h,t⟩,h]
theorem sG {b:Addr} {o:HO} (h:mO F F' b=some o):F b=some o∨(F' b=some o∧mQ o):=by
 unfold mO at h
 split at h
 ·rename_i c
  obtain ⟨o',a,d⟩:=c
  rw [a] at h
  cases h
  exact .inr ⟨a,d⟩
 ·exact .inl h
theorem wF (s:Same F F'):Same F (mO F F'):=fun b o e=>by
 unfold mO
 split
 ·exact s b o e
 ·exact e
theorem zM (s:Same F F'):Same (mO F F') F':=fun b o e=>(sG e).elim (s b o) (·.1)
theorem uM {b:Addr} (h:F b=none) (n:∀ o,F' b=some o→¬ mQ o):mO F F' b=none:=by
 unfold mO
 rw [if_neg fun ⟨o,a,c⟩=>n o a c]
 exact h
structure Ext (F H:Hp) (W:Fp) (F' H':Hp) (W':Fp):Prop where
 fsub:Same F F'
 fnew:∀ b o,F' b=some o→F b=some o∨W b∨H b=none
 keep:∀ b o,H b=some o→¬ W b→H' b=some o
 live:∀ b,H' b=none→H b=none
 wnew:∀ b,W' b→W b∨H b=none
theorem Ext.refl {W:Fp}:Ext F H W F H W:=⟨fun _ _ h=>h,fun _ _ h=>.inl h,fun _ _ h _=>h,fun _ h=>h,fun _ h=>.inl h⟩
theorem Ext.trans {F1 H1 d e:Hp} {W W1 W2:Fp} (a:Ext F H W F1 H1 W1) (b:Ext F1 H1 W1 d e W2):Ext F H W d e W2 where
 fsub:=a.fsub.trans b.fsub
 fnew:=fun c o h=>by
  rcases b.fnew c o h with q | q | q
  ·exact a.fnew c o q
  ·exact .inr (a.wnew c q)
  ·exact .inr (.inr (a.live c q))
 keep:=fun c o h n=>by
  refine b.keep c o (a.keep c o h n) fun q=>?_
  rcases a.wnew c q with r | r
  ·exact n r
  ·rw [h] at r;cases r
 live:=fun c h=>a.live c (b.live c h)
 wnew:=fun c h=>by
  rcases b.wnew c h with q | q
  ·exact a.wnew c q
  ·exact .inr (a.live c q)
theorem Ext.mono {W W' U U':Fp} (a:Ext F H W F' H' W') (s:∀ b,W b→U b) (t:∀ b,U' b→W' b∨U b):Ext F H U F' H' U' :=
 ⟨a.fsub,fun b o h=>(a.fnew b o h).imp id (Or.imp (s b) id),fun b o h n=>a.keep b o h fun q=>n (s b q),a.live,fun b h=>(t b h).elim (fun q=>(a.wnew b q).imp (s b) id) .inl⟩
theorem Ext.apart {W W' U:Fp} (a:Ext F H W F' H' W') (d:Dj U W):∀ b,U b→∀ o,H b=some o→F b=none→H' b=some o∧F' b=none:=fun b q o h f=>by
 refine ⟨a.keep b o h (d b q),?_⟩
 cases e:F' b with
 | none=>rfl
 | some u =>
  rcases a.fnew b u e with r | r | r
  ·rw [f] at r;cases r
  ·exact absurd r (d b q)
  ·rw [h] at r;cases r
theorem Ow.ext {W W' U:Fp} {v:V} {d:D} (o:Ow K F H v d U) (a:Ext F H W F' H' W') (dj:Dj U W):Ow K F' H' v d U:=o.keep a.fsub (a.apart dj)
theorem Ext.dj {W W' U:Fp} (a:Ext F H W F' H' W') (d:Dj U W) (l:∀ b,U b→H b≠none):Dj U W':=fun b q r=>by
 rcases a.wnew b r with z | z
 ·exact d b q z
 ·exact l b q z
end
end Ev
namespace Ev
open PySem PySem.Spec PyProof.Rows L2
section
variable {K:Frag} {F F' H H':Hp}
structure aB (K:Frag) (F H:Hp) (W:Fp) (F' H':Hp) (σ:L2.St) (δ':Dl) (W' Wt:Fp):Prop where
 ok:SOk K F' H' σ δ' W'
 dj:Dj Wt W'
 lt:∀ b,Wt b→H' b≠none
 ext:Ext F H W F' H' (Un2 Wt W')
theorem aB.refl {σ:L2.St} {δ:Dl} {W:Fp} (h:SOk K F H σ δ W):aB K F H W F H σ δ W No :=
 ⟨h,fun _ q=>q.elim,fun _ q=>q.elim,Ext.refl.mono (fun _ q=>q) fun b q=>.inl (q.elim False.elim id)⟩
theorem aB.aA {F1 H1 d e:Hp} {σ1 f:L2.St} {δ1 δ2:Dl} {W W1 W2 h g:Fp} (a:aB K F H W F1 H1 σ1 δ1 W1 h) (b:aB K F1 H1 W1 d e f δ2 W2 g):aB K F H W d e f δ2 W2 g :=
 ⟨b.ok,b.dj,b.lt,a.ext.trans (b.ext.mono (fun c q=>.inr q) fun c q=>.inl q)⟩
theorem aB.dF {F1 H1 g h:Hp} {σ1 i:L2.St} {δ1 δ2:Dl} {W W1 W2 e f:Fp} (a:aB K F H W F1 H1 σ1 δ1 W1 e) (b:aB K F1 H1 W1 g h i δ2 W2 f) :
  Dj e (Un2 f W2)∧aB K F H W g h i δ2 W2 (Un2 e f):=by
 have d:=b.ext.dj a.dj a.lt
 refine ⟨d,b.ok,fun c q r=>?_,fun c q=>?_,?_⟩
 ·rcases q with q | q
  ·exact d c q (.inr r)
  ·exact b.dj c q r
 ·rcases q with q | q
  ·intro z
   exact a.lt c q (b.ext.live c z)
  ·exact b.lt c q
 ·refine a.ext.trans (b.ext.mono (fun c q=>.inr q) fun c q=>?_)
  rcases q with (q | q) | q
  ·exact .inr (.inl q)
  ·exact .inl (.inl q)
  ·exact .inl (.inr q)
theorem aB.kQ {σ:L2.St} {δ':Dl} {W W' Wt Wu:Fp} (a:aB K F H W F' H' σ δ' W' Wt) (s:∀ b,Wu b→Wt b):aB K F H W F' H' σ δ' W' Wu :=
 ⟨a.ok,fun b q=>a.dj b (s b q),fun b q=>a.lt b (s b q),a.ext.mono (fun _ q=>q) fun b q=>.inl (q.imp (s b) id)⟩
inductive AOk (K:Frag) (F H:Hp) (σ:L2.St):V→A→Fp→Prop
 | tmp {v:V} {d:D} {W:Fp}:Ow K F H v d W→AOk K F H σ v (.tmp d) W
 | bor {v0 v:V} {i:Nat} {p:List Nat} {W:Fp}:σ[i]?=some (some v0)→bD H v0 p v→AOk K F H σ v (.bor i p) W
def Vw (K:Frag) (F H:Hp) (v:V) (d:D):Prop:=∃ W,Ow K F H v d W
theorem aL {δ:Dl} {i:Nat} {d:D} (e:slot δ i=some d):δ[i]?=some (some d):=by
 unfold slot at e
 split at e
 ·rename_i x h
  cases e
  exact h
 ·cases e
theorem slot_of {δ:Dl} {i:Nat} {d:D} (e:δ[i]?=some (some d)):slot δ i=some d:=by
 unfold slot
 rw [e]
theorem AOk.look {σ:L2.St} {δ:Dl} {W Wt:Fp} {v:V} {a:A} {d:D} (h:AOk K F H σ v a Wt) (s:SOk K F H σ δ W) (e:look δ a=some d):Vw K F H v d:=by
 cases h with
 | tmp o =>
  simp only [Ev.look,Option.some.injEq] at e
  subst e
  exact ⟨_,o⟩
 | @bor v0 _ i p _ g q =>
  simp only [Ev.look] at e
  split at e
  ·rename_i d0 e0
   obtain ⟨c,U,R,b,o,_⟩:=s.st.zip (aL e0)
   rw [g] at b
   cases b
   obtain ⟨v',U',f,o',_⟩:=o.at e
   rw [q.uniq f]
   exact ⟨U',o'⟩
  ·cases e
theorem AOk.toV {σ:L2.St} {δ δ':Dl} {W Wt:Fp} {v:V} {a:A} {d:D} (h:AOk K F H σ v a Wt) (s:SOk K F H σ δ W) (dj:Dj Wt W) (lt:∀ b,Wt b→H b≠none) (e:toV δ a=some (d,δ')) :
  ∃ F',aB K F H (Un2 Wt W) F' H σ δ' W Wt∧Ow K F' H v d Wt:=by
 cases h with
 | tmp o =>
  simp only [Ev.toV,Option.some.injEq,Prod.mk.injEq] at e
  obtain ⟨rfl,rfl⟩:=e
  exact ⟨F,⟨s,dj,lt,Ext.refl⟩,o⟩
 | @bor v0 _ i p _ g q =>
  unfold Ev.toV at e
  simp only at e
  split at e
  ·rename_i d1 δ1 j c
   cases e
   unfold Ev.look at j
   simp only at j
   split at j
   ·rename_i d0 e0
    unfold bN at c
    rw [e0] at c
    simp only at c
    split at c
    ·rename_i m x
     cases c
     obtain ⟨y,U,R,k,o,s1,s2,C,G,z⟩:=s.st.zip (aL e0)
     rw [g] at k
     cases k
     obtain ⟨F',v',B,f1,f2,l,r,o'⟩:=o.uS s.sub j x
     rw [q.uniq B]
     refine ⟨F',⟨⟨f2,?_,s.lv⟩,dj,lt,?_⟩,.frz r⟩
     ·refine z (U':=U) f1 o' (fun b w n o a f=>⟨a,?_⟩) (fun b q=>.inl q) (fun _ q=>q) s1
      cases e:F' b with
      | none=>rfl
      | some u =>
       rcases l b u e with t | t
       ·rw [f] at t;cases t
       ·exact absurd t n
     ·exact ⟨f1,fun b o e=>(l b o e).imp id fun t=>.inl (.inr (s1 b t)),fun b o a _=>a,fun b n=>n,fun b q=>.inl q⟩
    ·cases c
   ·cases j
  ·cases e
inductive fD (K:Frag) (F H:Hp) (σ:L2.St):List V→List A→Fp→Prop
 | nil {W:Fp}:fD K F H σ [] [] W
 | cons {v:V} {vs:List V} {a:A} {as:List A} {W W1 W2:Fp}:AOk K F H σ v a W1→fD K F H σ vs as W2→Dj W1 W2→(∀ b,W1 b→W b)→(∀ b,W2 b→W b)→fD K F H σ (v::vs) (a::as) W
inductive VwL (K:Frag) (F H:Hp):List V→List D→Prop
 | nil:VwL K F H [] []
 | cons {v:V} {vs:List V} {d:D} {ds:List D}:Vw K F H v d→VwL K F H vs ds→VwL K F H (v::vs) (d::ds)
theorem fD.looks {σ:L2.St} {δ:Dl} {W:Fp} (s:SOk K F H σ δ W):∀ {vs:List V} {as:List A} {Wt:Fp} {ds:List D},fD K F H σ vs as Wt→looks δ as=some ds→VwL K F H vs ds
 | _,_,_,ds,.nil,e=>by
  simp only [Ev.looks,Option.some.injEq] at e
  subst e
  exact .nil
 | _,_,_,ds,.cons a b _ _ _,e=>by
  unfold Ev.looks at e
  split at e
  ·rename_i d ds' c f
   cases e
   exact .cons (a.look s c) (fD.looks s b f)
  ·cases e
theorem AOk.ext {σ:L2.St} {δ':Dl} {W W' Wt Wu:Fp} {v:V} {a:A} (h:AOk K F H σ v a Wt) (x:Ext F H W F' H' W') (dj:Dj Wt W) (n:oD a=true):AOk K F' H' σ v a Wt:=by
 cases h with
 | tmp o=>exact .tmp (o.ext x dj)
 | @bor v0 _ i p _ g q =>
  cases p with
  | nil=>exact .bor g q
  | cons k p=>simp [oD] at n
theorem AOk.grow {σ:L2.St} {Wt:Fp} {v:V} {a:A} (h:AOk K F H σ v a Wt) (s:Same F F') (k:∀ b,Wt b→F b=none→F' b=none):AOk K F' H σ v a Wt:=by
 cases h with
 | tmp o=>exact .tmp (o.keep s fun b q o a f=>⟨a,k b q f⟩)
 | bor g q=>exact .bor g q
theorem fD.grow {σ:L2.St} (s:Same F F'):∀ {Wt:Fp} {vs:List V} {as:List A},fD K F H σ vs as Wt→(∀ b,Wt b→F b=none→F' b=none)→fD K F' H σ vs as Wt
 | _,_,_,.nil,_=>.nil
 | _,_,_,.cons d e f a c,k=>.cons (d.grow s fun b q=>k b (a b q)) (fD.grow s e fun b q=>k b (c b q)) f a c
theorem fD.bL {σ:L2.St}:∀ {vs:List V} {as:List A} {F:Hp} {δ δ':Dl} {W Wt:Fp} {ds:List D},fD K F H σ vs as Wt→SOk K F H σ δ W→Dj Wt W→(∀ b,Wt b→H b≠none)→bL δ as=some (ds,δ') →
  ∃ F',aB K F H (Un2 Wt W) F' H σ δ' W Wt∧OwL K F' H vs ds Wt
 | _,_,F,δ,δ',W,Wt,ds,.nil,s,dj,lt,e=>by
  simp only [Ev.bL,Option.some.injEq,Prod.mk.injEq] at e
  obtain ⟨rfl,rfl⟩:=e
  exact ⟨F,⟨s,dj,lt,Ext.refl⟩,.nil⟩
 | _,_,F,δ,δ',W,Wt,ds,.cons (W1:=W1) (W2:=W2) j k h c g,s,dj,lt,e=>by
  unfold Ev.bL at e
  split at e
  ·rename_i d δ1 l
   split at e
   ·rename_i ds' δ2 m
    cases e
    obtain ⟨F1,p1,o1⟩:=j.toV s (fun b q=>dj b (c b q)) (fun b q=>lt b (c b q)) l
    have k2:∀ b,W2 b→F b=none→F1 b=none:=fun b q f=>by
     cases e:F1 b with
     | none=>rfl
     | some u =>
      rcases p1.ext.fnew b u e with t | t | t
      ·rw [f] at t;cases t
      ·rcases t with t | t
       ·exact absurd q (h b t)
       ·exact absurd t (dj b (g b q))
      ·exact absurd t (lt b (g b q))
    obtain ⟨i,p2,o2⟩:=fD.bL (k.grow p1.ext.fsub k2) p1.ok (fun b q=>dj b (g b q)) (fun b q=>lt b (g b q)) m
    refine ⟨i,⟨p2.ok,dj,lt,?_⟩,.cons (o1.keep p2.ext.fsub fun b q o a f=>⟨a,?_⟩) o2 h c g⟩
    ·refine ⟨p1.ext.fsub.trans p2.ext.fsub,fun b o e=>?_,fun b o a _=>a,fun b n=>n,fun b q=>.inl q⟩
     rcases p2.ext.fnew b o e with t | t | t
     ·rcases p1.ext.fnew b o t with t | t | t
      ·exact .inl t
      ·exact .inr (.inl (t.imp (c b) id))
      ·exact .inr (.inr t)
     ·exact .inr (.inl (t.imp (g b) id))
     ·exact .inr (.inr t)
    ·cases e:i b with
     | none=>rfl
     | some u =>
      rcases p2.ext.fnew b u e with t | t | t
      ·rw [f] at t;cases t
      ·rcases t with t | t
       ·exact absurd t (h b q)
       ·exact absurd t (dj b (c b q))
      ·exact absurd t (lt b (c b q))
   ·cases e
  ·cases e
end
end Ev
namespace L2
open PySem PySem.Spec PyProof.Rows
theorem qL (l:Addr) (items:Array Value) (n:Nat) (dd:Option Addr) (sl:Array (Option Value)) (u:Tok) :
    Meets (Builtin.«tuple.__mul__» ⟨[.ref l,.int 1 u],[]⟩) (fun _ R s=>s.heap.get? l=some { cls:=.type "tuple",dict:=dd,data:=.seq items n,slots:=sl } ∧
      R (.ok (.ret (Value.ref l))) s) :=
  .of_wp fun prog w A R s h=>by
    obtain ⟨c,g,d,tk,os⟩:=s
    obtain ⟨a,h⟩:=h
    have f1:=AutoSeq1.idx_int
    have b:(items.isEmpty||(1:Int)==1)=true:=by simp
    have c0:(decide ((1:Int)<(-(2 ^ 63)))||decide ((1:Int) ≥ 2 ^ 63))=false:=rfl
    wp_walk using wpAny_loadPart' a
    repeat (first
      | (refine wpAny_ite_false (decide_eq_false (by rw [c0];exact Bool.false_ne_true)) ?_;wp_walk using wpAny_loadPart' a)
      | (refine wpAny_ite_true (decide_eq_true b) ?_;wp_walk using wpAny_loadPart' a))
    exact ⟨_,rfl,h⟩
def C5 (K:Frag):R2:=fun x y H Q=>∃ l xs,x=.ref l∧y=.int 1∧SqT K H l xs∧Q (.ref l) H
section
variable {X:Cx}
theorem xg:OpR X (binaryOp .Mult) (C5 X.K):=by
 intro pins s σ H x y v u Q I c d h
 obtain ⟨l,xs,rfl,rfl,e,q⟩:=h
 cases c
 obtain ⟨t,rfl⟩:=d
 obtain ⟨its,r,⟨⟨cls,dd,data,sl⟩,a,b,n,hd⟩,hs⟩:=I.tuple e
 simp only at b hd
 subst b hd
 refine wpAny_binaryOp_repeat_ref (T:="tuple") (U:="int") (by decide) ⟨_,a,rfl⟩ (fun f=>typeIs_int f 1 t) noFill_tuple_mul F.fills_int_mul F.slot_int_rmul repeat_tuple F.slot_int_index.lookup
  (call_meets F.slot_int_rmul (typeIs_int s 1 t) F.entry_int_rmul (F.args_int_rmul_2 _ _) (int_rmul_tuple 1 t l its.toArray n dd sl)
   ⟨a,rfl,⟨_,a,rfl⟩,call_meets F.slot_tuple_mul ⟨_,a,rfl⟩ F.entry_tuple_mul (F.args_tuple_mul_2 _ _) (qL l its.toArray n dd sl t) ⟨a,?_⟩⟩)
 exact ⟨.ref l,_,I,rfl,q⟩
end
end L2
namespace Ev
open PySem PySem.Spec PyProof.Rows L2
theorem aJ:cap≤sizeLine:=by rw [sizeLine_eq];decide
mutual
theorem B9:∀ a b:D,(∀ ns,a≠.scr ns)→PyData.eqv a.py b.py=a.eq b
 | .non,b,_=>by cases b<;>simp [D.py,D.eq,PyData.eqv]
 | .obj _ _,b,_=>by cases b<;>simp [D.py,D.eq,PyData.eqv]
 | .exc _ _ _,b,_=>by cases b<;>simp [D.py,D.eq,PyData.eqv]
 | .mob _ _,b,_=>by cases b<;>simp [D.py,D.eq,PyData.eqv]
 | .dct _ _ _,b,_=>by cases b<;>simp [D.py,D.eq,PyData.eqv]
 | .dtk _ _ _,b,_=>by cases b<;>simp [D.py,D.eq,PyData.eqv]
 | .cls _,b,_=>by cases b<;>simp [D.py,D.eq,PyData.eqv]
 | .tpn _,b,_=>by cases b<;>simp [D.py,D.eq,PyData.eqv]
 | .bl _,b,_=>by cases b<;>simp [D.py,D.eq,PyData.eqv]
 | .int _,b,_=>by cases b<;>simp [D.py,D.eq,PyData.eqv]
 | .str _,b,_=>by cases b<;>simp [D.py,D.eq,PyData.eqv]
 | .tup xs,b,_=>by
  cases b with
  | tup ys=>simp only [D.py,D.eq,PyData.eqv];exact qY xs ys
  | _=>simp [D.py,D.eq,PyData.eqv]
 | .lst o xs,b,_=>by
  cases b with
  | lst o' ys=>simp only [D.py,D.eq,PyData.eqv];exact qY xs ys
  | _=>simp [D.py,D.eq,PyData.eqv]
 | .scr ns,b,h=>absurd rfl (h ns)
theorem qY:∀ xs ys:List D,PyData.eqvAll (pys xs) (pys ys)=eqs xs ys
 | [],[]=>rfl
 | [],_::_=>rfl
 | _::_,[]=>rfl
 | x::xs,y::ys=>by
  simp only [pys,eqs,PyData.eqvAll,qY xs ys]
  cases x with
  | scr ns=>cases y<;>simp [D.py,D.eq,PyData.eqv]
  | _=>rw [B9 _ y (by intro ns e;cases e)]
end
theorem uu (a b:D):PyData.eqv a.py b.py=a.eq b:=by
 cases a with
 | scr ns=>cases b<;>simp [D.py,D.eq,PyData.eqv]
 | _=>exact B9 _ b (by intro ns e;cases e)
mutual
theorem yI:∀ (d:D) (k:Nat),d.ok k=true→d.py.canLay0=true∧d.py.depth≤k
 | .non,_,_=>⟨by simp [D.py,PyData.canLay0],by simp [D.py,PyData.depth]⟩
 | .bl _,_,_=>⟨by simp [D.py,PyData.canLay0],by simp [D.py,PyData.depth]⟩
 | .int _,_,_=>⟨by simp [D.py,PyData.canLay0],by simp [D.py,PyData.depth]⟩
 | .str s,k,h=>⟨by simp only [D.py,PyData.canLay0];simpa [D.ok] using h,by simp [D.py,PyData.depth]⟩
 | .tup xs,0,h=>by simp [D.ok] at h
 | .tup xs,k+1,h=>by
  obtain ⟨a,b⟩:=nK xs k (by simpa [D.ok] using h)
  exact ⟨by simpa [D.py,PyData.canLay0] using a,by simp only [D.py,PyData.depth];omega⟩
 | .lst o xs,0,h=>by simp [D.ok] at h
 | .lst o xs,k+1,h=>by
  obtain ⟨a,b⟩:=nK xs k (by simpa [D.ok] using h)
  exact ⟨by simpa [D.py,PyData.canLay0] using a,by simp only [D.py,PyData.depth];omega⟩
 | .scr _,k,h=>by simp [D.ok] at h
 | .obj _ _,k,h=>by simp [D.ok] at h
 | .exc _ _ _,k,h=>by simp [D.ok] at h
 | .mob _ _,k,h=>by simp [D.ok] at h
 | .dct _ _ _,k,h=>by simp [D.ok] at h
 | .dtk _ _ _,k,h=>by simp [D.ok] at h
 | .cls _,k,h=>by simp [D.ok] at h
 | .tpn _,k,h=>by simp [D.ok] at h
theorem nK:∀ (ds:List D) (k:Nat),oks k ds=true→PyData.canLayAll0 (pys ds)=true∧PyData.depthAll (pys ds)≤k
 | [],_,_=>⟨by simp [pys,PyData.canLayAll0],by simp [pys,PyData.depthAll]⟩
 | d::ds,k,h=>by
  simp only [oks,Bool.and_eq_true] at h
  obtain ⟨a1,a2⟩:=yI d k h.1
  obtain ⟨a,b⟩:=nK ds k h.2
  exact ⟨by simp [pys,PyData.canLayAll0,a1,a],by simp only [pys,PyData.depthAll];omega⟩
end
theorem bP {d:D} {k:Nat} (hk:k≤64) (h:d.ok k=true):SeqAt.shaped d.py=true:=by
 obtain ⟨a,b⟩:=yI d k h
 unfold SeqAt.shaped
 rw [a,decide_eq_true (show d.py.depth≤64 by omega)]
 rfl
section
variable {K:Frag} {F H:Hp}
mutual
theorem Rp.dp (s:Same F H):∀ {v:V} {d:D} {k:Nat},Rp K F v d→d.ok k=true→Dp K H v d.py
 | _,_,_,.non,_=>.non
 | _,_,_,.bl b,_=>.bl b
 | _,_,_,.int i,_=>.int i
 | _,_,_,.str x,_=>.str x
 | _,_,0,.tup h l,e=>by simp [D.ok] at e
 | _,_,k+1,.tup h l,e=>by
  simp only [D.py]
  exact .tup (af s h) (RpL.dp s l (by simpa [D.ok] using e))
 | _,_,0,.lst h l,e=>by simp [D.ok] at e
 | _,_,k+1,.lst h l,e=>by
  simp only [D.py]
  exact .lst (SqL.of (s _ _ h)) (RpL.dp s l (by simpa [D.ok] using e))
 | _,_,k,.scr h,e=>by simp [D.ok] at e
 | _,_,k,.obj _ _ _ _,e=>by simp [D.ok] at e
 | _,_,k,.exc _ _ _ _ _ _,e=>by simp [D.ok] at e
 | _,_,k,.dct _ _ _ _,e=>by simp [D.ok] at e
 | _,_,k,.dtk _ _ _ _ _,e=>by simp [D.ok] at e
 | _,_,k,.cls _,e=>by simp [D.ok] at e
 | _,_,k,.tpn _ _,e=>by simp [D.ok] at e
theorem RpL.dp (s:Same F H):∀ {vs:List V} {ds:List D} {k:Nat},RpL K F vs ds→oks k ds=true→DpAll K H vs (pys ds)
 | _,_,_,.nil,_=>.nil
 | _,_,_,.cons h t,e=>by
  simp only [oks,Bool.and_eq_true] at e
  exact .cons (Rp.dp s h e.1) (RpL.dp s t e.2)
end
mutual
theorem Ow.dp (s:Same F H):∀ {v:V} {d:D} {W:Fp} {k:Nat},Ow K F H v d W→d.ok k=true→Dp K H v d.py
 | _,_,_,_,.frz r,e=>r.dp s e
 | _,_,_,0,.own a c f b g h,e=>by simp [D.ok] at e
 | _,_,_,k+1,.own a c f b g h,e=>by
  simp only [D.py]
  exact .lst (SqL.of a) (OwL.dp s b (by simpa [D.ok] using e))
 | _,_,_,_,.mob _ _ _ _ _ _ _ _ _ _,e=>by simp [D.ok] at e
 | _,_,_,_,.dct _ _ _ _ _ _,e=>by simp [D.ok] at e
 | _,_,_,_,.dtk _ _ _ _ _ _ _,e=>by simp [D.ok] at e
theorem OwL.dp (s:Same F H):∀ {vs:List V} {ds:List D} {W:Fp} {k:Nat},OwL K F H vs ds W→oks k ds=true→DpAll K H vs (pys ds)
 | _,_,_,_,.nil,_=>.nil
 | _,_,_,_,.cons a b _ _ _,e=>by
  simp only [oks,Bool.and_eq_true] at e
  exact .cons (Ow.dp s a e.1) (OwL.dp s b e.2)
end
theorem Vw.int {x:V} {i:Int} (h:Vw K F H x (.int i)):x=.int i:=by
 obtain ⟨W,h⟩:=h
 cases h with
 | frz r=>cases r;rfl
theorem Vw.bl {x:V} {i:Bool} (h:Vw K F H x (.bl i)):x=.bl i:=by
 obtain ⟨W,h⟩:=h
 cases h with
 | frz r=>cases r;rfl
theorem Vw.str {x:V} {i:Str} (h:Vw K F H x (.str i)):x=.str i:=by
 obtain ⟨W,h⟩:=h
 cases h with
 | frz r=>cases r;rfl
theorem Vw.non {x:V} (h:Vw K F H x .non):x=.non:=by
 obtain ⟨W,h⟩:=h
 cases h with
 | frz r=>cases r;rfl
theorem Vw.tup {x:V} {ds:List D} (h:Vw K F H x (.tup ds)):∃ a vs,x=.ref a∧SqT K F a vs∧RpL K F vs ds:=by
 obtain ⟨W,h⟩:=h
 cases h with
 | frz r =>
  cases r with
  | tup h l=>exact ⟨_,_,rfl,h,l⟩
theorem Vw.lst {x:V} {o:Bool} {ds:List D} (s:Same F H) (h:Vw K F H x (.lst o ds)):∃ a vs,x=.ref a∧H a=some (.lst vs)∧vs.length=ds.length∧(fzs ds=true→RpL K F vs ds):=by
 obtain ⟨W,h⟩:=h
 cases h with
 | frz r =>
  cases r with
  | lst h l=>exact ⟨_,_,rfl,s _ _ h,l.length,fun _=>l⟩
 | own c d f b g i=>exact ⟨_,_,rfl,c,b.length,fun e=>b.fz e⟩
theorem Vw.scr {x:V} {ns:List Int} (h:Vw K F H x (.scr ns)):∃ a,x=.ref a∧SqL K F a (ns.map V.int):=by
 obtain ⟨W,h⟩:=h
 cases h with
 | frz r =>
  cases r with
  | scr h=>exact ⟨_,rfl,h⟩
theorem Vw.mob {x:V} {cn:Str} {ds:List D} (h:Vw K F H x (.mob cn ds)):∃ a C dx vs,x=.ref a∧nsIn K mainGlobals cn=some (some (.ref C))∧SlX.Slt H a C dx (vs.map some)∧vs≠[]∧RpL K F vs ds:=by
 obtain ⟨W,h⟩:=h
 cases h with
 | frz r=>cases r
 | mob n h hd ne e f1 f2 b c l=>exact ⟨_,_,_,_,rfl,n,.inr ⟨h,hd⟩,e,l⟩
theorem Vw.dct {x:V} {o:Bool} {ks:List Str} {ds:List D} (s:Same F H) (h:Vw K F H x (.dct o ks ds)):∃ a vs,x=.ref a∧H a=some (.dK (e9 ks vs))∧ks.length=vs.length∧ks.Nodup∧RpL K F vs ds:=by
 obtain ⟨W,h⟩:=h
 cases h with
 | frz r =>
  cases r with
  | dct h e n l=>exact ⟨_,_,rfl,s _ _ h,e,n,l⟩
 | dct h e n f w l=>exact ⟨_,_,rfl,h,e,n,l⟩
theorem Vw.dtk {x:V} {o:Bool} {ks:List (List Int)} {ds:List D} (s:Same F H) (h:Vw K F H x (.dtk o ks ds)):∃ a ob L,x=.ref a∧H a=some (Dt.DkO a ob L)∧Dt.aT K F L∧Dt.cF L=ks∧RpL K F (Dt.mM L) ds:=by
 obtain ⟨W,h⟩:=h
 cases h with
 | frz r =>
  cases r with
  | dtk h k b c l =>
   subst c
   exact ⟨_,_,_,rfl,s _ _ h,k,b,l⟩
 | dtk h k b c f w l =>
  subst c
  exact ⟨_,_,_,rfl,h,k,b,l⟩
theorem Vw.obj {x:V} {cn:Str} {ds:List D} (h:Vw K F H x (.obj cn ds)):∃ a C dx vs,x=.ref a∧nsIn K mainGlobals cn=some (some (.ref C))∧SlX.Slt F a C dx (vs.map some)∧vs≠[]∧RpL K F vs ds:=by
 obtain ⟨W,h⟩:=h
 cases h with
 | frz r =>
  cases r with
  | obj b c d e=>exact ⟨_,_,_,_,rfl,b,c,d,e⟩
theorem Vw.dp {x:V} {d:D} {k:Nat} (s:Same F H) (h:Vw K F H x d) (e:d.ok k=true):Dp K H x d.py:=by
 obtain ⟨W,h⟩:=h
 exact h.dp s e
theorem RpL.ints:∀ {vs:List V} {ds:List D} {ns:List Int},RpL K F vs ds→intsOf ds=some ns→vs=ns.map V.int∧ds=ns.map D.int
 | _,_,ns,.nil,e=>by
  simp only [intsOf,Option.some.injEq] at e
  subst e
  exact ⟨rfl,rfl⟩
 | _,_,ns,.cons (d:=d) h t,e=>by
  cases d with
  | int i =>
   simp only [intsOf,Option.map_eq_some_iff] at e
   obtain ⟨ms,a,b⟩:=e
   subst b
   obtain ⟨c,f⟩:=RpL.ints t a
   cases h
   subst c f
   exact ⟨rfl,rfl⟩
  | _=>simp [intsOf] at e
theorem RpL.bools:∀ {vs:List V} {ds:List D} {ns:List Bool},RpL K F vs ds→boolsOf ds=some ns→vs=ns.map V.bl∧ds=ns.map D.bl
 | _,_,ns,.nil,e=>by
  simp only [boolsOf,Option.some.injEq] at e
  subst e
  exact ⟨rfl,rfl⟩
 | _,_,ns,.cons (d:=d) h t,e=>by
  cases d with
  | bl i =>
   simp only [boolsOf,Option.map_eq_some_iff] at e
   obtain ⟨ms,a,b⟩:=e
   subst b
   obtain ⟨c,f⟩:=RpL.bools t a
   cases h
   subst c f
   exact ⟨rfl,rfl⟩
  | _=>simp [boolsOf] at e
theorem di:∀ ns:List Int,RpL K F (ns.map V.int) (ns.map D.int)
 | []=>.nil
 | n::ns=>.cons (.int n) (di ns)
theorem cV:∀ {ds:List D} {ns:List Int},intsOf ds=some ns→fzs ds=true
 | [],_,_=>rfl
 | d::ds,ns,e=>by
  cases d with
  | int i =>
   simp only [intsOf,Option.map_eq_some_iff] at e
   obtain ⟨ms,a,_⟩:=e
   simp only [fzs,D.fz,cV a]
   rfl
  | _=>simp [intsOf] at e
theorem fV:∀ {ds:List D} {ns:List Bool},boolsOf ds=some ns→fzs ds=true
 | [],_,_=>rfl
 | d::ds,ns,e=>by
  cases d with
  | bl i =>
   simp only [boolsOf,Option.map_eq_some_iff] at e
   obtain ⟨ms,a,_⟩:=e
   simp only [fzs,D.fz,fV a]
   rfl
  | _=>simp [boolsOf] at e
structure New (F H F' H':Hp) (Wt:Fp):Prop where
 sub:Same F' H'
 lt:∀ b,Wt b→H' b≠none
 ext:Ext F H No F' H' Wt
theorem New.refl (s:Same F H):New F H F H No:=⟨s,fun _ q=>q.elim,Ext.refl⟩
theorem aB.new {σ:L2.St} {δ:Dl} {W Wt:Fp} {F' H':Hp} (s:SOk K F H σ δ W) (n:New F H F' H' Wt):aB K F H W F' H' σ δ W Wt where
 ok:=⟨n.sub,s.st.keep n.ext.fsub (n.ext.apart fun _ _ q=>q),fun b q z=>s.lv b q (n.ext.live b z)⟩
 dj:=fun b q r=>by
  rcases n.ext.wnew b q with t | t
  ·exact t
  ·exact s.lv b r t
 lt:=n.lt
 ext:=n.ext.mono (fun _ q=>q.elim) fun b q=>q.imp id id
def At (p:Addr):Fp:=fun b=>b=p
theorem New.list {p:Addr} {vs:List V} (s:Same F H) (h:H p=none):New F H F (upd H p (.lst vs)) (At p) where
 sub:=fun b o e=>by
  have q:=s b o e
  rw [upd_ne (ne_of_none q h)]
  exact q
 lt:=fun b e=>by rw [e,upd_same];simp
 ext:=⟨fun _ _ e=>e,fun _ _ e=>.inl e,fun b o e _=>by rw [upd_ne (ne_of_none e h)];exact e,fun b e=>by
  by_cases a:b=p
  ·rw [a];exact h
  ·rw [upd_ne a] at e;exact e,fun b e=>.inr (by rw [e];exact h)⟩
theorem New.tuple {p:Addr} {vs:List V} (s:Same F H) (h:H p=none):New F H (upd F p (.tup vs)) (upd H p (.tup vs)) No where
 sub:=fun b o e=>by
  by_cases a:b=p
  ·subst a;rw [upd_same] at e ⊢;exact e
  ·rw [upd_ne a] at e ⊢;exact s b o e
 lt:=fun _ q=>q.elim
 ext:=⟨fun b o e=>by
   rw [upd_ne (ne_of_none (s _ _ e) h)]
   exact e,fun b o e=>by
   by_cases a:b=p
   ·exact .inr (.inr (by rw [a];exact h))
   ·rw [upd_ne a] at e;exact .inl e,fun b o e _=>by rw [upd_ne (ne_of_none e h)];exact e,fun b e=>by
   by_cases a:b=p
   ·rw [a];exact h
   ·rw [upd_ne a] at e;exact e,fun b e=>e.elim⟩
theorem Ow.list {p:Addr} {vs:List V} {ds:List D} (s:Same F H) (h:H p=none) (r:RpL K F vs ds):Ow K F (upd H p (.lst vs)) (.ref p) (.lst true ds) (At p):=by
 refine .own (U:=No) upd_same ?_ rfl (.of r) (fun q=>q) fun _ q=>q.elim
 cases e:F p with
 | none=>rfl
 | some o=>rw [s _ _ e] at h;cases h
theorem Ow.tuple {p:Addr} {vs:List V} {ds:List D} {H':Hp} (s:Same F H) (h:H p=none) (r:RpL K F vs ds):Ow K (upd F p (.tup vs)) H' (.ref p) (.tup ds) No :=
 .frz (.tup (.inl (.inl upd_same)) (r.mono (New.tuple (vs:=vs) s h).ext.fsub))
end
section
variable {X:Cx}
def tW (X:Cx) (e:Expr):TE:=fun σ H Q=>∀ pins s,Inv X pins σ H s→wpAny (model X.prog X.w) X.A (eval e X.env) (EP X pins σ Q) X.xe s
theorem ao {e:Expr}:PE X e (tW X e):=⟨fun pins s σ H Q I h=>h pins s I⟩
theorem av {e:Expr} {t:TE} {σ:L2.St} {H:Hp} {Q:VK} (h:PE X e t) (q:t σ H Q):tW X e σ H Q:=fun pins s I=>h.run pins s σ H Q I q
def tWT (X:Cx) (e:Expr):TT:=fun σ H Q=>∀ pins s,Inv X pins σ H s→wpAny (model X.prog X.w) X.A (isTrue e X.env (eval e X.env)) (TP X pins σ Q) X.xe s
theorem fL {e:Expr}:PT X e (tWT X e):=⟨fun pins s σ H Q I h=>h pins s I⟩
theorem g7 {e:Expr} {t:TT} {σ:L2.St} {H:Hp} {Q:Bool→Hp→Prop} (h:PT X e t) (q:t σ H Q):tWT X e σ H Q:=fun pins s I=>h.run pins s σ H Q I q
def tWS (X:Cx) (st:Stmt):TS:=fun D σ H=>∀ pins s,Inv X pins σ H s→wpAny (model X.prog X.w) X.A (exec st X.env) (SP X pins D) X.xe s
theorem Di {st:Stmt}:PS X st (tWS X st):=⟨fun pins s σ H D I h=>h pins s I⟩
theorem bf {st:Stmt} {t:TS} {σ:L2.St} {H:Hp} {D:Ends} (h:PS X st t) (q:t D σ H):tWS X st D σ H:=fun pins s I=>h.run pins s σ H D I q
def vW (X:Cx) (st:List Stmt):TS:=fun D σ H=>∀ pins s,Inv X pins σ H s→wpAny (model X.prog X.w) X.A (execs st X.env) (SP X pins D) X.xe s
theorem e8 {st:List Stmt}:PSs X st (vW X st):=⟨fun pins s σ H D I h=>h pins s I⟩
theorem n8 {st:List Stmt} {t:TS} {σ:L2.St} {H:Hp} {D:Ends} (h:PSs X st t) (q:t D σ H):vW X st D σ H:=fun pins s I=>h.run pins s σ H D I q
def rW (X:Cx) (f:Value→Value→Sem Value):R2:=fun x y H Q=>∀ pins s σ v u,Inv X pins σ H s→RelV x v→RelV y u→wpAny (model X.prog X.w) X.A (f v u) (EP X pins σ Q) X.xe s
theorem mw {f:Value→Value→Sem Value}:OpR X f (rW X f):=fun pins s σ H x y v u Q I a b q=>q pins s σ v u I a b
theorem bA {f:Value→Value→Sem Value} {r:R2} {x y:V} {H:Hp} {Q:VK} (h:OpR X f r) (q:r x y H Q):rW X f x y H Q:=fun pins s σ v u I a b=>h pins s σ H x y v u Q I a b q
def cW (X:Cx) (f:Value):List V→Hp→VK→Prop:=fun xs H Q=>∀ pins s σ us,Inv X pins σ H s→Vals xs us→wpAny (model X.prog X.w) X.A (call f us) (EP X pins σ Q) X.xe s
theorem qX {f:Value}:CallR X f (cW X f):=fun pins s σ H xs us Q I r q=>q pins s σ us I r
theorem bG {f:Value} {r:List V→Hp→VK→Prop} {xs:List V} {H:Hp} {Q:VK} (h:CallR X f r) (q:r xs H Q):cW X f xs H Q:=fun pins s σ us I a=>h pins s σ H xs us Q I a q
variable {F H:Hp}
def opO:Op→Operator
 | .add=>.Add | .sub=>.Sub | .mul=>.Mult | .fdiv=>.FloorDiv | .mod=>.Mod | .pow=>.Pow
theorem sH {a b:Int} (h:(small64 a||small64 b)=true):CMul a b:=by
 simp only [fB] at h
 simp only [Bool.or_eq_true,Bool.and_eq_true,decide_eq_true_eq] at h
 rcases h with h | h
 ·exact .inl ⟨by omega,by omega⟩
 ·exact .inr ⟨by omega,by omega⟩
theorem sO {K:Frag} {vs:List V} {ds:List D} (r:RpL K F vs ds):∀ k:Nat,RpL K F (List.replicate k vs).flatten (List.replicate k ds).flatten
 | 0=>.nil
 | k+1=>by
  rw [List.replicate_succ,List.replicate_succ,List.flatten_cons,List.flatten_cons]
  exact r.append (sO r k)
abbrev Goes (X:Cx) (F H:Hp) (d:D) (Q:VK):Prop:=∀ v F' H' Wt,Ow X.K F' H' v d Wt→New F H F' H' Wt→Q v H'
theorem Goes.atom {d:D} {Q:VK} {v:V} (g:Goes X F H d Q) (s:Same F H) (r:Rp X.K F v d):Q v H:=g v F H No (.frz r) (New.refl s)
theorem Goes.list {ds:List D} {Q:VK} {vs:List V} {p:Addr} (g:Goes X F H (.lst true ds) Q) (s:Same F H) (h:H p=none) (r:RpL X.K F vs ds):Q (.ref p) (upd H p (.lst vs)) :=
 g _ _ _ _ (Ow.list s h r) (New.list s h)
theorem Goes.tuple {ds:List D} {Q:VK} {vs:List V} {p:Addr} (g:Goes X F H (.tup ds) Q) (s:Same F H) (h:H p=none) (r:RpL X.K F vs ds):Q (.ref p) (upd H p (.tup vs)) :=
 g _ _ _ _ (Ow.tuple s h r) (New.tuple s h)
theorem yq {op:Op} {a b d:D} {x y:V} {Q:VK} (s:Same F H) (e:nA op a b=some d) (f:Vw X.K F H x a) (i:Vw X.K F H y b) (g:Goes X F H d Q):rW X (binaryOp (opO op)) x y H Q:=by
 unfold nA at e
 split at e
 ·cases e;cases f.int;cases i.int
  exact bA op_add ⟨_,_,rfl,rfl,g.atom s (.int _)⟩
 ·split at e
  ·rename_i c
   cases e
   simp only [Bool.and_eq_true,decide_eq_true_eq] at c
   obtain ⟨a1,v1,rfl,j,l1,r1⟩:=f.lst s
   obtain ⟨a2,v2,rfl,n,l2,m⟩:=i.lst s
   refine bA op_cat ⟨a1,a2,v1,v2,rfl,rfl,j,n,?_,fun p l=>g.list s l ((r1 c.1.1).append (m c.1.2))⟩
   have:=aJ
   omega
  ·cases e
 ·split at e
  ·rename_i c
   cases e
   simp only [decide_eq_true_eq] at c
   obtain ⟨a1,v1,rfl,j,r1⟩:=f.tup
   obtain ⟨a2,v2,rfl,n,m⟩:=i.tup
   have o:=r1.length
   have q:=m.length
   refine bA op_catA ⟨a1,a2,v1,v2,rfl,rfl,af s j,af s n,?_,fun z=>?_,fun _ z=>?_,fun _ _ p l=>g.tuple s l (r1.append m)⟩
   ·have:=aJ
    omega
   ·subst z
    cases r1
    exact g.atom s (.tup n m)
   ·subst z
    cases m
    rw [List.append_nil] at g
    exact g.atom s (.tup j r1)
  ·cases e
 ·split at e
  ·rename_i c
   cases e;cases f.str;cases i.str
   exact bA op_add_str ⟨_,_,rfl,rfl,Nat.le_trans (of_decide_eq_true c) aJ,g.atom s (.str _)⟩
  ·cases e
 ·cases e;cases f.int;cases i.int
  exact bA op_sub ⟨_,_,rfl,rfl,g.atom s (.int _)⟩
 ·split at e
  ·rename_i c
   cases e;cases f.int;cases i.int
   exact bA op_mul ⟨_,_,rfl,rfl,sH c,g.atom s (.int _)⟩
  ·cases e
 ·split at e
  ·rename_i c
   cases e
   simp only [Bool.and_eq_true,decide_eq_true_eq] at c
   obtain ⟨a1,v1,rfl,j,l1,r1⟩:=f.lst s
   cases i.int
   rename_i xs k
   refine bA op_rep ⟨a1,k,v1,rfl,rfl,j,by omega,by omega,?_,fun p l=>g.list s l (sO (r1 c.1.1.1) _)⟩
   have:1000000≤sizeLine:=aJ
   have h:v1.length*k.toNat≤1000*1000:=Nat.mul_le_mul (by omega) (by omega)
   omega
  ·cases e
 ·split at e
  ·rename_i c
   cases e
   simp only [Bool.and_eq_true,decide_eq_true_eq,Bool.not_eq_true'] at c
   obtain ⟨a1,v1,rfl,j,r1⟩:=f.tup
   cases i.int
   rename_i xs k
   have l1:=r1.length
   by_cases hk:k=1
   ·subst hk
    refine bA xg ⟨a1,v1,rfl,rfl,af s j,?_⟩
    have o:(List.replicate (1:Int).toNat xs).flatten=xs:=by simp
    rw [o] at g
    exact g.atom s (.tup j r1)
   ·refine bA op_repT ⟨a1,k,v1,rfl,rfl,af s j,?_,by omega,by omega,by omega,fun p l=>g.tuple s l (sO r1 _)⟩
    intro z
    subst z
    cases r1
    simp at c
  ·cases e
 ·split at e
  ·rename_i c
   cases e;cases f.int;cases i.int
   simp only [Bool.and_eq_true,decide_eq_true_eq] at c
   exact bA op_fdiv ⟨_,_,rfl,rfl,⟨c.1,c.2⟩,g.atom s (.int _)⟩
  ·cases e
 ·split at e
  ·rename_i c
   cases e;cases f.int;cases i.int
   simp only [decide_eq_true_eq] at c
   exact bA op_mod ⟨_,_,rfl,rfl,c,g.atom s (.int _)⟩
  ·cases e
 ·split at e
  ·rename_i c
   cases e;cases f.int;cases i.int
   rw [fB] at c
   simp only [Bool.and_eq_true,decide_eq_true_eq] at c
   exact bA op_pow ⟨_,_,rfl,rfl,⟨by omega,by omega,by omega⟩,g.atom s (.int _)⟩
  ·cases e
 ·cases e
def xA:Cop→CmpOp
 | .eq=>.Eq | .ne=>.NotEq | .lt=>.Lt | .le=>.LtE | .gt=>.Gt | .ge=>.GtE | .isin=>.In | .notin=>.NotIn | .isn=>.Is | .isnotn=>.IsNot
theorem uw:∀ ns ms:List Int,HT.lexLt ns ms=ltI ns ms
 | [],[]=>rfl
 | [],_::_=>rfl
 | _::_,[]=>rfl
 | x::xs,y::ys=>by rw [HT.lexLt_cons];simp only [ltI,uw xs ys]
theorem jL {K:Frag} {v:V} {d:D} (r:Rp K F v d) (f:d.flat=true):flatV v=true:=by
 cases r<;>first | rfl | simp [D.flat] at f
theorem Dz {K:Frag} {v w:V} {d e:D} (r:Rp K F v d) (q:Rp K F w e) (f:d.flat=true) (g:e.flat=true):eqV v w=d.eq e:=by
 cases r<;>cases q<;>first | rfl | (simp [D.flat] at f;done) | (simp [D.flat] at g;done) | simp [eqV,D.eq]
theorem ou {K:Frag} {w:V} {e:D} (q:Rp K F w e) (g:e.flat=true):∀ {vs:List V} {ds:List D},RpL K F vs ds→eE ds=true→vs.all flatV=true∧(inV w vs)=ds.any fun x=>x.eq e
 | _,_,.nil,_=>⟨rfl,rfl⟩
 | _,_,.cons h t,f=>by
  simp only [eE,Bool.and_eq_true] at f
  obtain ⟨b,a⟩:=ou q g t f.2
  unfold inV at a ⊢
  simp only [List.all_cons,List.any_cons,jL h f.1,b,a,Dz h q f.1 g,Bool.and_self,and_self]
theorem qa (a:D):∀ ds:List D,((pys ds).any fun z=>PyData.eqv z a.py)=ds.any fun x=>x.eq a
 | []=>rfl
 | d::ds=>by simp only [pys,List.any_cons,qa a ds,uu]
theorem ja {ds:List D} (h:oks 58 ds=true):SeqAt.shaped (.list (pys ds))=true:=bP (d:=.lst false ds) (k:=59) (by decide) (by simpa [D.ok] using h)
theorem Vw.dpl {K:Frag} {x:V} {o:Bool} {ds:List D} (s:Same F H) (h:Vw K F H x (.lst o ds)) (e:oks 58 ds=true):Dp K H x (.list (pys ds)):=h.dp (k:=59) s (by simpa [D.ok] using e)
theorem Vw.atom {K:Frag} {x:V} {d:D} (h:Vw K F H x d) (f:d.flat=true):Rp K F x d:=by
 obtain ⟨W,h⟩:=h
 cases h with
 | frz r=>exact r
 | own _ _ _ _ _ _=>simp [D.flat] at f
 | mob _ _ _ _ _ _ _ _ _ _=>simp [D.flat] at f
 | dct _ _ _ _ _ _=>simp [D.flat] at f
 | dtk _ _ _ _ _ _ _=>simp [D.flat] at f
theorem uv {K:Frag} {x:V} {d:D} (h:Vw K F H x d):decide (x=.non)=isNon d:=by
 obtain ⟨W,h⟩:=h
 cases h with
 | frz r=>cases r<;>simp [isNon]
 | own _ _ _ _ _ _=>simp [isNon]
 | mob _ _ _ _ _ _ _ _ _ _=>simp [isNon]
 | dct _ _ _ _ _ _=>simp [isNon]
 | dtk _ _ _ _ _ _ _=>simp [isNon]
theorem dG:∀ {ds:List D} {ns:List Int},intsOf ds=some ns→ds=ns.map D.int
 | [],ns,e=>by
  simp only [intsOf,Option.some.injEq] at e
  subst e
  rfl
 | d::ds,ns,e=>by
  cases d with
  | int i =>
   simp only [intsOf,Option.map_eq_some_iff] at e
   obtain ⟨l,a,rfl⟩:=e
   rw [dG a]
   rfl
  | _=>simp [intsOf] at e
theorem pV:∀ (k:Nat) (ns:List Int),oks k (ns.map D.int)=true
 | _,[]=>rfl
 | k,n::ns=>by
  rw [List.map_cons]
  simp only [oks,pV k ns,Bool.and_true]
  cases k<;>rfl
theorem fC (ns:List Int):(D.tup (ns.map D.int)).ok 60=true:=pV 59 ns
theorem oa (ns:List Int):(D.tup (ns.map D.int)).py=.tuple (ns.map PyData.int):=by
 simp only [D.py]
 congr 1
 induction ns with
 | nil=>rfl
 | cons n ns ih=>simp only [List.map_cons,pys,D.py,ih]
theorem jy {c z:Str} {t:Bool} (e:oN c z=some t):∃ x,c=⟨#[x]⟩∧t=decide (x∈z.cps.toList):=by
 unfold oN at e
 split at e
 ·rename_i x ex
  cases e
  refine ⟨x,?_,rfl⟩
  obtain ⟨⟨l⟩⟩:=c
  simp only at ex
  rw [ex]
 ·cases e
theorem yU (b:X.A.units+65<cLine):OpR X (compareOp .In) (fun x y H Q=>∃ d ds,L2.Dp X.K H x d∧L2.Dp X.K H y (.tuple ds)∧SeqAt.shaped d=true∧SeqAt.shaped (.tuple ds)=true∧Q (.bl (ds.any fun z=>PyData.eqv z d)) H):=by
 intro pins s σ H x y v u Q I c e h
 obtain ⟨d,ds,hd,he,a,f,q⟩:=h
 obtain ⟨as,r1⟩:=Dp.reads I d x v hd c
 obtain ⟨bs,g⟩:=Dp.reads I (.tuple ds) y u he e
 exact SeqAt.in_tuple_reads g r1 (SeqAt.canLay_of_shaped f) (SeqAt.canLay_of_shaped a) (room_in_shaped a b) ⟨.bl _,H,I,rfl,q⟩
theorem pS {op:Cop} {a b:D} {t:Bool} {x y:V} {Q:VK} (p:X.A.units+65<cLine) (s:Same F H) (e:lC op a b=some t) (d:Vw X.K F H x a) (f:Vw X.K F H y b) (g:Q (.bl t) H):rW X (compareOp (xA op)) x y H Q:=by
 unfold lC at e
 split at e
 ·split at e
  ·rename_i c
   cases e
   simp only [Bool.and_eq_true,plain] at c
   exact bA (op_eqD (by omega)) ⟨_,_,d.dp s c.1,f.dp s c.2,bP (by decide) c.1,bP (by decide) c.2,by rw [uu];exact g⟩
  ·cases e
 ·split at e
  ·rename_i c
   cases e
   simp only [Bool.and_eq_true,plain] at c
   exact bA (op_neD (by omega)) ⟨_,_,d.dp s c.1,f.dp s c.2,bP (by decide) c.1,bP (by decide) c.2,by rw [uu];exact g⟩
  ·cases e
 ·cases e;cases d.int;cases f.int
  exact bA op_lt ⟨_,_,rfl,rfl,g⟩
 ·split at e
  ·rename_i ns ms i j
   cases e
   obtain ⟨a1,v1,rfl,q,r1⟩:=d.tup
   obtain ⟨a2,v2,rfl,l,m⟩:=f.tup
   obtain ⟨rfl,_⟩:=r1.ints i
   obtain ⟨rfl,_⟩:=m.ints j
   exact bA (op_ltT (by omega)) ⟨a1,a2,ns,ms,rfl,rfl,af s q,af s l,by rw [uw];exact g⟩
  ·cases e
 ·cases e;cases d.int;cases f.int
  exact bA op_le ⟨_,_,rfl,rfl,g⟩
 ·cases e;cases d.int;cases f.int
  exact bA op_gt ⟨_,_,rfl,rfl,g⟩
 ·split at e
  ·rename_i ns ms i j
   cases e
   obtain rfl:=dG i
   obtain rfl:=dG j
   have dx:=d.dp (k:=60) s (fC ns)
   have h:=f.dp (k:=60) s (fC ms)
   rw [oa] at dx h
   exact bA (B5 (by omega)) ⟨ns,ms,dx,h,g⟩
  ·cases e
 ·cases e;cases d.int;cases f.int
  exact bA op_ge ⟨_,_,rfl,rfl,g⟩
 ·split at e
  ·rename_i ns ms i j
   cases e
   obtain rfl:=dG i
   obtain rfl:=dG j
   have dx:=d.dp (k:=60) s (fC ns)
   have h:=f.dp (k:=60) s (fC ms)
   rw [oa] at dx h
   exact bA (zl (by omega)) ⟨ns,ms,dx,h,g⟩
  ·cases e
 ·split at e
  ·rename_i ns ms i j
   cases e
   obtain rfl:=dG i
   obtain rfl:=dG j
   have dx:=d.dp (k:=60) s (fC ns)
   have h:=f.dp (k:=60) s (fC ms)
   rw [oa] at dx h
   exact bA (Am (by omega)) ⟨ns,ms,dx,h,g⟩
  ·cases e
 ·split at e
  ·rename_i c
   cases e
   simp only [Bool.and_eq_true,plain] at c
   exact bA (op_inD p) ⟨_,_,d.dp s c.1,f.dpl s c.2,bP (by decide) c.1,ja c.2,by rw [qa];exact g⟩
  ·cases e
 ·split at e
  ·rename_i c
   cases e
   obtain ⟨a2,v2,rfl,l,m⟩:=f.tup
   obtain ⟨n,o⟩:=ou (d.atom (by rfl)) (by rfl) m c
   exact bA op_in_seq ⟨a2,v2,rfl,.inr (af s l),jL (d.atom (by rfl)) (by rfl),n,by rw [o];exact g⟩
  ·split at e
   ·rename_i c
    cases e
    have o1:D.ok 59 (.tup _)=true:=c
    exact bA (yU p) ⟨_,_,d.dp (k:=60) s (by rfl),f.dp (k:=59) s o1,bP (k:=60) (by decide) (by rfl),bP (k:=59) (by decide) o1,by
     show Q (.bl ((pys _).any fun z=>PyData.eqv z (D.py .non))) H
     rw [qa]
     exact g⟩
   ·cases e
 ·split at e
  ·rename_i c
   cases e
   simp only [Bool.and_eq_true] at c
   obtain ⟨a2,v2,rfl,l,m⟩:=f.tup
   obtain ⟨n,o⟩:=ou (d.atom c.1) c.1 m c.2
   exact bA op_in_seq ⟨a2,v2,rfl,.inr (af s l),jL (d.atom c.1) c.1,n,by rw [o];exact g⟩
  ·cases e
 ·split at e
  ·rename_i c
   cases e
   simp only [Bool.and_eq_true,plain] at c
   exact bA (op_notInD p) ⟨_,_,d.dp s c.1,f.dpl s c.2,bP (by decide) c.1,ja c.2,by rw [qa];exact g⟩
  ·cases e
 ·split at e
  ·rename_i c
   cases e
   simp only [Bool.and_eq_true] at c
   obtain ⟨a2,v2,rfl,l,m⟩:=f.tup
   obtain ⟨n,o⟩:=ou (d.atom c.1) c.1 m c.2
   exact bA op_notIn_seq ⟨a2,v2,rfl,.inr (af s l),jL (d.atom c.1) c.1,n,by rw [o];exact g⟩
  ·cases e
 ·cases d.str;cases f.str
  obtain ⟨c,rfl,rfl⟩:=jy e
  exact bA op_in_sign ⟨c,_,rfl,rfl,g⟩
 ·cases d.str;cases f.str
  rw [Option.map_eq_some_iff] at e
  obtain ⟨u,e,rfl⟩:=e
  obtain ⟨c,rfl,rfl⟩:=jy e
  exact bA op_notIn_sign ⟨c,_,rfl,rfl,g⟩
 ·cases e
  refine bA op_isN ⟨f.non,?_⟩
  rw [uv d]
  exact g
 ·cases e
  refine bA op_notN ⟨f.non,?_⟩
  rw [uv d]
  exact g
 ·cases e;cases d.bl;cases f.bl
  exact bA op_isBl ⟨_,_,rfl,rfl,g⟩
 ·cases e;cases d.bl;cases f.bl
  exact bA op_notBl ⟨_,_,rfl,rfl,g⟩
 ·cases e
end
end Ev
namespace Ev
open PySem PySem.Spec PyProof.Rows L2
theorem oz {K:Frag} {F:Hp}:∀ ns:List Int,RpL K F (ns.map V.int) (ns.map D.int)
 | []=>.nil
 | n::ns=>.cons (.int n) (oz ns)
theorem vj {K:Frag} {F:Hp} {b:Addr} {k:List Int} (h:SqT K F b (k.map V.int)):Rp K F (.ref b) (tupI k):=.tup h (oz k)
theorem ni {K:Frag} {F:Hp}:∀ {L:List Dt.Row},Dt.aT K F L→RpL K F (Dt.mh L) ((Dt.cF L).map tupI)
 | [],_=>.nil
 | p::L,h=>.cons (vj (h p List.mem_cons_self)) (ni fun q a=>h q (List.mem_cons_of_mem _ a))
theorem kL:∀ k:List Int,fF k=TS.code 64 k
 | []=>rfl
 | x::r=>by
  show x*64 ^ r.length+fF r=x*64 ^ r.length+TS.code 64 r
  rw [kL r]
theorem code_inj:∀ {a b:List Int},a.length=b.length→TS.Bd 64 a→TS.Bd 64 b→TS.code 64 a=TS.code 64 b→a=b
 | [],[],_,_,_,_=>rfl
 | [],_::_,e,_,_,_=>nomatch e
 | _::_,[],e,_,_,_=>nomatch e
 | x::a,y::b,e,ha,g,h=>by
  have f:a.length=b.length:=Nat.succ.inj e
  rcases Int.lt_trichotomy x y with c | c | c
  ·have:=TS.code_lt (B:=64) f ha.tail g.tail c
   omega
  ·subst c
   have i:=(TS.code_same (B:=64) (d:=x) f)
   have j:=(TS.code_same (B:=64) (d:=x) f.symm)
   have k:TS.code 64 a=TS.code 64 b:=by
    rcases Int.lt_trichotomy (TS.code 64 a) (TS.code 64 b) with z | z | z
    ·have:=i.mpr z
     omega
    ·exact z
    ·have:=j.mpr z
     omega
   rw [code_inj f ha.tail g.tail k]
  ·have:=TS.code_lt (B:=64) f.symm g.tail ha.tail c
   omega
theorem iE (k:List Int):∀ l:List (List Int),(zq k l).Perm (k::l)
 | []=>.refl _
 | q::l=>by
  unfold zq
  split
  ·exact .refl _
  ·exact ((iE k l).cons q).trans (.swap k q l)
theorem jl:∀ l:List (List Int),(fE l).Perm l
 | []=>.refl _
 | k::l=>(iE k (fE l)).trans ((jl l).cons k)
theorem qZ (k:List Int):∀ {l:List (List Int)},l.Pairwise (fun a b=>fF a≤fF b)→(zq k l).Pairwise fun a b=>fF a≤fF b
 | [],_=>by simp [zq]
 | q::l,h=>by
  unfold zq
  split
  ·rename_i c
   have c:=of_decide_eq_true c
   refine List.pairwise_cons.mpr ⟨fun y d=>?_,h⟩
   rcases List.mem_cons.mp d with rfl | d
   ·exact c
   ·exact Int.le_trans c ((List.pairwise_cons.mp h).1 y d)
  ·rename_i c
   have c:¬ fF k≤fF q:=fun z=>c (decide_eq_true z)
   refine List.pairwise_cons.mpr ⟨fun y d=>?_,qZ k (List.pairwise_cons.mp h).2⟩
   rcases List.mem_cons.mp ((iE k l).mem_iff.mp d) with rfl | d
   ·omega
   ·exact (List.pairwise_cons.mp h).1 y d
theorem pF:∀ l:List (List Int),(fE l).Pairwise fun a b=>fF a≤fF b
 | []=>.nil
 | k::l=>qZ k (pF l)
theorem lZ {ks:List (List Int)} (h:lA ks=true):∃ n,ks.Nodup∧ks.length<64∧(2≤ks.length→1≤n)∧∀ q∈ks,q.length=n∧TS.Bd 64 q:=by
 cases ks with
 | nil=>exact ⟨0,List.nodup_nil,by simp,by simp,fun q b=>nomatch b⟩
 | cons k r =>
  unfold lA at h
  simp only [Bool.and_eq_true,Bool.or_eq_true,List.all_eq_true,decide_eq_true_eq,Nat.blt_eq] at h
  obtain ⟨⟨⟨d,a⟩,g⟩,c⟩:=h
  refine ⟨k.length,d,by simp only [List.length_cons];omega,fun e=>?_,fun q b=>⟨(c q b).1,fun x f=>(c q b).2 x f⟩⟩
  rcases a with a | a
  ·rw [List.isEmpty_iff] at a
   subst a
   simp at e
  ·exact a
theorem qB {ks:List (List Int)} (h:lA ks=true):∀ {a:List (List Int)},a.Perm ks→a.Pairwise (fun x y=>TS.code 64 x≤TS.code 64 y)→a=fE ks:=by
 obtain ⟨n,nd,_,_,bd⟩:=lZ h
 intro a pm f
 have inj:∀ x∈ks,∀ y∈ks,TS.code 64 x≤TS.code 64 y→TS.code 64 y≤TS.code 64 x→x=y:=fun x c y d g i=>code_inj ((bd x c).1.trans (bd y d).1.symm) (bd x c).2 (bd y d).2 (by omega)
 have e:(fE ks).Pairwise fun x y=>TS.code 64 x≤TS.code 64 y:=(pF ks).imp fun {x y} h=>by rw [kL,kL] at h;exact h
 have b:=jl ks
 exact List.Perm.eq_of_pairwise (le:=fun x y=>TS.code 64 x≤TS.code 64 y) (fun x y c d=>inj x (pm.mem_iff.mp c) y (b.mem_iff.mp d)) f e (pm.trans b.symm)
end Ev
namespace Ev.Sb
open PySem PySem.Spec PyProof.Rows L2 Ev
theorem eM (x y:Str):leT x y=true ↔ x.cps.toList≤y.cps.toList:=by
 unfold leT
 rw [Bool.not_eq_true',decide_eq_false_iff_not,List.not_lt]
theorem lU (x y z:Str) (a:leT x y=true) (b:leT y z=true):leT x z=true:=(eM _ _).mpr (List.le_trans ((eM _ _).mp a) ((eM _ _).mp b))
theorem tm (x y:Str):(leT x y||leT y x)=true:=by
 rw [Bool.or_eq_true,eM,eM]
 exact List.le_total _ _
theorem wm (x y:Str) (a:leT x y=true) (b:leT y x=true):x=y:=by
 have e:=List.le_antisymm ((eM _ _).mp a) ((eM _ _).mp b)
 cases x with
 | mk c =>
  cases y with
  | mk d=>rw [show c=d from Array.ext' e]
theorem jw:∀ (p:Str) (l:List Str),risingS p l=true→(p::l).Pairwise (fun x y=>leT x y=true)
 | p,[],_=>by simp
 | p,x::r,h=>by
  have h:(!ltCps x.cps.toList p.cps.toList&&risingS x r)=true:=h
  rw [Bool.and_eq_true] at h
  have ih:=jw x r h.2
  have b:leT p x=true:=by
   unfold leT
   rw [← ltCps_eq]
   exact h.1
  refine List.pairwise_cons.mpr ⟨fun y a=>?_,ih⟩
  rcases List.mem_cons.mp a with rfl | a
  ·exact b
  ·exact lU _ _ _ b ((List.pairwise_cons.mp ih).1 y a)
theorem qN:∀ {l:List Str},sortedS l=true→l.Pairwise (fun x y=>leT x y=true)
 | [],_=>.nil
 | x::r,h=>jw x r h
theorem oI {a l:List Str} (b:a.Perm l) (ha:sortedS a=true):a=rA l:=PySem.W.Srt.the_of_perm leT lU tm wm b (qN ha)
end Ev.Sb
namespace PySem.W
open PySem PySem.Calls PyProof.Rows
section
variable {prog:Program} {w:World} {A:Around} {E:Value→Shared→Prop} {s:Shared} {K:Frag} {x C L f:Addr} {h₀:Heap} {m:Str→Option Value} {ox:Obj} {od:Option Obj}
theorem tY {op:Operator} {b tb:Value} {Q:Value→Shared→Prop} (F:Fr h₀ L s.heap m) (n:K.In h₀) (I:InstAt s.heap x ox C od) (o:selfFirst K C=true)
  (hs:findIn K (.ref C) (PySem.dunder op.info.2)=some (some (.ref f))) (hf:isFn K (.ref f)=true) (p:Looks (model prog w) s.heap (typeOf b) tb)
  (i:tb=.ref C∨∃ T,tb=.type T∧findIn K (.type T) (PySem.dunder op.info.2)=some none∧findIn K (.type T) (dunderR op.info.2)=some none)
  (h:wpAny (model prog w) A (call (.ref f) [.ref x,b]) (CmpBack Q) E s):wpAny (model prog w) A (binaryOp op (.ref x) b) Q E s:=by
 have X:=n.keeps F.keep
 obtain ⟨cd,rest,j,hm⟩:=ksp_first o
 rcases hi:op.info with ⟨sym,nm'⟩
 rw [hi] at hs i
 dsimp only at hs i
 have one:=ksp_try X I hs hf h
 obtain ⟨c,g,d,tk,os⟩:=s
 have t:Looks (model prog w) c (typeOf (.ref x)) (.ref C):=I.type
 have L2:Looks (model prog w) c (typeOf b) tb:=p
 have u:Looks (model prog w) c (fillsNumberSlot (.ref C) nm') true:=fills_K X j hm hs
 simp only [binaryOp,hi]
 refine wpAny_holding (wpAny_bind ?_)
 unfold binaryOp1
 refine wpAny_bind (t.at (wpAny_bind (L2.at (wpAny_bind (u.at ?_)))))
 rcases i with rfl | ⟨T,rfl,y,z⟩
 ·have he:(Value.ref C==Value.ref C)=true:=beq_self_eq_true _
  simp only [he,if_true]
  ksp_lk
  refine wpAny_mono one (fun r B a=>?_) fun _ _ e=>e
  obtain ⟨v,rfl,k⟩:=a
  ksp_lk
  exact k
 ·have l:(Value.ref C==Value.type T)=false:=Bool.eq_false_iff.mpr fun q=>by cases beq_iff_eq.mp q
  have G:Looks (model prog w) c (fillsNumberSlot (.type T) nm') ((((none:Option Value).isSome)&&!isSeqSlot none)||((none:Option Value).isSome&&!isSeqSlot none)):=ksp_fillsT X y z
  simp only [l,Bool.false_eq_true,if_false]
  ksp_lk
  refine wpAny_mono one (fun r B a=>?_) fun _ _ e=>e
  obtain ⟨v,rfl,k⟩:=a
  ksp_lk
  exact k
end
end PySem.W
namespace SlX
open PySem PySem.Spec PyProof.Rows L2
section
variable {X:Cx} {CX:CXT} {pins:List (Addr × Obj)} {σ:L2.St} {H:Hp} {s:Shared} {a C dx g:Addr} {vs:List (Option V)} {n:Nat} {sp:Sp} {E:XK}
def IF (K:Frag) (C:Addr) (tb:String→Prop) (sp:Sp) (E:XK):R2:=fun x y H Q=>∃ a dx vs,x=.ref a∧Slt H a C dx vs∧((∃ b dy ws,y=.ref b∧Slt H b C dy ws)∨∃ T:String,tb T∧TyX K H y (.type T))∧sp [x,y] H Q E
theorem BK {op:Operator} {tb:String→Prop} (f:PySem.W.selfFirst X.K C=true) (hs:findIn X.K (.ref C) (PySem.dunder op.info.2)=some (some (.ref g))) (hf:isFn X.K (.ref g)=true)
  (j:∀ T,tb T→findIn X.K (.type T) (PySem.dunder op.info.2)=some none∧findIn X.K (.type T) (dunderR op.info.2)=some none)
  (F:FnR X.prog X.w X.K X.mg X.base CX n g sp) (k:Room n X.A) (l:Passes CX X E):OpR X (binaryOp op) (IF X.K C tb sp E):=by
 intro pins s σ H x y v u Q I o d h
 obtain ⟨a,dx,vs,rfl,ha,c,q⟩:=h
 cases (show v=Value.ref a from o)
 obtain ⟨sl,od,_,J,_⟩:=slt_inst I ha
 obtain ⟨m,i⟩:=I.fr
 have fin:wpAny (model X.prog X.w) X.A (call (.ref g) [.ref a,u]) (PySem.W.CmpBack (EP X pins σ Q)) X.xe s:=by
  refine wpAny_mono (wpAny_call (run_fnR (us:=[.ref a,u]) (vs:=[.ref a,y]) F k l I (.cons rfl (.cons d .nil)) q)) (fun w R z=>?_) fun _ _ x=>x
  obtain ⟨p,H',r,rz,t⟩:=z
  exact cmpback rz ⟨p,H',r,rz,t⟩
 rcases c with ⟨b,V,ws,rfl,c⟩ | ⟨T,ht,c⟩
 ·cases (show u=Value.ref b from d)
  obtain ⟨B,G,_,L,_⟩:=slt_inst I c
  exact PySem.W.tY i I.ok.mod.kin J f hs hf L.type (.inl rfl) fin
 ·obtain ⟨P,e,M,_⟩:=kit_of I d c
  obtain ⟨N,O⟩:=j T ht
  exact PySem.W.tY i I.ok.mod.kin J f hs hf (e.ty _ _ I.kIn M) (.inr ⟨T,rfl,N,O⟩) fin
end
end SlX
namespace ClX
open PySem PySem.Spec PyProof.Rows L2
section
variable {X:Cx} {CX:CXT} {k n:Nat} {C p g:Addr} {mc:Value} {fd:FuncData} {ps ks:List Str} {sp:Sp} {E:XK} {o:Expr} {kws:List Keyword} {m:Str} {pos apos:Pos} {ta:TE} {tk:TA} {pl:Sem Bool} {gf:List Value→List Value→List Value} {gV:List V→List V→List V}
end
end ClX
namespace PySem.W
open PySem PySem.Calls PyProof.Rows
section
variable {M:Model} {prog:Program} {w:World} {A:Around} {E:Value→Shared→Prop} {s:Shared} {K:Frag} {x C L f:Addr} {h₀:Heap} {m:Str→Option Value} {ox:Obj} {od:Option Obj} {b tb:Value}
end
end PySem.W
namespace SlX
open PySem PySem.Spec PyProof.Rows L2
section
variable {X:Cx} {CX:CXT} {pins:List (Addr × Obj)} {σ:L2.St} {H:Hp} {s:Shared} {a C dx g:Addr} {vs:List (Option V)} {n:Nat} {sp:Sp} {E:XK}
end
end SlX
namespace Ev
open PySem PySem.Spec PyProof.Rows L2
section
variable {X:Cx}
def FQ (K:Frag):List V→Hp→VK→Prop:=fun vs H Q=>∃ (a:Addr) (ns:List Int),vs=[V.ref a]∧SqT K H a (ns.map V.int)∧Q (.int ns.sum) H
theorem zO (c:X.calm=true):CallR X (.builtin "sum") (FQ X.K):=by
 intro pins s σ H vs us Q I r h
 obtain ⟨a,ns,rfl,hs,q⟩:=h
 obtain ⟨its,b,ht,_⟩:=I.tuple hs
 rw [Vals.ref1 r]
 obtain ⟨xs,e⟩:=b.ints.allInts.items
 have hn:numsOf (intItems xs).toList=ns:=by rw [← e];exact b.ints.numsOf
 rw [nums_intItems] at hn
 rw [e] at ht
 refine PySem.W.ktm_sumG (I.ok.hd c) ht fun h' tk t' hk=>?_
 refine ⟨.int _,H,I.kept hk,⟨_,rfl⟩,?_⟩
 rw [preSum_eq,List.take_of_length_le (by simp),hn]
 exact q
end
end Ev
namespace SlX
open PySem PySem.Spec PyProof.Rows L2
section
variable {X:Cx} {CX:CXT} {pins:List (Addr × Obj)} {σ:L2.St} {H:Hp} {s:Shared} {a C dx g:Addr} {vs:List (Option V)} {n:Nat} {sp:Sp} {E:XK}
end
end SlX
namespace PySem.SeqAt
open AutoSeq1 (wpAny_loadPart')
open MeetsSeq MeetsSeq2 MeetsSeq3 SeqRoads2 PySem.W PySem.Calls PyProof.Rows GQ
section
variable {prog:Program} {w:World} {A:Around} {E:Value→Shared→Prop} {s:Shared} {K:Frag} {x C L f:Addr} {h₀:Heap} {m:Str→Option Value} {ox:Obj} {od:Option Obj} {a:Addr}
end
end PySem.SeqAt
namespace SlX
open PySem PySem.Spec PyProof.Rows L2 PySem.SeqAt GQ
section
variable {X:Cx} {CX:CXT} {pins:List (Addr × Obj)} {σ:L2.St} {H:Hp} {s:Shared} {C g:Addr} {n:Nat} {sp:Sp} {E:XK}
end
end SlX
namespace PySem.W
open PySem PySem.Calls PyProof.Rows
section
variable {prog:Program} {w:World} {A:Around} {E:Value→Shared→Prop} {s:Shared} {K:Frag} {x C L f g:Addr} {h₀:Heap} {m:Str→Option Value} {ox:Obj} {od:Option Obj}
end
end PySem.W
namespace SlX
open PySem PySem.Spec PyProof.Rows L2
section
variable {X:Cx} {CX:CXT} {pins:List (Addr × Obj)} {σ:L2.St} {H:Hp} {s:Shared} {a C dx g g2:Addr} {vs:List (Option V)} {n:Nat} {sp:Sp} {E:XK}
def Ir (C:Addr) (sp:Sp) (E:XK):R2:=fun y x H Q=>∃ a dx vs i,y=.int i∧x=.ref a∧Slt H a C dx vs∧sp [x,y] H Q E
def Ik (C:Addr) (sp:Sp) (E:XK):R2:=fun x y H Q=>∃ a dx vs,x=.ref a∧Slt H a C dx vs∧((∃ b dy ws,y=.ref b∧Slt H b C dy ws)∨∃ i,y=.int i)∧sp [x,y] H Q E
end
end SlX
namespace Ev
open PySem PySem.Spec PyProof.Rows L2
section
variable {prog:Program} {w:World} {A:Around} {E:Value→Shared→Prop} {s:Shared}
theorem qE {t:Addr} {vs:List Value} {Q:List Value→Shared→Prop} (ht:IsTup s.heap t vs.toArray) (d:vs.length≤sizeLine)
    (h:Q vs { s with heap:=(s.heap.push (seqObj "list" #[] 0)).update s.heap.objs.size (Obj.mapSeq (·++vs.toArray)) }) :
    wpAny (model prog w) A (collect (.ref t)) Q E s:=by
  obtain ⟨o,b,c,n,hd⟩:=id ht
  unfold collect
  refine wpAny_bind (wpAny_runValue
    (codeAny_builtin entry_proto_collect' ?_))
  show wpAny _ _ (do
    again (.builtin "list.__iadd__" ⟨[← newList [],.ref t],[]⟩)) _ _ s
  refine wpAny_bind (wpAny_newList (wpAny_pure
    ⟨Code.quiet_builtin _ (by decide +kernel),codeAny_builtin entry_list_iadd' ?_⟩))
  show wpAny _ _ (Builtin.List.listExtendWith
    (.ref s.heap.objs.size) (.ref t) (.ref s.heap.objs.size)) _ _
    { s with heap:=s.heap.push (seqObj "list" #[] 0) }
  unfold Builtin.List.listExtendWith
  have a:(s.heap.push (seqObj "list" #[] 0)).get? t=some o :=
    Heap.get?_push_of_some _ b
  refine wpAny_bind (wpAny_typeOf (T:="tuple") ⟨o,a,c⟩ ?_)
  rw [if_pos (by simp)]
  refine wpAny_bind (listItems_at a hd ?_)
  refine wpAny_bind (listItems_at (xs:=#[]) (n:=0)
    (Heap.get?_push_size _ rfl) rfl ?_)
  rw [if_neg (by simp)]
  refine wpAny_bind (listUpdate_at (xs:=#[]) (n:=0)
    (Heap.get?_push_size _ rfl) rfl ?_ (Nat.zero_le _)
    (by show (#[]++vs.toArray).size≤sizeLine+1
        simp only [Array.size_append,List.size_toArray,List.length_nil]
        omega))
  refine wpAny_pure ?_
  show wpAny (model prog w) A (do
    let o ← load s.heap.objs.size
    match o.data with
    | .seq xs _=>pure xs.toList
    | _=>unsupported "internal:collect") Q E
    { s with heap:=(s.heap.push (seqObj "list" #[] 0)).update s.heap.objs.size (Obj.mapSeq (·++vs.toArray)) }
  refine wpAny_bind (wpAny_load
    (get?_update_seq (Heap.get?_push_size _ rfl) _) ?_)
  show wpAny _ _ (pure ((#[]:Array Value)++vs.toArray).toList) Q E _
  have e:((#[]:Array Value)++vs.toArray).toList=vs:=by simp
  rw [e]
  exact wpAny_pure h
theorem tT {t:Addr} {vs:List Value} {ns:List Int} {Q:Value→Shared→Prop} (ht:IsTup s.heap t vs.toArray) (a:vs.length≤sizeLine) (hi:IntsAre vs ns)
  (h:∀ out:List Value,SrtO.Srtd SrtO.ltIv out→SrtO.Stb SrtO.ltIv out vs →
   Q (.ref (s.heap.objs.size+1)) { s with heap:=sortedAll s.heap vs out.toArray }) :
  wpAny (model prog w) A (call (.builtin "sorted") [.ref t]) Q E s:=by
 refine Calls.call_function_entry kind_sorted plain_sorted
  entry_sorted (args_sorted1 _) ?_
 unfold Builtin.«sorted»
 refine wpAny_bind (m:=checkCount "sorted" 1 1 _)
  (wpAny_pure ?_)
 refine wpAny_bind (qE ht a ?_)
 refine wpAny_bind (wpAny_newList ?_ a)
 have up:((s.heap.push (seqObj "list" #[] 0)).update s.heap.objs.size
   (Obj.mapSeq (·++vs.toArray))).objs.size=s.heap.objs.size+1:=by
  rw [Heap.size_update,size_push']
 have new:(((s.heap.push (seqObj "list" #[] 0)).update s.heap.objs.size
   (Obj.mapSeq (·++vs.toArray))).push (seqObj "list" vs.toArray 0)).get?
   (s.heap.objs.size+1)=some (seqObj "list" vs.toArray 0):=by
  rw [← up]
  exact Heap.get?_push_size _ rfl
 show wpAny _ _ _ _ _ { s with heap:=((s.heap.push (seqObj "list" #[] 0)).update s.heap.objs.size
  (Obj.mapSeq (·++vs.toArray))).push (seqObj "list" vs.toArray 0) }
 rw [up]
 refine wpAny_bind (wpAny_holding (wpAny_call_entry slot_list_sort ⟨_,new,rfl⟩ entry_list_sort
  (SrtO.list_sort_ord SrtO.swo_int new a (fun b=>SrtO.ints_sortable hi b)
   fun out hs c=>⟨_,rfl,?_⟩) (args_list_sort _)))
 exact wpAny_pure ⟨_,rfl,h out hs c⟩
end
theorem insI_perm (x:Int):∀ ys:List Int,(insI x ys).Perm (x::ys)
 | []=>.refl _
 | y::ys=>by
  unfold insI
  split
  ·exact .refl _
  ·exact ((insI_perm x ys).cons y).trans (.swap x y ys)
theorem sortI_perm:∀ xs:List Int,(sortI xs).Perm xs
 | []=>.refl _
 | x::xs=>(insI_perm x (sortI xs)).trans ((sortI_perm xs).cons x)
theorem ui (x:Int):∀ {ys:List Int},ys.Pairwise (·≤·)→(insI x ys).Pairwise (·≤·)
 | [],_=>by simp [insI]
 | y::ys,h=>by
  obtain ⟨b,d⟩:=List.pairwise_cons.mp h
  unfold insI
  split
  ·rename_i c
   refine List.pairwise_cons.mpr ⟨fun z a=>?_,h⟩
   rcases List.mem_cons.mp a with e | a
   ·omega
   ·have:=b z a
    omega
  ·rename_i c
   refine List.pairwise_cons.mpr ⟨fun z a=>?_,ui x d⟩
   rcases List.mem_cons.mp ((insI_perm x ys).mem_iff.mp a) with e | a
   ·omega
   ·exact b z a
theorem pR:∀ xs:List Int,(sortI xs).Pairwise (·≤·)
 | []=>.nil
 | x::xs=>ui x (pR xs)
theorem jm {a ns:List Int} (p:a.Perm ns) (q:a.Pairwise (·≤·)):a=sortI ns :=
 PySem.W.ksm_same (p.trans (sortI_perm ns).symm) q (pR ns)
theorem md:∀ (xs:List Int) (m:Int),qS m xs∈m::xs∧∀ y∈m::xs,qS m xs≤y
 | [],m=>⟨List.mem_cons_self,fun y h=>by simp at h;unfold qS;omega⟩
 | x::xs,m=>by
  obtain ⟨d,b⟩:=md xs (if x<m then x else m)
  show qS (if x<m then x else m) xs∈_∧∀ y∈m::x::xs,qS (if x<m then x else m) xs≤y
  refine ⟨?_,fun y a=>?_⟩
  ·rcases List.mem_cons.mp d with e | e
   ·rw [e]
    split<;>simp
   ·exact List.mem_cons_of_mem _ (List.mem_cons_of_mem _ e)
  ·have c:=b (if x<m then x else m) List.mem_cons_self
   generalize qS (if x<m then x else m) xs=z at b c ⊢
   rcases List.mem_cons.mp a with e | a
   ·subst e;split at c<;>omega
   ·rcases List.mem_cons.mp a with e | a
    ·subst e;split at c<;>omega
    ·exact b y (List.mem_cons_of_mem _ a)
theorem mz:∀ (xs:List Int) (m:Int),qu m xs∈m::xs∧∀ y∈m::xs,y≤qu m xs
 | [],m=>⟨List.mem_cons_self,fun y h=>by simp at h;unfold qu;omega⟩
 | x::xs,m=>by
  obtain ⟨d,b⟩:=mz xs (if m<x then x else m)
  show qu (if m<x then x else m) xs∈_∧∀ y∈m::x::xs,y≤qu (if m<x then x else m) xs
  refine ⟨?_,fun y a=>?_⟩
  ·rcases List.mem_cons.mp d with e | e
   ·rw [e]
    split<;>simp
   ·exact List.mem_cons_of_mem _ (List.mem_cons_of_mem _ e)
  ·have c:=b (if m<x then x else m) List.mem_cons_self
   generalize qu (if m<x then x else m) xs=z at b c ⊢
   rcases List.mem_cons.mp a with e | a
   ·subst e;split at c<;>omega
   ·rcases List.mem_cons.mp a with e | a
    ·subst e;split at c<;>omega
    ·exact b y (List.mem_cons_of_mem _ a)
section
variable {X:Cx} {F H:Hp}
theorem qp:CallR X (.builtin "sorted") (fun vs H Q=>∃ (a:Addr) (ns:List Int),vs=[V.ref a]∧SqT X.K H a (ns.map V.int) ∧
  ∀ (b:List Int) (p:Addr),b.Perm ns→b.Pairwise (·≤·)→H p=none→Q (.ref p) (upd H p (.lst (b.map V.int)))):=by
 intro pins s σ H vs us Q I r h
 obtain ⟨a,ns,rfl,hs,q⟩:=h
 obtain ⟨its,e,f,c⟩:=I.tuple hs
 rw [Vals.ref1 r]
 have hi:=e.ints
 refine tT f (by rw [← e.length];exact c) hi fun out g i=>?_
 obtain ⟨k1,k2,k3⟩:=SrtO.ints_out hi g i
 obtain ⟨ep,d⟩:=PyProof.Rows.sortedAll_at s.heap its out.toArray
 have len:((out.map SrtO.iv).map V.int).length≤sizeLine:=by
  rw [List.length_map,k2.length_eq]
  rw [List.length_map] at c
  exact c
 refine ⟨.ref _,upd H (s.heap.objs.size+1) (.lst ((out.map SrtO.iv).map V.int)),?_,rfl,q _ _ k2 k3 (I.hok.fresh (Nat.le_succ _))⟩
 exact I.laid (t':=s.toks) (fun _ _=>PyProof.Rows.sortedAll_old) (Nat.le_succ _) ⟨len,out,ep,vals_of_ints k1,d⟩
theorem sU:CallR X (.builtin "sorted") (fun vs H Q=>∃ (a:Addr) (ts:List (Addr × (Int × Int))),vs=[V.ref a]∧SqL X.K H a (ts.map fun p=>V.ref p.1)∧(∀ p∈ts,SqT X.K H p.1 [.int p.2.1,.int p.2.2]) ∧
  ∀ (g:List (Addr × (Int × Int))) (p:Addr),g.Perm ts→g.Pairwise (fun x y=>SrtO.lexB y.2 x.2=false)→H p=none→Q (.ref p) (upd H p (.lst (g.map fun p=>V.ref p.1)))):=by
 intro pins s σ H vs us Q I r h
 obtain ⟨a,ts,rfl,hs,C,q⟩:=h
 obtain ⟨its,j,w,F⟩:=I.list hs
 obtain ⟨u,rfl,O⟩:=vals1 r
 obtain rfl:u=Value.ref a:=O
 obtain ⟨P,J⟩:=refs_back j fun x m=>by
  obtain ⟨p,_,rfl⟩:=List.mem_map.mp m
  exact ⟨p.1,rfl⟩
 let f:Value→Addr × (Int × Int):=fun u=>match u with
  | .ref b=>(b,(ts.lookup b).getD (0,0))
  | _=>(0,(0,0))
 have L:∀ p∈ts,f (.ref p.1)=p:=fun p c=>by
  have:∃ z,ts.lookup p.1=some z∧(p.1,z)∈ts:=by
   clear hs C q j P J f F w
   induction ts with
   | nil=>cases c
   | cons y ts ih =>
    rw [List.lookup_cons]
    split
    ·rename_i b
     have:=beq_iff_eq.mp b
     exact ⟨y.2,rfl,by rw [this];exact List.mem_cons_self⟩
    ·rename_i b
     rcases List.mem_cons.mp c with e | c
     ·rw [e] at b
      simp at b
     ·obtain ⟨z,B,i⟩:=ih c
      exact ⟨z,B,List.mem_cons_of_mem _ i⟩
  obtain ⟨z,B,i⟩:=this
  have:=I.tuple_inj (C _ i) (C p c)
  have R:z=p.2:=by
   simp only [List.cons.injEq,V.int.injEq,and_true] at this
   exact Prod.ext this.1 this.2
  show (p.1,(ts.lookup p.1).getD (0,0))=p
  rw [B,R]
  rfl
 have ei:its=ts.map fun p=>Value.ref p.1:=by
  have:∀ (ts:List (Addr × (Int × Int))) (its:List Value),Vals (ts.map fun p=>V.ref p.1) its→its=ts.map fun p=>Value.ref p.1:=by
   intro ts
   induction ts with
   | nil=>intro its h;cases h;rfl
   | cons y ts ih =>
    intro its h
    cases h with
    | cons h t =>
     cases h
     rw [List.map_cons,← ih _ t]
  exact this ts its j
 have fi:its.map f=ts:=by
  rw [ei,List.map_map]
  have:∀ l:List (Addr × (Int × Int)),(∀ p∈l,p∈ts)→l.map (f∘fun p=>Value.ref p.1)=l:=by
   intro l w
   induction l with
   | nil=>rfl
   | cons y l ih =>
    rw [List.map_cons,ih fun p c=>w p (List.mem_cons_of_mem _ c)]
    show f (.ref y.1)::l=y::l
    rw [L y (w y List.mem_cons_self)]
  exact this ts fun _ h=>h
 refine SrtO.sorted_pairsO (k:=fun u=>(f u).2) w.isList (by rw [← j.length];exact F) (fun v M=>?_) fun h' d out B i kp hd hn=>?_
 ·rw [ei] at M
  obtain ⟨p,c,rfl⟩:=List.mem_map.mp M
  show Srt.IsPair s.heap (.ref p.1) (f (.ref p.1)).2.1 (f (.ref p.1)).2.2
  rw [L p c]
  obtain ⟨its2,Y,⟨o,Z,hc,n,hd⟩,_⟩:=I.tuple (C p c)
  obtain ⟨u1,u2,rfl,ri,rj⟩:=vals2 Y
  obtain ⟨t1,rfl⟩:=ri
  obtain ⟨t2,rfl⟩:=rj
  exact ⟨p.1,o,t1,t2,n,rfl,Z,hc,hd⟩
 ·have N:∀ u∈out,∃ a,u=Value.ref a:=fun u G=>J u (i.perm.mem_iff.mp G)
  obtain ⟨n,hn⟩:=hn
  have pm:(out.map f).Perm ts:=by
   have:=i.perm.map f
   rwa [fi] at this
  have eo:(out.map f).map (fun p=>V.ref p.1)=out.map backV:=by
   rw [List.map_map]
   refine List.map_congr_left fun u G=>?_
   obtain ⟨b,rfl⟩:=N u G
   rfl
  have len:(out.map backV).length≤sizeLine:=by
   rw [List.length_map,i.perm.length_eq,← j.length]
   exact F
  refine ⟨.ref d,upd H d (.lst (out.map backV)),I.laid (t':=s.toks) kp hd ⟨len,out,n,vals_back N,hn⟩,rfl,?_⟩
  rw [← eo]
  exact q (out.map f) d pm (List.pairwise_map.mpr B) (I.hok.fresh hd)
theorem Ao (p q:Nat × Nat):ltQ p q=SrtO.lexB ((p.1:Int),(p.2:Int)) ((q.1:Int),(q.2:Int)):=by
 rw [Bool.eq_iff_iff,SrtO.lexB_iff]
 unfold ltQ
 rw [Bool.or_eq_true,Bool.and_eq_true,Nat.blt_eq,Nat.beq_eq,Nat.blt_eq]
 show _ ↔ (p.1:Int)<q.1∨((p.1:Int)=q.1∧(p.2:Int)<q.2)
 omega
theorem iH (x:Nat × Nat):∀ ys,(AO x ys).Perm (x::ys)
 | []=>.refl _
 | y::ys=>by
  unfold AO
  split
  ·exact ((iH x ys).cons y).trans (.swap x y ys)
  ·exact .refl _
theorem jA:∀ xs,(qI xs).Perm xs
 | []=>.refl _
 | x::xs=>(iH x (qI xs)).trans ((jA xs).cons x)
theorem tU (p q:Nat × Nat):ltQ p q=true ↔ p.1<q.1∨(p.1=q.1∧p.2<q.2):=by
 unfold ltQ
 rw [Bool.or_eq_true,Bool.and_eq_true,Nat.blt_eq,Nat.beq_eq,Nat.blt_eq]
theorem sN (p q:Nat × Nat):ltQ p q=false ↔ q.1<p.1∨(p.1=q.1∧q.2≤p.2):=by
 rw [← Bool.not_eq_true,tU]
 omega
theorem rL (x:Nat × Nat):∀ {ys:List (Nat × Nat)},ys.Pairwise (fun a b=>ltQ b a=false)→(AO x ys).Pairwise (fun a b=>ltQ b a=false)
 | [],_=>by simp [AO]
 | y::ys,h=>by
  obtain ⟨f,g⟩:=List.pairwise_cons.mp h
  unfold AO
  split
  ·rename_i c
   refine List.pairwise_cons.mpr ⟨fun z d=>?_,rL x g⟩
   rcases List.mem_cons.mp ((iH x ys).mem_iff.mp d) with e | d
   ·subst e
    rw [tU] at c
    rw [sN]
    omega
   ·exact f z d
  ·rename_i c
   rw [Bool.not_eq_true] at c
   refine List.pairwise_cons.mpr ⟨fun z d=>?_,h⟩
   rcases List.mem_cons.mp d with e | d
   ·subst e;exact c
   ·have:=f z d
    rw [sN] at *
    omega
theorem pN:∀ xs,(qI xs).Pairwise (fun a b=>ltQ b a=false)
 | []=>.nil
 | x::xs=>rL x (pN xs)
theorem js:∀ {a b:List (Nat × Nat)},a.Perm b→a.Pairwise (fun a b=>ltQ b a=false)→b.Pairwise (fun a b=>ltQ b a=false)→a=b
 | [],b,p,_,_=>(List.Perm.eq_nil p.symm).symm
 | x::a,[],p,_,_=>absurd p.length_eq (by simp)
 | x::a,y::b,p,h,k=>by
  have h':=List.pairwise_cons.mp h
  have k':=List.pairwise_cons.mp k
  have e:x=y:=by
   rcases List.mem_cons.mp (p.mem_iff.mp List.mem_cons_self) with e | c
   ·exact e
   ·rcases List.mem_cons.mp (p.mem_iff.mpr List.mem_cons_self) with e | d
    ·exact e.symm
    ·have a1:=h'.1 y d
     have a2:=k'.1 x c
     rw [sN] at a1 a2
     exact Prod.ext (by omega) (by omega)
  subst e
  rw [js p.cons_inv h'.2 k'.2]
theorem oE:∀ {xs:List D} {ps:List (Nat × Nat)},wR xs=some ps→xs=ps.map pairD
 | [],ps,e=>by cases e;rfl
 | d::ds,ps,e=>by
  unfold wR at e
  split at e
  ·rename_i h;cases h
  ·rename_i x y ds' h
   cases h
   rw [Option.map_eq_some_iff] at e
   obtain ⟨b,a,rfl⟩:=e
   rw [oE a]
   rfl
  ·cases e
theorem yu:∀ ps:List (Nat × Nat),fzs (ps.map pairD)=true
 | []=>rfl
 | p::ps=>by
  simp only [List.map_cons,fzs,yu ps]
  rfl
def prI (p:Nat × Nat):Int × Int:=((p.1:Int),(p.2:Int))
theorem yE {K:Frag}:∀ {ps:List (Nat × Nat)} {vs:List V},RpL K F vs (ps.map pairD)→∃ ts:List (Addr × (Int × Int)),vs=ts.map (fun p=>V.ref p.1)∧ts.map Prod.snd=ps.map prI∧∀ p∈ts,SqT K F p.1 [.int p.2.1,.int p.2.2]
 | [],_,h=>by cases h;exact ⟨[],rfl,rfl,fun p q=>by cases q⟩
 | p::ps,_,h=>by
  cases h with
  | cons r t =>
   obtain ⟨ts,c,d,e⟩:=yE t
   change Rp K F _ (.tup [.int p.1,.int p.2]) at r
   cases r with
   | tup q l =>
    rename_i a ws
    obtain ⟨rfl,_⟩:=l.ints (ns:=[(p.1:Int),(p.2:Int)]) rfl
    refine ⟨(a,prI p)::ts,by rw [c];rfl,by rw [List.map_cons,d];rfl,fun x b=>?_⟩
    rcases List.mem_cons.mp b with rfl | b
    ·exact q
    ·exact e x b
theorem x7 {K:Frag}:∀ {L:List (Addr × (Int × Int))} {a:List (Nat × Nat)},(∀ p∈L,SqT K F p.1 [.int p.2.1,.int p.2.2])→L.map Prod.snd=a.map prI→RpL K F (L.map fun p=>V.ref p.1) (a.map pairD)
 | [],[],_,_=>.nil
 | [],q::a,_,e=>by simp at e
 | p::L,[],_,e=>by simp at e
 | p::L,q::a,h,e=>by
  simp only [List.map_cons,List.cons.injEq] at e
  refine .cons ?_ (x7 (fun x b=>h x (by simp [b])) e.2)
  have:=h p (by simp)
  rw [e.1] at this
  exact .tup this (di [(q.1:Int),(q.2:Int)])
theorem wY {L:List (Int × Int)} {ps:List (Nat × Nat)} (pm:L.Perm (ps.map prI)) (i:L.Pairwise (fun x y=>SrtO.lexB y x=false)):L=(qI ps).map prI:=by
 have up:∀ l:List (Int × Int),(∀ z∈l,∃ p,z=prI p)→∃ c:List (Nat × Nat),l=c.map prI:=by
  intro l
  induction l with
  | nil=>intro _;exact ⟨[],rfl⟩
  | cons z l ih =>
   intro h
   obtain ⟨c,e⟩:=ih fun y j=>h y (List.mem_cons_of_mem _ j)
   obtain ⟨p,k⟩:=h z List.mem_cons_self
   exact ⟨p::c,by rw [e,k];rfl⟩
 obtain ⟨c,rfl⟩:=up L fun z m=>by
  obtain ⟨p,_,e⟩:=List.mem_map.mp (pm.mem_iff.mp m)
  exact ⟨p,e.symm⟩
 have d:c.Perm ps:=by
  let g:Int × Int→Nat × Nat:=fun z=>(z.1.toNat,z.2.toNat)
  have f:∀ l:List (Nat × Nat),(l.map prI).map g=l:=fun l=>by
   rw [List.map_map]
   have:(g∘prI)=id:=funext fun p=>rfl
   rw [this,List.map_id]
  have:=pm.map g
  rwa [f,f] at this
 rw [js (d.trans (jA ps).symm) ((List.pairwise_map.mp i).imp fun {a b} h=>by rw [Ao];exact h) (pN ps)]
def biV:Bi→Value
 | .len=>.builtin "len" | .abs=>.builtin "abs" | .min2=>.builtin "min" | .max2=>.builtin "max" | .min1=>.builtin "min" | .max1=>.builtin "max"
 | .sum1=>.builtin "sum" | .int1=>.type "int" | .list1=>.type "list" | .tuple1=>.type "tuple" | .sorted1=>.builtin "sorted" | .all1=>.builtin "all" | .any1=>.builtin "any"
 | .divmod=>.builtin "divmod" | .lrange=>.none | .trange=>.none | .maxd=>.none | .sset=>.none | .lset=>.none | .step=>.none | .lenr=>.none | .str1=>.type "str" | .join _=>.none | .splt _=>.none | .repl _=>.none
theorem VwL.one {K:Frag} {xs:List V} {d:D} (h:VwL K F H xs [d]):∃ x,xs=[x]∧Vw K F H x d:=by
 cases h with
 | cons h t=>cases t;exact ⟨_,rfl,h⟩
theorem VwL.two {K:Frag} {xs:List V} {d e:D} (h:VwL K F H xs [d,e]):∃ x y,xs=[x,y]∧Vw K F H x d∧Vw K F H y e:=by
 cases h with
 | cons h t =>
  cases t with
  | cons a t=>cases t;exact ⟨_,_,rfl,h,a⟩
theorem Vw.ints {K:Frag} {x:V} {o:Bool} {ds:List D} {ns:List Int} (s:Same F H) (h:Vw K F H x (.lst o ds)) (e:intsOf ds=some ns):∃ a,x=.ref a∧H a=some (.lst (ns.map V.int)):=by
 obtain ⟨a,vs,rfl,b,_,r⟩:=h.lst s
 obtain ⟨rfl,_⟩:=(r (cV e)).ints e
 exact ⟨a,rfl,b⟩
theorem foldl_min (ms:List Int):∀ n:Int,ms.foldl min n=qS n ms:=by
 induction ms with
 | nil=>intro n;rfl
 | cons m ms ih =>
  intro n
  rw [List.foldl_cons,ih,qS]
  congr 1
  split<;>omega
open PySem.W in
theorem i5 (ns:List Int):AlikeAll (ns.map PyData.int):=by
 refine ⟨fun x a y b=>?_,fun x a=>?_⟩
 ·obtain ⟨i,_,rfl⟩:=List.mem_map.mp a
  obtain ⟨j,_,rfl⟩:=List.mem_map.mp b
  rfl
 ·obtain ⟨i,_,rfl⟩:=List.mem_map.mp a
  intro h;cases h
theorem fQ:∀ ns:List Int,PyData.depthAll (ns.map PyData.int)≤1
 | []=>by simp [PyData.depthAll]
 | n::ns=>by
  simp only [List.map_cons,PyData.depthAll,PyData.depth]
  have:=fQ ns
  omega
def GJ (K:Frag):List V→Hp→VK→Prop:=fun vs H Q=>∃ (a:Addr) (n:Int) (ms:List Int),vs=[V.ref a]∧SqT K H a ((n::ms).map V.int)∧Q (.int (ms.foldl min n)) H
open PySem.W in
theorem zr (c:X.calm=true) (e:X.A.units+60<cLine):CallR X (.builtin "min") (GJ X.K):=by
 intro pins s σ H vs us Q I r h
 obtain ⟨a,n,ms,rfl,hs,q⟩:=h
 rw [Vals.ref1 r]
 obtain ⟨its,d,ht,_⟩:=I.tuple hs
 have rd:=ints_readAll s.heap (xs:=n::ms) d.ints
 have dp:=fQ (n::ms)
 refine min_tuple_data (I.ok.hd c) ht (by simpa using rd) (i5 (n::ms)) (by simp only [List.map_cons] at dp;omega) (fun i v h' tk bs hi b hk=>?_)
 rw [minD_ints] at b
 cases b with
 | int=>exact ⟨.int _,H,I.kept hk,⟨_,rfl⟩,q⟩
theorem gM {i:Int} (h:aU i=true):i.natAbs.log2<1920:=by
 have a:i.natAbs≤4611686018427387904:=by
  cases i with
  | ofNat n=>rw [show aU (Int.ofNat n)=Nat.ble n 4611686018427387903 from rfl,Nat.ble_eq] at h;simp only [Int.ofNat_eq_natCast,Int.natAbs_natCast];omega
  | negSucc n=>rw [show aU (Int.negSucc n)=Nat.ble n 4611686018427387903 from rfl,Nat.ble_eq] at h;simp only [Int.natAbs_negSucc];omega
 by_cases h0:i.natAbs=0
 ·rw [h0];decide
 ·have:i.natAbs.log2<63:=(Nat.log2_lt h0).mpr (by omega)
  omega
theorem kM {K:Frag}:∀ ys:List Str,RpL K F (ys.map V.str) (ys.map D.str)
 | []=>.nil
 | y::ys=>.cons (.str y) (kM ys)
theorem hE {K:Frag}:∀ {vs:List V} {ds:List D} {ys:List Str},RpL K F vs ds→strsOf ds=some ys→vs=ys.map V.str
 | _,_,_,.nil,e=>by cases e;rfl
 | _,_,_,.cons (d:=d) h t,e=>by
  cases d<;>simp only [strsOf] at e<;>try cases e
  rw [Option.map_eq_some_iff] at e
  obtain ⟨l,a,b⟩:=e
  subst b
  cases h
  rw [hE t a]
  rfl
theorem dI:∀ {ds:List D} {ys:List Str},strsOf ds=some ys→fzs ds=true
 | [],_,_=>rfl
 | d::ds,ys,e=>by
  cases d<;>simp only [strsOf] at e<;>try cases e
  rw [Option.map_eq_some_iff] at e
  obtain ⟨l,a,b⟩:=e
  simp only [fzs,D.fz,dI a,Bool.and_self]
theorem iT:∀ (l:List Nat) (us:List Value),l.length=us.length→(∀ (j:Nat) (v:Value),us[j]?=some v→∃ (c:Nat) (t:Tok),l[j]?=some c∧v=Value.str ⟨#[c]⟩ t)→Vals (l.map fun c=>V.str ⟨#[c]⟩) us
 | [],[],_,_=>.nil
 | [],_::_,h,_=>by cases h
 | _::_,[],h,_=>by cases h
 | c::l,u::us,h,g=>by
  obtain ⟨i,t,a,b⟩:=g 0 u rfl
  cases a
  exact .cons ⟨t,b⟩ (iT l us (by simpa using h) fun j v e=>by
   obtain ⟨c2,t2,d,f⟩:=g (j+1) v (by simpa using e)
   exact ⟨c2,t2,by simpa using d,f⟩)
theorem wG {K:Frag} (z:Str):RpL K F (z.cps.toList.map fun c=>V.str ⟨#[c]⟩) (fZ z):=by
 unfold fZ
 generalize z.cps.toList=l
 induction l with
 | nil=>exact .nil
 | cons c l ih=>exact .cons (.str _) ih
theorem iN (d:X.calm=true):CallR X (.type "list") (fun vs H Q=>∃ z:Str,vs=[.str z]∧z.cps.size≤sizeLine∧∀ l,H l=none→Q (.ref l) (upd H l (.lst (z.cps.toList.map fun c=>V.str ⟨#[c]⟩)))):=by
 intro pins s σ H xs us Q I r h
 obtain ⟨z,rfl,b,q⟩:=h
 obtain ⟨u,rfl,t,rfl⟩:=vals1 r
 refine call_list_str (I.ok.hd d) z t (fun h' tk a f kp e it=>?_) b
 obtain ⟨hs,hi⟩:=it
 have g:Vals (z.cps.toList.map fun c=>V.str ⟨#[c]⟩) a.toList:=iT _ _ (by rw [Array.length_toList,Array.length_toList,hs]) fun j v i=>by
  obtain ⟨c,u,k,m⟩:=hi j v (by rw [← Array.getElem?_toList];exact i)
  exact ⟨c,u,by rw [Array.getElem?_toList];exact k,m⟩
 exact ⟨.ref s.heap.objs.size,_,I.laid (t':=tk) kp (Nat.le_refl _) (show ObjOk X.prog X.w _ h' _ (.lst _) from ⟨by rw [List.length_map,Array.length_toList];exact b,a.toList,f,g,by simpa using e⟩),rfl,q _ (I.hok.fresh (Nat.le_refl _))⟩
theorem CH {b:Bi} {ds:List D} {d:D} {xs:List V} {Q:VK} (O:X.A.units+65<cLine) (t:X.calm=true) (s:Same F H) (nb:b.pl=true) (e:biD b ds=some d) (j:VwL X.K F H xs ds) (g:Goes X F H d Q):cW X (biV b) xs H Q:=by
 unfold biD at e
 split at e
 ·cases e
  obtain ⟨x,rfl,f⟩:=j.one
  obtain ⟨a,vs,rfl,h,l,_⟩:=f.lst s
  exact bG call_len_seq ⟨a,vs,rfl,.inl (SqL.of h),by rw [l];exact g.atom s (.int _)⟩
 ·cases e
  obtain ⟨x,rfl,f⟩:=j.one
  obtain ⟨a,vs,rfl,h,r⟩:=f.tup
  exact bG call_len_seq ⟨a,vs,rfl,.inr (af s h),by rw [r.length];exact g.atom s (.int _)⟩
 ·split at e
  ·rename_i c
   cases e
   simp only [decide_eq_true_eq] at c
   obtain ⟨x,rfl,f⟩:=j.one
   cases f.str
   exact bG call_len_str ⟨_,rfl,Nat.le_trans c aJ,g.atom s (.int _)⟩
  ·cases e
 ·cases e
  obtain ⟨x,rfl,f⟩:=j.one
  cases f.int
  exact bG call_abs ⟨_,rfl,g.atom s (.int _)⟩
 ·cases e
  obtain ⟨x,y,rfl,f,w⟩:=j.two
  cases f.int;cases w.int
  exact bG (call_min2 t) ⟨_,_,rfl,g.atom s (.int _)⟩
 ·cases e
  obtain ⟨x,y,rfl,f,w⟩:=j.two
  cases f.int;cases w.int
  exact bG (call_max2 t) ⟨_,_,rfl,g.atom s (.int _)⟩
 ·split at e
  ·rename_i n ns i
   cases e
   obtain ⟨x,rfl,f⟩:=j.one
   obtain ⟨a,rfl,h⟩:=f.ints s i
   refine bG (cr_min t) ⟨a,n::ns,rfl,SqL.of h,by simp,fun m u v=>?_⟩
   obtain ⟨B,C⟩:=md ns n
   have:m=qS n ns:=Int.le_antisymm (v _ B) (C _ u)
   rw [this]
   exact g.atom s (.int _)
  ·cases e
 ·split at e
  ·rename_i n ns i
   cases e
   obtain ⟨x,rfl,f⟩:=j.one
   obtain ⟨a,vs,rfl,h,r⟩:=f.tup
   obtain ⟨rfl,_⟩:=r.ints i
   refine bG (zr t (by omega)) ⟨a,n,ns,rfl,af s h,?_⟩
   rw [foldl_min]
   exact g.atom s (.int _)
  ·cases e
 ·split at e
  ·rename_i n ns i
   cases e
   obtain ⟨x,rfl,f⟩:=j.one
   obtain ⟨a,rfl,h⟩:=f.ints s i
   refine bG (cr_max t) ⟨a,n::ns,rfl,SqL.of h,by simp,fun m u v=>?_⟩
   obtain ⟨B,C⟩:=mz ns n
   have:m=qu n ns:=Int.le_antisymm (C _ u) (v _ B)
   rw [this]
   exact g.atom s (.int _)
  ·cases e
 ·exact absurd nb (by decide)
 ·split at e
  ·rename_i ns i
   cases e
   obtain ⟨x,rfl,f⟩:=j.one
   obtain ⟨a,rfl,h⟩:=f.ints s i
   exact bG (cr_sum t) ⟨a,ns,rfl,SqL.of h,g.atom s (.int _)⟩
  ·cases e
 ·split at e
  ·rename_i ns i
   cases e
   obtain ⟨x,rfl,f⟩:=j.one
   obtain ⟨a,vs,rfl,h,r⟩:=f.tup
   obtain ⟨rfl,_⟩:=r.ints i
   exact bG (zO t) ⟨a,ns,rfl,af s h,g.atom s (.int _)⟩
  ·cases e
 ·cases e
  obtain ⟨x,rfl,f⟩:=j.one
  cases f.int
  exact bG call_int1 (.inl ⟨_,rfl,g.atom s (.int _)⟩)
 ·cases e
  obtain ⟨x,rfl,f⟩:=j.one
  cases f.bl
  exact bG call_int1 (.inr ⟨_,rfl,g.atom s (.int _)⟩)
 ·split at e
  ·rename_i c
   obtain ⟨x,rfl,f⟩:=j.one
   cases f.str
   rw [Option.map_eq_some_iff] at e
   obtain ⟨n,i,z⟩:=e
   subst z
   exact bG call_int_str ⟨_,n,rfl,i,of_decide_eq_true c,g.atom s (.int _)⟩
  ·cases e
 ·split at e
  ·rename_i c
   cases e
   simp only [decide_eq_true_eq] at c
   obtain ⟨x,rfl,f⟩:=j.one
   cases f.str
   exact bG (iN t) ⟨_,rfl,Nat.le_trans c aJ,fun p k=>g.list s k (wG _)⟩
  ·cases e
 ·cases e
  obtain ⟨x,rfl,f⟩:=j.one
  obtain ⟨a,ob,L,rfl,h,ks,rfl,_⟩:=f.dtk s
  exact bG (Dt.wZ t) ⟨a,ob,L,rfl,h,fun p k=>g.list s k (ni ks)⟩
 ·rename_i d0 _ _
  obtain ⟨x,rfl,f⟩:=j.one
  rw [Option.map_eq_some_iff] at e
  obtain ⟨ys,i,z⟩:=e
  subst z
  cases d0 with
  | tup zs =>
   simp only [items,Option.some.injEq] at i
   subst i
   obtain ⟨a,vs,rfl,h,r⟩:=f.tup
   exact bG call_list_of ⟨a,vs,rfl,.inr (af s h),fun p k=>g.list s k r⟩
  | lst o zs =>
   simp only [items] at i
   split at i
   ·rename_i c
    cases i
    obtain ⟨a,vs,rfl,h,l,r⟩:=f.lst s
    exact bG call_list_of ⟨a,vs,rfl,.inl (SqL.of h),fun p k=>g.list s k (r c)⟩
   ·cases i
  | _=>simp [items] at i
 ·rename_i d0
  obtain ⟨x,rfl,f⟩:=j.one
  rw [Option.map_eq_some_iff] at e
  obtain ⟨ys,i,z⟩:=e
  subst z
  cases d0 with
  | tup zs =>
   simp only [items,Option.some.injEq] at i
   subst i
   obtain ⟨a,vs,rfl,h,r⟩:=f.tup
   exact bG call_tuple_of ⟨a,vs,rfl,.inr ⟨af s h,g.atom s (.tup h r)⟩⟩
  | lst o zs =>
   simp only [items] at i
   split at i
   ·rename_i c
    cases i
    obtain ⟨a,vs,rfl,h,l,r⟩:=f.lst s
    exact bG call_tuple_of ⟨a,vs,rfl,.inl ⟨SqL.of h,fun p k=>g.tuple s k (r c)⟩⟩
   ·cases i
  | _=>simp [items] at i
 ·split at e
  ·rename_i ns i
   cases e
   obtain ⟨x,rfl,f⟩:=j.one
   obtain ⟨a,rfl,h⟩:=f.ints s i
   refine bG cr_sortedI ⟨a,ns,rfl,SqL.of h,fun G p u v k=>?_⟩
   rw [jm u v]
   exact g.list s k (di _)
  ·split at e
   ·rename_i ps ep
    cases e
    obtain ⟨x,rfl,f⟩:=j.one
    obtain ⟨a,vs,rfl,h,_,r⟩:=f.lst s
    cases oE ep
    obtain ⟨ts,rfl,k2,k3⟩:=yE (r (yu ps))
    refine bG sU ⟨a,ts,rfl,SqL.of h,fun p k=>af s (k3 p k),fun J p pm I k=>?_⟩
    refine g.list s k (x7 (fun x f=>k3 x (pm.mem_iff.mp f)) (wY ?_ (List.pairwise_map.mpr I)))
    rw [← k2]
    exact pm.map Prod.snd
   ·split at e
    ·rename_i ss es
     split at e
     ·rename_i c
      cases e
      obtain ⟨x,rfl,f⟩:=j.one
      obtain ⟨a,vs,rfl,h,ln,r⟩:=f.lst s
      obtain rfl:=hE (r (dI es)) es
      have c:=Nat.ble_eq.mp c
      refine bG cr_sortedS ⟨a,ss,rfl,SqL.of h,by rw [List.length_map] at ln;omega,fun ys p pm M k=>?_⟩
      rw [Sb.oI pm M]
      exact g.list s k (kM _)
     ·cases e
    ·cases e
 ·split at e
  ·rename_i c
   cases e
   obtain ⟨x,rfl,f⟩:=j.one
   obtain ⟨a,ob,L,rfl,h,ks,rfl,_⟩:=f.dtk s
   obtain ⟨n,_,few,hn,bd⟩:=lZ c
   have ln:(Dt.cF L).length=L.length:=List.length_map ..
   rw [ln] at few hn
   refine bG (Dt.xW t) ⟨a,ob,L,n,64,rfl,h,aD s ks,few,hn,fun p k=>bd _ (List.mem_map.mpr ⟨p,k,rfl⟩),fun L' p pm I k=>?_⟩
   have r:=ni (L:=L') fun q N=>ks q (pm.mem_iff.mp N)
   rw [show Dt.cF L'=fE (Dt.cF L) from qB c (pm.map fun p:Dt.Row=>p.2.1) (List.pairwise_map.mpr I)] at r
   exact g.list s k r
  ·cases e
 ·split at e
  ·rename_i ns i
   cases e
   obtain ⟨x,rfl,f⟩:=j.one
   obtain ⟨a,vs,rfl,h,r⟩:=f.tup
   obtain ⟨rfl,_⟩:=r.ints i
   refine bG qp ⟨a,ns,rfl,af s h,fun G p u v k=>?_⟩
   rw [jm u v]
   exact g.list s k (di _)
  ·cases e
 ·split at e
  ·rename_i ns i
   cases e
   obtain ⟨x,rfl,f⟩:=j.one
   obtain ⟨a,vs,rfl,h,l,r⟩:=f.lst s
   obtain ⟨rfl,_⟩:=(r (fV i)).bools i
   exact bG (cr_all t) ⟨a,ns,rfl,SqL.of h,g.atom s (.bl _)⟩
  ·cases e
 ·split at e
  ·rename_i ns i
   cases e
   obtain ⟨x,rfl,f⟩:=j.one
   obtain ⟨a,vs,rfl,h,l,r⟩:=f.lst s
   obtain ⟨rfl,_⟩:=(r (fV i)).bools i
   exact bG (cr_any t) ⟨a,ns,rfl,SqL.of h,g.atom s (.bl _)⟩
  ·cases e
 ·split at e
  ·rename_i c
   cases e
   simp only [Bool.and_eq_true,decide_eq_true_eq] at c
   obtain ⟨x,y,rfl,f,w⟩:=j.two
   cases f.int;cases w.int
   exact bG call_divmod ⟨_,_,rfl,⟨c.1,c.2⟩,fun p k=>g.tuple s k (.cons (.int _) (.cons (.int _) .nil))⟩
  ·cases e
 iterate 7(·exact absurd nb (by decide))
 ·split at e
  ·rename_i c
   cases e
   obtain ⟨x,rfl,f⟩:=j.one
   cases f.int
   exact bG call_str_int ⟨_,rfl,gM c,g.atom s (.str _)⟩
  ·cases e
 ·cases e
  obtain ⟨x,rfl,f⟩:=j.one
  cases f.str
  exact bG SkE.call_str_str ⟨_,rfl,g.atom s (.str _)⟩
 iterate 3(·exact absurd nb (by simp [Bi.pl]))
 ·cases e
end
end Ev
namespace Ev
open PySem PySem.Spec PyProof.Rows L2
section
variable {X:Cx} {F H:Hp}
def bQ (X:Cx):List Expr→TA
 | []=>fun _ H Q=>Q [] H
 | e::es=>fun σ H Q=>tW X e σ H fun x H1=>bQ X es σ H1 fun xs H2=>Q (x::xs) H2
def noStar:List Expr→Bool
 | []=>true
 | .Starred _ _::_=>false
 | _::es=>noStar es
theorem aj {e:Expr} {es:List Expr} (env:Env) (h:noStar (e::es)=true):starEach (e::es) env=(false,eval e env)::starEach es env:=by
 cases e<;>first | rfl | simp [noStar] at h
theorem ak {e:Expr} {es:List Expr} (h:noStar (e::es)=true):noStar es=true:=by
 cases e<;>first | exact h | simp [noStar] at h
theorem aw:∀ {es:List Expr},noStar es=true→PA X es (bQ X es)
 | [],_=>pa_nil
 | e::es,h=>pa_cons ao (aw (ak h)) (aj X.env h)
theorem aq:∀ {es:List Expr} (env:Env) (pos:Pos),noStar es=true→(backTo pos (starEach es env)).any (·.1)=false
 | [],_,_,_=>rfl
 | e::es,env,pos,h=>by
  rw [aj env h]
  have ih:=aq (es:=es) env pos (ak h)
  unfold backTo at ih ⊢
  rw [List.map_cons,List.any_cons,ih]<;>rfl
theorem CM (n:Nat) (i:Int):L2.ixN n i=Ev.ixN n i:=rfl
theorem uU {α:Type} {xs:List α} {k:Int} {j:Nat} {v:α} (h:Ev.ixN xs.length k=some j) (g:xs[j]?=some v):atI xs k=some v:=by
 unfold atI
 rw [CM,h]
 exact g
theorem Vw.kid {K:Frag} {x:V} {o:Bool} {xs:List D} {j:Nat} {y:D} (s:Same F H) (h:Vw K F H x (.lst o xs)) (g:xs[j]?=some y):∃ a vs v,x=.ref a∧H a=some (.lst vs)∧vs.length=xs.length∧vs[j]?=some v∧Vw K F H v y:=by
 obtain ⟨W,h⟩:=h
 cases h with
 | frz r =>
  cases r with
  | lst h l =>
   obtain ⟨v,g1,g2⟩:=l.get g
   exact ⟨_,_,v,rfl,s _ _ h,l.length,g1,No,.frz g2⟩
 | own c d e b f i =>
  obtain ⟨v,U,g1,g2,_⟩:=b.get g
  exact ⟨_,_,v,rfl,c,b.length,g1,U,g2⟩
theorem qe {x:V} {a:Addr} {vs:List V} {k:Int} {j:Nat} {v:V} {Q:VK} (h:H a=some (.lst vs)) (e:Ev.ixN vs.length k=some j) (g:vs[j]?=some v) (q:Q v H):rIx X.K (.ref a) (.int k) H Q :=
 .inl ⟨a,vs,k,v,rfl,rfl,SqL.of h,uU e g,q⟩
theorem qV {x:V} {a:Addr} {vs:List V} {k:Int} {j:Nat} {v:V} {Q:VK} (h:SqT X.K H a vs) (e:Ev.ixN vs.length k=some j) (g:vs[j]?=some v) (q:Q v H):rIx X.K (.ref a) (.int k) H Q :=
 .inr (.inl ⟨a,vs,k,v,rfl,rfl,h,uU e g,q⟩)
def isSlice:Expr→Bool
 | .Slice _ _ _ _=>true
 | _=>false
theorem j4 {b:Expr} (h:isSlice b=false):PlainIx b:=fun o i=>by
 cases b<;>first | rfl | simp [isSlice] at h
theorem ya (n d:Nat) (o:Option Int):HT.sIx n d o=Ev.sIx n d o:=by
 cases o with
 | none=>rfl
 | some v =>
  show (if v<0 then (v+(n:Int)).toNat else min v.toNat n)=(if v<0 then max (v+(n:Int)) 0 else min v (n:Int)).toNat
  split<;>omega
theorem ue {K:Frag} {vs:List V} {ds:List D} (r:RpL K F vs ds) (lo hi:Option Int):RpL K F (cutV vs lo hi) (cutD ds lo hi):=by
 unfold cutV cutD
 rw [r.length,ya,ya]
 exact (r.drop _).take _
def EI (K:Frag):V→Option Int→Option Int→Hp→VK→Prop:=fun x lo hi H Q=>(rSlL K x lo hi H Q∨L2.rSlA K x lo hi H Q)∨rSlS x lo hi H Q
theorem oZ:SlR X (EI X.K):=(sl_list.or sl_tupA).or sl_str
theorem tP {vs:List V} {lo hi:Option Int} (h:HT.sIx vs.length 0 lo=0∧HT.sIx vs.length vs.length hi=vs.length):cutV vs lo hi=vs:=by
 unfold cutV
 rw [h.1,h.2]
 simp
theorem DX {d r:D} {x:V} {lo hi:Option Int} {Q:VK} (s:Same F H) (e:slD d lo hi=some r) (h:Vw X.K F H x d) (g:Goes X F H r Q):EI X.K x lo hi H Q:=by
 unfold slD at e
 split at e
 ·split at e
  ·rename_i c
   cases e
   obtain ⟨a,vs,rfl,b,l,q⟩:=h.lst s
   exact .inl (.inl ⟨a,vs,rfl,SqL.of b,fun p f=>g.list s f (ue (q c) lo hi)⟩)
  ·cases e
 ·cases e
  obtain ⟨a,vs,rfl,b,q⟩:=h.tup
  have i:=ue q lo hi
  refine .inl (.inr ⟨a,vs,rfl,af s b,fun w=>?_,fun _ p f=>g.tuple s f i⟩)
  rw [tP w] at i
  exact g.atom s (.tup b i)
 ·cases e
  obtain ⟨a,rfl,b⟩:=h.scr
  exact .inl (.inl ⟨a,_,rfl,s.seq b,fun p f=>g.list s f (ue (di _) lo hi)⟩)
 ·split at e
  ·rename_i c
   cases e
   cases h.str
   exact .inr ⟨_,rfl,Nat.le_trans (of_decide_eq_true c) aJ,g.atom s (.str _)⟩
  ·cases e
 ·cases e
def tyN:Ty→String
 | .bool=>"bool" | .int=>"int" | .str=>"str" | .list=>"list" | .tuple=>"tuple" | .dict=>"dict"
def qK:D→String
 | .non=>"NoneType" | .bl _=>"bool" | .int _=>"int" | .str _=>"str" | .tup _=>"tuple" | .lst _ _=>"list" | .scr _=>"list" | .obj _ _=>"object" | .exc _ _ _=>"object" | .mob _ _=>"object" | .dct _ _ _=>"dict" | .dtk _ _ _=>"dict" | .cls _=>"object" | .tpn _=>"object"
theorem yQ:∀ t:Ty,kitB "NoneType" (tyN t)=some (eR .non t)∧kitB "bool" (tyN t)=some (eR (.bl true) t)∧kitB "int" (tyN t)=some (eR (.int 0) t) ∧
  kitB "str" (tyN t)=some (eR (.str Str.empty) t)∧kitB "tuple" (tyN t)=some (eR (.tup []) t)∧kitB "list" (tyN t)=some (eR (.lst true []) t)
 | .bool=>by decide +kernel
 | .int=>by decide +kernel
 | .str=>by decide +kernel
 | .list=>by decide +kernel
 | .tuple=>by decide +kernel
 | .dict=>by decide +kernel
theorem sY (K:Frag) (d:D) (no:isObj d=false) (t:Ty):PySem.W.kitOne K (.type (qK d)) (.type (tyN t))=some (eR d t):=by
 obtain ⟨c,e,f,g,h,a⟩:=yQ t
 cases d with
 | non=>exact kit_ty c
 | bl b=>exact (kit_ty e).trans (by cases t<;>rfl)
 | int b=>exact (kit_ty f).trans (by cases t<;>rfl)
 | str b=>exact (kit_ty g).trans (by cases t<;>rfl)
 | tup b=>exact (kit_ty h).trans (by cases t<;>rfl)
 | lst o b=>exact (kit_ty a).trans (by cases t<;>rfl)
 | scr b=>exact (kit_ty a).trans (by cases t<;>rfl)
 | obj cn xs=>simp [isObj] at no
 | exc cn nms xs=>simp [isObj] at no
 | mob cn xs=>simp [isObj] at no
 | dct o ks xs=>simp [isObj] at no
 | dtk o ks xs=>simp [isObj] at no
 | cls cn=>simp [isObj] at no
 | tpn xs=>simp [isObj] at no
theorem sD (K:Frag) (d:D) (no:isObj d=false):∀ ts:List Ty,PySem.W.kitAny K (.type (qK d)) (ts.map fun t=>Value.type (tyN t))=some (ts.any (eR d))
 | []=>rfl
 | t::ts=>by
  rw [List.map_cons,List.any_cons]
  unfold PySem.W.kitAny
  rw [sY K d no t]
  cases eR d t with
  | true=>rfl
  | false=>exact sD K d no ts
theorem DI {K:Frag} {x:V} {d:D} (s:Same F H) (h:Vw K F H x d) (no:isObj d=false) (f:∀ ds,d=.tup ds→∃ a vs,x=.ref a∧(H a=some (.tup vs)∨(∃ o,H a=some (.frz o (.tup vs)))∨∃ o,K.lookup a=some o∧o.cls=.type "tuple")):TyX K H x (.type (qK d)):=by
 cases d with
 | non=>cases h.non;exact .base .non
 | bl b=>cases h.bl;exact .base (.bl b)
 | int b=>cases h.int;exact .base (.int b)
 | str b=>cases h.str;exact .base (.str b)
 | lst o ds =>
  obtain ⟨a,vs,rfl,c,_⟩:=h.lst s
  exact .base (.lst c)
 | tup ds =>
  obtain ⟨a,vs,rfl,q⟩:=f ds rfl
  rcases q with q | ⟨o,q⟩ | ⟨o,e,g⟩
  ·exact .base (.tup q)
  ·exact .fTuple q
  ·exact .kTuple e g
 | obj cn xs=>simp [isObj] at no
 | exc cn nms xs=>simp [isObj] at no
 | mob cn xs=>simp [isObj] at no
 | dct o ks xs=>simp [isObj] at no
 | dtk o ks xs=>simp [isObj] at no
 | cls cn=>simp [isObj] at no
 | tpn xs=>simp [isObj] at no
 | scr ns =>
  obtain ⟨a,rfl,c⟩:=h.scr
  rcases c with (c | ⟨o,c⟩) | ⟨o,its,n,c,i,_⟩
  ·exact .base (.lst (s _ _ c))
  ·exact .base (.frz (s _ _ c))
  ·exact .kList c i
theorem Aa {K:Frag} {x:V} {d:D} (s:Same F H) (h:Vw K F H x d) (no:isObj d=false):TyX K H x (.type (qK d)):=by
 refine DI s h no fun ds e=>?_
 subst e
 obtain ⟨a,vs,rfl,b,_⟩:=h.tup
 rcases b with (b | ⟨o,b⟩) | ⟨o,its,n,b,c,_⟩
 ·exact ⟨a,vs,rfl,.inl (s _ _ b)⟩
 ·exact ⟨a,vs,rfl,.inr (.inl ⟨o,s _ _ b⟩)⟩
 ·exact ⟨a,vs,rfl,.inr (.inr ⟨o,b,c⟩)⟩
theorem mH:∀ ts:List Ty,Paired ClsV (ts.map fun t=>V.ty (tyN t)) (ts.map fun t=>Value.type (tyN t))
 | []=>.nil
 | t::ts=>.cons (.ty _) (mH ts)
theorem Ah {x:V} {d:D} {t:Ty} {Q:VK} (s:Same F H) (h:Vw X.K F H x d) (no:isObj d=false) (q:Q (.bl (eR d t)) H):cW X (.builtin "isinstance") [x,.ty (tyN t)] H Q :=
 bG call_isi ⟨x,.ty (tyN t),_,_,_,rfl,.ty _,Aa s h no,sY X.K d no t,q⟩
theorem xu {x:V} {d:D} {ts:List Ty} {p:Addr} {Q:VK} (s:Same F H) (h:Vw X.K F H x d) (no:isObj d=false) (a:H p=some (.tup (ts.map fun t=>V.ty (tyN t)))) (q:Q (.bl (ts.any (eR d))) H):cW X (.builtin "isinstance") [x,.ref p] H Q :=
 bG call_isiT ⟨x,p,_,_,_,_,rfl,a,mH ts,Aa s h no,sD X.K d no ts,q⟩
theorem iW {K:Frag} {x:V} {d:D} {b:Bool} (s:Same F H) (h:Vw K F H x d) (e:fK d=some b):TruV K x H b:=by
 cases d with
 | non=>cases h.non;cases e;exact rfl
 | bl i=>cases h.bl;cases e;exact rfl
 | int i=>cases h.int;cases e;exact rfl
 | str i =>
  cases h.str
  simp only [fK] at e
  split at e
  ·rename_i c
   cases e
   simp only [decide_eq_true_eq] at c
   exact ⟨Nat.le_trans c aJ,rfl⟩
  ·cases e
 | lst o ds =>
  obtain ⟨a,vs,rfl,f,l,_⟩:=h.lst s
  cases e
  refine .inl ⟨vs,SqL.of f,?_⟩
  cases vs<;>cases ds<;>simp at l ⊢
 | tup ds =>
  obtain ⟨a,vs,rfl,f,r⟩:=h.tup
  cases e
  refine .inr (.inl ⟨vs,af s f,?_⟩)
  cases r<;>rfl
 | scr ns=>simp [fK] at e
 | obj cn xs=>simp [fK] at e
 | exc cn nms xs=>simp [fK] at e
 | mob cn xs=>simp [fK] at e
 | dct o ks xs=>simp [fK] at e
 | dtk o ks xs=>simp [fK] at e
 | cls cn=>simp [fK] at e
 | tpn xs=>simp [fK] at e
def meN:Me→String
 | .append=>"list.append" | .pop=>"list.pop" | .popAt=>"list.pop" | .extend=>"list.extend" | .remove=>"list.remove" | .index=>"list.index" | .reverse=>"list.reverse"
def mW (X:Cx) (id:String):V→List V→Hp→VK→Prop:=fun x xs H Q=>∀ pins s σ v us,Inv X pins σ H s→RelV x v→Vals xs us→wpAny (model X.prog X.w) X.A (call (.builtin id) (v::us)) (EP X pins σ Q) X.xe s
theorem Dh {id:String}:MtR X id (mW X id):=fun pins s σ H x xs v us Q I a rs q=>q pins s σ v us I a rs
theorem qd {id:String} {r:V→List V→Hp→VK→Prop} {x:V} {xs:List V} {Q:VK} (h:MtM X id r) (q:r x xs H Q):mW X id x xs H Q:=fun pins s σ v us I a rs=>h pins s σ H x xs v us Q I a rs q
theorem OwL.append {K:Frag}:∀ {vs ws:List V} {ds es:List D} {W U Z:Fp},OwL K F H vs ds W→OwL K F H ws es U→Dj W U→(∀ b,W b→Z b)→(∀ b,U b→Z b)→OwL K F H (vs++ws) (ds++es) Z
 | _,_,_,_,_,_,_,.nil,q,_,_,s=>q.weak s
 | _,_,_,_,W,U,Z,.cons (W1:=W1) (W2:=W2) d e f a c,q,dj,s1,s2=>by
  refine .cons (W1:=W1) (W2:=Un2 W2 U) d (OwL.append e q (fun b z=>dj b (c b z)) (fun b z=>.inl z) fun b z=>.inr z) (fun b z t=>?_) (fun b z=>s1 b (a b z)) fun b z=>?_
  ·rcases t with t | t
   ·exact f b z t
   ·exact dj b (a b z) t
  ·rcases z with z | z
   ·exact s1 b (c b z)
   ·exact s2 b z
theorem OwL.erase {K:Frag}:∀ {vs:List V} {ds:List D} {W:Fp} (k:Nat),OwL K F H vs ds W→OwL K F H (vs.eraseIdx k) (ds.eraseIdx k) W
 | _,_,_,_,.nil=>by simpa using OwL.nil
 | _,_,_,0,.cons c a d e b=>by simpa using a.weak b
 | _,_,_,k+1,.cons c a d e b=>by simpa using OwL.cons c (OwL.erase k a) d e b
theorem cS {α:Type}:∀ l:List α,l.dropLast=l.eraseIdx (l.length-1)
 | []=>rfl
 | [x]=>rfl
 | x::y::l=>by
  have:=cS (y::l)
  simp only [List.dropLast_cons₂,List.length_cons] at this ⊢
  rw [this]
  rfl
theorem bU {i:Int} (h:aU i=true):-(2 ^ 62)≤i∧i<2 ^ 62:=by
 rw [i6] at h
 simp only [Bool.and_eq_true,decide_eq_true_eq] at h
 omega
theorem CJ {n:Nat} {i:Int} {k:Nat} (h:Ev.ixN n i=some k):seqIndex? i n=some k∧k<n:=by
 have:=ixN_seq (show L2.ixN n i=some k from h)
 exact ⟨this.1,this.2.1⟩
theorem g9 (i:Int):∀ {ns:List Int} {j:Nat},zg i ns=some j→ns[j]?=some i∧∀ m:Nat,m<j→ns[m]?≠some i
 | [],j,e=>by simp [zg] at e
 | x::xs,j,e=>by
  unfold zg at e
  split at e
  ·rename_i c
   cases e
   exact ⟨by simp [c],fun m h=>absurd h (Nat.not_lt_zero m)⟩
  ·rename_i c
   split at e
   ·rename_i k a
    cases e
    obtain ⟨b,d⟩:=g9 i a
    refine ⟨by simpa using b,fun m h=>?_⟩
    cases m with
    | zero=>simpa using c
    | succ m=>simpa using d m (by omega)
   ·cases e
theorem OwL.reverse {K:Frag} {F H:Hp}:∀ {vs:List V} {ds:List D} {U:Fp},OwL K F H vs ds U→OwL K F H vs.reverse ds.reverse U
 | _,_,_,.nil=>.nil
 | _,_,_,.cons a c d e f=>by
  rw [List.reverse_cons,List.reverse_cons]
  exact OwL.append c.reverse (.cons (W2:=No) a .nil (fun _ _ q=>q) (fun _ q=>q) fun _ q=>q.elim) (fun b q r=>d b r q) f e
theorem meth_ok {m:Me} {xs ds:List D} {r d':D} {a:Addr} {vs ws:List V} {U Wt:Fp} {Q:VK} (s:Same F H) (e:uA m (.lst true xs) ds=some (r,d')) (ha:H a=some (.lst vs)) (o:OwL X.K F H vs xs U) (t:OwL X.K F H ws ds Wt) (dj:Dj U Wt)
  (g:∀ l vs' ds',d'=.lst true ds'→Rp X.K F l r→OwL X.K F H vs' ds' (Un2 U Wt)→Q l (upd H a (.lst vs'))):mW X (meN m) (.ref a) ws H Q:=by
 have h:=o.length
 unfold uA at e
 split at e
 ·rename_i d d0 h0
  split at e
  ·rename_i c
   cases e
   cases h0
   simp only [decide_eq_true_eq] at c
   cases t with
   | cons t1 t2 t3 f t5 =>
    cases t2
    have:=aJ
    refine qd mt_append ⟨a,vs,_,rfl,rfl,ha,by omega,g .non _ _ rfl .non (o.append (.cons t1 .nil t3 f t5) dj (fun b z=>.inl z) fun b z=>.inr z)⟩
  ·cases e
 ·rename_i d h0
  split at e
  ·rename_i y n p
   split at e
   ·rename_i c
    cases e
    cases h0
    cases t
    have ex:xs=n.reverse++[r]:=by
     have:=congrArg List.reverse p
     simpa using this
    have u:xs[xs.length-1]?=some r:=by rw [ex];simp
    obtain ⟨v,w,g1,o1,_⟩:=o.get u
    have hd:n.reverse=xs.eraseIdx (xs.length-1):=by rw [← cS,ex,List.dropLast_concat]
    refine qd mt_pop ⟨a,vs,v,rfl,rfl,ha,by rw [h];exact g1,?_⟩
    rw [cS]
    refine g v _ _ rfl (o1.fz c) ?_
    rw [hd,h]
    exact (o.erase _).weak fun b z=>.inl z
   ·cases e
  ·cases e
 ·rename_i d i h0
  split at e
  ·rename_i c
   split at e
   ·rename_i k x
    split at e
    ·rename_i y B
     split at e
     ·rename_i cy
      cases e
      cases h0
      obtain ⟨v,w,g1,o1,_⟩:=o.get B
      cases t with
      | cons t1 t2 t3 f t5 =>
       cases t2
       have:=(Vw.int ⟨_,t1⟩)
       subst this
       obtain ⟨J,L⟩:=bU c
       refine qd mt_popAt ⟨a,vs,i,k,v,rfl,rfl,ha,by omega,by omega,by rw [h];exact (CJ x).1,g1,g v _ _ rfl (o1.fz cy) ((o.erase k).weak fun b z=>.inl z)⟩
     ·cases e
    ·cases e
   ·cases e
  ·cases e
 ·rename_i d o2 ys h0
  split at e
  ·rename_i c
   cases e
   cases h0
   simp only [Bool.and_eq_true,decide_eq_true_eq] at c
   cases t with
   | cons t1 t2 t3 f t5 =>
    cases t2
    obtain ⟨b,zs,rfl,C,M,rz⟩:=Vw.lst s ⟨_,t1⟩
    have:=aJ
    refine qd mt_extend ⟨a,b,vs,zs,rfl,rfl,ha,C,by omega,g .non _ _ rfl .non (o.append (.of (W:=No) (rz c.1)) (fun _ _ q=>q.elim) (fun b z=>.inl z) fun b z=>z.elim)⟩
  ·cases e
 ·rename_i d i h0
  split at e
  ·rename_i ns en
   split at e
   ·rename_i j ej
    cases e
    cases h0
    obtain ⟨rfl,N⟩:=(o.fz (cV en)).ints en
    cases t with
    | cons t1 t2 t3 f t5 =>
     cases t2
     have:=(Vw.int ⟨_,t1⟩)
     subst this
     obtain ⟨G,I⟩:=g9 i ej
     exact qd mt_remove ⟨a,ns,i,j,rfl,rfl,ha,G,I,g .non _ _ rfl .non (.of (di _))⟩
   ·cases e
  ·cases e
 ·rename_i d h0
  cases e
  cases h0
  cases t
  exact qd mt_reverse ⟨a,vs,rfl,rfl,ha,g .non _ _ rfl .non (o.reverse.weak fun b z=>.inl z)⟩
 ·cases e
end
end Ev
namespace EvTE
open PySem PySem.Spec PyProof.Rows L2
open Sem (wp)
open AutoSeq1 (wpAny_loadPart')
theorem meets_tup (tt:Addr) (ys:Array Value) (ob:Obj) :
  Meets (Builtin.«enumerate.__new__» ⟨[.type "enumerate",.ref tt],[]⟩) (fun _ R s=>s.heap.IsTuple tt ys ∧
   R (.ok (.ret (.ref (s.heap.push { cls:=.type "tuple_iterator",data:=.fields #[.ref tt,.int 0 0] }).objs.size)))
    { s with heap:=(s.heap.push { cls:=.type "tuple_iterator",data:=.fields #[.ref tt,.int 0 0] }).push { cls:=.type "enumerate",data:=.fields #[.none,.bool false,.ref s.heap.objs.size,rawInt 0,.none,.none] } }) :=
 .of_wp fun prog w A R st h=>by
  obtain ⟨f,gg,dd,tok,os⟩:=st
  obtain ⟨d,h⟩:=h
  have e:=sub_enumerate
  have a:Heap.IsTuple (Shared.heap ⟨f,gg,dd,tok,os⟩) tt ys:=d
  obtain ⟨o,b,_⟩:=id d
  wp_walk using wpAny_loadPart' b
  refine wpAny_stack_any fun k=>wpAny_pure ?_
  split
  ·rename_i c _ _ _ _ _
   cases (c==Value.type "enumerate")
   ·wp_walk using wpAny_loadPart' b,wpAny_pyIter_tuple a
    exact ⟨_,rfl,h⟩
   ·wp_walk using wpAny_loadPart' b,wpAny_pyIter_tuple a
    exact ⟨_,rfl,h⟩
  ·wp_walk using wpAny_loadPart' b,wpAny_pyIter_tuple a
   exact ⟨_,rfl,h⟩
section
variable {prog:Program} {w:World} {A:Around} {E:Value→Shared→Prop} {s:Shared}
theorem jH {tt:Addr} {ys:Array Value} {Q:Value→Shared→Prop} (c:s.heap.IsTuple tt ys)
  (h:∀ h',IsEnum h' (s.heap.objs.size+1) s.heap.objs.size 0 .none→h'.IsTupleIter s.heap.objs.size tt 0→(∀ b o,s.heap.get? b=some o→h'.get? b=some o)→Q (.ref (s.heap.objs.size+1)) { s with heap:=h' }) :
  wpAny (model prog w) A (call (.type "enumerate") [.ref tt]) Q E s:=by
 obtain ⟨ob,d,_⟩:=id c
 refine callType_new F.called_enumerate (by decide) (F.typeCall_enumerate_1 _) (F.newCall_enumerate_1 _) (fun obj=>F.args_object_init_2 obj _) F.entry_enumerate_new (meets_tup tt ys ob) ⟨c,?_⟩
 have a:(s.heap.push { cls:=.type "tuple_iterator",data:=.fields #[.ref tt,.int 0 0] }).objs.size=s.heap.objs.size+1:=Heap.size_push ..
 show _∧_
 rw [a]
 have top:IsEnum ((s.heap.push { cls:=.type "tuple_iterator",data:=.fields #[.ref tt,.int 0 0] }).push { cls:=.type "enumerate",data:=.fields #[.none,.bool false,.ref s.heap.objs.size,rawInt 0,.none,.none] }) (s.heap.objs.size+1) s.heap.objs.size 0 .none:=by
  have q:=Heap.get?_push_size (s.heap.push { cls:=.type "tuple_iterator",data:=.fields #[.ref tt,.int 0 0] }) (o:={ cls:=.type "enumerate",data:=.fields #[.none,.bool false,.ref s.heap.objs.size,rawInt 0,.none,.none] }) rfl
  rw [a] at q
  exact q
 exact ⟨⟨_,top,rfl⟩,h _ top ⟨_,Heap.get?_push_of_some _ (Heap.get?_push_size _ rfl),rfl,rfl⟩ fun b o z=>Heap.get?_push_of_some _ (Heap.get?_push_of_some _ z)⟩
end
theorem mG {prog:Program} {w:World} {A:Around} {E:Value→Shared→Prop} {s:Shared} {e it tt:Addr} {i:Nat} {ys:Array Value} {old:Value} {Q:Option Value→Shared→Prop} (hd:A.handled=none)
  (en:IsEnum s.heap e it i old) (d:s.heap.IsTupleIter it tt i) (f:s.heap.IsTuple tt ys) (g:ys[i]?=none) (h:∀ h',Heap.ExtBut it s.heap h'→Q none { s with heap:=h' }):wpAny (model prog w) A (pyNext (.ref e)) Q E s:=by
 have ty:s.TypeIs (.ref e) "enumerate" := ⟨_,en,rfl⟩
 unfold pyNext
 refine wpAny_bind (wpAny_attempt (wpAny_callSpecial?_slot (name:=Str.ofString "__next__") ty F.slot_enumerate_next (wpAny_call_entry F.slot_enumerate_next ty F.entry_enumerate_next ?_ (F.args_enumerate_next_1 _))))
 show wpAny _ _ (field (.ref e) 2 >>= _) _ _ _
 refine wpAny_bind (wpAny_field en rfl (x:=.ref it) rfl ?_)
 refine wpAny_bind (wpAny_nextOf_tuple_end (by exact hd) d f g fun h' x ext ex=>?_)
 obtain ⟨ob,a,c⟩:=ex
 exact wpAny_bind (wpAny_isInstance (T:="StopIteration") (b:=true) ⟨ob,a,c⟩ isSubtype_stop (wpAny_pure (h _ ext)))
def Ha (K:Frag) (a:Addr):It :=
 ⟨fun i H=>∃ (ws:List V) (y:V),SqT K H a ws∧ws[i]?=some y,fun i H v H'=>∃ T y,v=.ref T∧H T=none∧H'=upd H T (.tup [.int (i:Nat),y])∧∀ ws,SqT K H a ws→ws[i]?=some y,fun i H=>∃ ws:List V,SqT K H a ws∧ws.length≤i⟩
theorem qM {P:Program} {w:World} {K:Frag} {elts:List Expr} {kk:Nat} {m:Pos} (a e it:Addr) :
  Turn P w K (.Tuple elts kk m) (Ha K a) [e,it] e (fun i h=>(∃ old,IsEnum h e it ((i:Nat):Int) old)∧h.IsTupleIter it a i∧e≠it) where
 mem:=by simp
 obj:=fun i h st b d=>by
  obtain ⟨⟨old,en⟩,⟨o,F,B,hd⟩,_⟩:=st
  have:b=e∨b=it:=by simpa using d
  rcases this with z | z
  ·subst z;exact ⟨_,en,fun v q=>nomatch q⟩
  ·subst z;exact ⟨o,F,fun v q=>by rw [hd] at q;cases q⟩
 keep:=fun i h h' st k=>let ⟨⟨old,en⟩,g,ne⟩:=st;⟨⟨old,k e (by simp) _ en⟩,g.at fun o q=>k it (by simp) o q,ne⟩
 item:=by
  intro X G hw J B i pins s σ H E I hf st hg
  subst G hw J
  obtain ⟨⟨old,en⟩,g,ne⟩:=st
  obtain ⟨ws,y,C,hy⟩:=hg
  obtain ⟨its,L,p,M⟩:=I.tuple C
  obtain ⟨u,hu,ru⟩:=L.get hy
  have f:e<s.heap.objs.size:=Heap.lt_size en
  have n:it<s.heap.objs.size:=by
   obtain ⟨_,q,_⟩:=g
   exact Heap.lt_size q
  have c:s.heap.IsTuple a its.toArray:=p
  have ai:a≠it:=by
   rintro rfl
   obtain ⟨o1,e1,c1,d1⟩:=g
   obtain ⟨o2,r,N⟩:=c
   rw [e1] at r
   cases r
   obtain ⟨_,n2,d2⟩:=N
   rw [d1] at d2
   cases d2
  have ae:e≠a:=by
   rintro rfl
   obtain ⟨o2,r,N⟩:=c
   have j:s.heap.get? e=some _:=en
   rw [j] at r
   cases r
   obtain ⟨_,n2,d2⟩:=N
   cases d2
  have O:i<its.toArray.size:=by
   have:=(List.getElem?_eq_some_iff.mp hu).1
   simpa using this
  refine wpAny_pyNext_enum_itemC (Draws.tuple (A:=X.A.in1) (by exact I.ok.hd B) it a ai its.toArray) en ⟨g,c⟩ O ne (by simp [ne,ae]) fun x h' tk R F V hT hsz hk=>?_
  obtain ⟨Y,_⟩:=V
  have Z:x=u:=by
   rw [show its.toArray[i]?=some u by simpa using hu] at R
   exact (Option.some.inj R).symm
  subst Z
  refine ⟨_,rfl,wpAny_letOwnedTupleGo_enum (s:={ s with heap:=h',toks:=tk+1 }) F fun l j sb=>?_⟩
  have aa:l.get? s.heap.objs.size=some { cls:=.type "tuple",data:=.seq #[.int i tk,x] }:=(sb.2 _ (Nat.ne_of_gt f)).trans hT
  have new:ObjOk X.prog X.w (upd H s.heap.objs.size (.tup [.int (i:Nat),y])) l s.heap.objs.size (.tup [.int (i:Nat),y]) :=
   ⟨by show 2≤sizeLine;decide,[.int i tk,x],.cons ⟨_,rfl⟩ (.cons ru .nil),⟨_,aa,rfl,_,rfl⟩⟩
  have I1:Inv X pins σ (upd H s.heap.objs.size (.tup [.int (i:Nat),y])) { s with heap:=l,toks:=tk+1 } :=
   I.turnedNew (ch:=[e,it]) (fun b ob d q=>(sb.2 b (fun z=>d (by simp [z]))).trans (hk b ob (fun z=>d (by simp [z])) (fun z=>d (by simp [z])) q)) hf (Nat.le_refl _) new
  refine ⟨.ref s.heap.objs.size,_,I1,rfl,⟨_,y,rfl,I.hok.fresh (Nat.le_refl _),rfl,fun zs M=>by rw [I.tuple_inj M C];exact hy⟩,⟨⟨x,?_⟩,Y.at fun o q=>(sb.2 it (Ne.symm ne)).trans q,ne⟩,fun b d=>?_⟩
  ·rw [show ((i+1:Nat):Int)=(i:Int)+1 by omega]
   exact j
  ·have t:b<s.heap.objs.size:=by
    have:b=e∨b=it:=by simpa using d
    rcases this with z | z
    ·rw [z];exact f
    ·rw [z];exact n
   rw [upd_ne (Nat.ne_of_lt t)]
   exact (hf b d).1
 done:=by
  intro X G hw J B i pins s σ H E I hf st hg
  subst G hw J
  obtain ⟨⟨old,en⟩,g,ne⟩:=st
  obtain ⟨ws,C,R⟩:=hg
  obtain ⟨its,L,p,M⟩:=I.tuple C
  obtain ⟨f0,f1,f2,f3,f4,f5⟩:=hf it (by simp)
  have hl:=L.length
  have c:s.heap.IsTuple a its.toArray:=p
  exact mG (I.ok.hd B) en g c (by simp;omega) fun h' eb=>⟨rfl,I.turned (t':=s.toks) (fun b o d q=>eb b o d q) f0 f1 f3 f4 f5⟩
 self:=fun A i s Q E st h=>let ⟨⟨_,en⟩,_⟩:=st;wpAny_pyIter_enum en h
def DW (K:Frag) (ta:TA):TI:=fun σ H R=>ta σ H fun vs H1=>∃ a,vs=[.ref a]∧((∃ xs,SqL K H1 a xs∧R (Ite K a) H1)∨∃ xs,SqT K H1 a xs∧R (Ha K a) H1)
theorem oC {X:Cx} {e:Expr} {ta:TA} {p pos f:Pos} {elts:List Expr} {m:Nat} (hg:Gl X "enumerate") (hm:X.mg "enumerate" = none) (ha:PA X [e] ta) (hs:starEach [e] X.env=[(false,eval e X.env)]:=by rfl) :
  PI X (.Tuple elts m f) (.Call (.Name "enumerate" p) [e] [] pos) (DW X.K ta):=by
 refine ⟨fun pins s σ H R I h=>?_⟩
 refine Call_ (ld_blt I hg hm boot_enumerate (PyProof.Rows.callWith_type1 (thn (ha.run pos pins s σ H _ I h) fun us s1 ⟨vs,H1,d,g,i⟩=>?_) hs rfl))
 obtain ⟨a,ev,i⟩:=i
 subst ev
 cases g with
 | cons rv0 rest =>
  cases rest
  cases rv0
  have c:∀ b∈[s1.heap.objs.size+1,s1.heap.objs.size],FpOk X pins H1 b:=fun b n=>by
   have hle:s1.heap.objs.size≤b:=by
    rcases (show b=s1.heap.objs.size+1∨b=s1.heap.objs.size by simpa using n) with z | z
    ·rw [z];exact Nat.le_add_right _ _
    ·rw [z];exact Nat.le_refl _
   exact d.fpOk hle (d.hok.fresh hle)
  rcases i with ⟨xs,j,q⟩ | ⟨xs,j,q⟩
  ·obtain ⟨its,o,pl,r⟩:=d.list j
   refine call_enumerate_list pl.isList fun h' en k hsz hk=>wpAny_pyIter_enum en ?_
   have l:Inv X pins σ H1 { s1 with heap:=h' }:=d.kept (t':=s1.toks) hk
   exact ⟨s1.heap.objs.size+1,[s1.heap.objs.size+1,s1.heap.objs.size],_,_,H1,rfl,l,turn_enum a (s1.heap.objs.size+1) s1.heap.objs.size,⟨⟨.none,en⟩,k,Nat.succ_ne_self _⟩,c,q⟩
  ·obtain ⟨its,o,pl,r⟩:=d.tuple j
   refine jH (show s1.heap.IsTuple a its.toArray from pl) fun h' en k hk=>wpAny_pyIter_enum en ?_
   have l:Inv X pins σ H1 { s1 with heap:=h' }:=d.kept (t':=s1.toks) hk
   exact ⟨s1.heap.objs.size+1,[s1.heap.objs.size+1,s1.heap.objs.size],_,_,H1,rfl,l,qM a (s1.heap.objs.size+1) s1.heap.objs.size,⟨⟨.none,en⟩,k,Nat.succ_ne_self _⟩,c,q⟩
end EvTE
namespace Ev.Z3
open PySem PySem.Spec PyProof.Rows L2
def It3 (K:Frag) (a b c:Addr):It :=
 ⟨fun i H=>∃ (xs ys zs:List V) (x y z:V),SqT K H a xs∧SqT K H b ys∧SqT K H c zs∧xs[i]?=some x∧ys[i]?=some y∧zs[i]?=some z,
  fun i H v H'=>∃ T x y z,v=.ref T∧H T=none∧H'=upd H T (.tup [x,y,z])∧(∀ xs,SqT K H a xs→xs[i]?=some x)∧(∀ ys,SqT K H b ys→ys[i]?=some y)∧∀ zs,SqT K H c zs→zs[i]?=some z,
  fun i H=>∃ xs ys zs:List V,SqT K H a xs∧SqT K H b ys∧SqT K H c zs∧i=min (min xs.length ys.length) zs.length⟩
theorem FY {z TI q:Addr} {l:List Addr} (a:q∈z::l):q∈z::TI::l:=by
 rcases List.mem_cons.mp a with r | r
 ·rw [r];exact List.mem_cons_self ..
 ·exact List.mem_cons_of_mem _ (List.mem_cons_of_mem _ r)
theorem GH {P:Program} {w:World} {K:Frag} {elts:List Expr} {kk:Nat} {p:Pos} {a b c z TI TO i1 i2 n:Addr} (S:ZipSep3 z TI TO i1 i2 n [i1,a] [i2,b] [n,c]) (n1:a≠i1) (n2:b≠i2) (n3:c≠n) :
  Turn P w K (.Tuple elts kk p) (It3 K a b c) [z,TI,TO,i1,i2,n] z (fun i h=>IsZip h z TI TO .none∧IsTupOf3 h TI (.ref i1) (.ref i2) (.ref n)∧(∃ x y u,IsTupOf3 h TO x y u)∧h.IsTupleIter i1 a i∧h.IsTupleIter i2 b i∧h.IsTupleIter n c i) where
 mem:=by simp
 obj:=fun i h st q Y=>by
  obtain ⟨t,g,⟨x,y,u,j⟩,⟨o1,B,_,d1⟩,⟨o2,C,_,d2⟩,⟨o3,F,_,d3⟩⟩:=st
  have e':q=z∨q=TI∨q=TO∨q=i1∨q=i2∨q=n:=by simpa using Y
  rcases e' with r | r | r | r | r | r
  ·rw [r];exact ⟨_,t,fun v q=>nomatch q⟩
  ·rw [r];exact ⟨_,g,fun v q=>nomatch q⟩
  ·rw [r];exact ⟨_,j,fun v q=>nomatch q⟩
  ·rw [r];exact ⟨o1,B,fun v q=>by rw [d1] at q;cases q⟩
  ·rw [r];exact ⟨o2,C,fun v q=>by rw [d2] at q;cases q⟩
  ·rw [r];exact ⟨o3,F,fun v q=>by rw [d3] at q;cases q⟩
 keep:=fun i h h' st k=>by
  obtain ⟨t,g,⟨x,y,u,j⟩,O,R,V⟩:=st
  exact ⟨k z (by simp) _ t,k TI (by simp) _ g,⟨x,y,u,k TO (by simp) _ j⟩,O.at fun o q=>k i1 (by simp) o q,R.at fun o q=>k i2 (by simp) o q,V.at fun o q=>k n (by simp) o q⟩
 item:=by
  intro X hP hw hK Y i pins s σ H E I hf st hg
  subst hP hw hK
  obtain ⟨t,g,⟨x0,y0,u0,j⟩,O,R,V⟩:=st
  obtain ⟨xs,ys,zs,x,y,u,qx,qy,qz,hx,hy,hu⟩:=hg
  obtain ⟨d,G,p1,_⟩:=I.tuple qx
  obtain ⟨its2,J,p2,_⟩:=I.tuple qy
  obtain ⟨f,L,p3,_⟩:=I.tuple qz
  have M:X.A.in1.handled=none:=I.ok.hd Y
  have W:=WalksT.zipD3 S (Draws.tuple (prog:=X.prog) (w:=X.w) M i1 a n1 d.toArray) (Draws.tuple M i2 b n2 its2.toArray) (Draws.tuple M n c n3 f.toArray)
  obtain ⟨v1,g1,r1⟩:=G.get hx
  obtain ⟨v2,g2,r2⟩:=J.get hy
  obtain ⟨v3,g3,r3⟩:=L.get hu
  have l1:i<d.toArray.size:=by simpa using (List.getElem?_eq_some_iff.mp g1).1
  have l2:i<its2.toArray.size:=by simpa using (List.getElem?_eq_some_iff.mp g2).1
  have l3:i<f.toArray.size:=by simpa using (List.getElem?_eq_some_iff.mp g3).1
  refine W.item i s _ E (by omega) ⟨t,g,⟨x0,y0,u0,j⟩,⟨O,p1⟩,⟨R,p2⟩,⟨V,p3⟩⟩ fun T vals h' tk pt hT ad mid hk=>?_
  obtain ⟨w1,w2,w3,B,C,F,rfl⟩:=pt
  have B:d[i]?=some w1:=by simpa using B
  have C:its2[i]?=some w2:=by simpa using C
  have F:f[i]?=some w3:=by simpa using F
  rw [g1] at B;rw [g2] at C;rw [g3] at F
  cases B;cases C;cases F
  have ap:=W.apart _ _ _ mid
  refine ⟨_,rfl,W.go elts kk p i T { s with heap:=h',toks:=tk } _ E mid fun N ae Z=>?_⟩
  obtain ⟨af,aa,ab,⟨j1,_⟩,⟨j2,_⟩,⟨j3,_⟩⟩:=ae
  have ac:N.IsTuple T #[v1,v2,v3]:=ad.at fun o q=>Z T o ap q
  have new:ObjOk X.prog X.w (upd H T (.tup [x,y,u])) N T (.tup [x,y,u]):=by
   refine ⟨by show 3≤sizeLine;decide,[v1,v2,v3],.cons r1 (.cons r2 (.cons r3 .nil)),?_⟩
   exact ac
  have I1:Inv X pins σ (upd H T (.tup [x,y,u])) { s with heap:=N,toks:=tk } :=
   I.turnedNew (t':=tk) (ch:=[z,TI,TO,i1,i2,n]) (fun q o hb e=>Z q o (fun m=>hb (FY m)) (hk q o (fun m=>hb (FY m)) e)) hf hT new
  refine ⟨.ref T,_,I1,rfl,⟨_,x,y,u,rfl,I.hok.fresh hT,rfl,fun l hl=>by rw [I.tuple_inj hl qx];exact hx,fun l hl=>by rw [I.tuple_inj hl qy];exact hy,fun l hl=>by rw [I.tuple_inj hl qz];exact hu⟩,⟨af,aa,ab,j1,j2,j3⟩,fun q hq=>?_⟩
  have ag:q<s.heap.objs.size:=by
   have e':q=z∨q=TI∨q=TO∨q=i1∨q=i2∨q=n:=by simpa using hq
   rcases e' with r | r | r | r | r | r
   ·rw [r];exact Heap.lt_size t
   ·rw [r];exact Heap.lt_size g
   ·rw [r];exact Heap.lt_size j
   ·rw [r];obtain ⟨_,B,_⟩:=O;exact Heap.lt_size B
   ·rw [r];obtain ⟨_,C,_⟩:=R;exact Heap.lt_size C
   ·rw [r];obtain ⟨_,F,_⟩:=V;exact Heap.lt_size F
  rw [upd_ne (Nat.ne_of_lt (Nat.lt_of_lt_of_le ag hT))]
  exact (hf q hq).1
 done:=by
  intro X hP hw hK Y i pins s σ H E I hf st hg
  subst hP hw hK
  obtain ⟨t,g,⟨x0,y0,u0,j⟩,O,R,V⟩:=st
  obtain ⟨xs,ys,zs,qx,qy,qz,ai⟩:=hg
  obtain ⟨d,G,p1,_⟩:=I.tuple qx
  obtain ⟨its2,J,p2,_⟩:=I.tuple qy
  obtain ⟨f,L,p3,_⟩:=I.tuple qz
  have l1:=G.length
  have l2:=J.length
  have l3:=L.length
  have M:X.A.in1.handled=none:=I.ok.hd Y
  have W:=WalksT.zipD3 S (Draws.tuple (prog:=X.prog) (w:=X.w) M i1 a n1 d.toArray) (Draws.tuple M i2 b n2 its2.toArray) (Draws.tuple M n c n3 f.toArray)
  have e:i=min (min d.toArray.size its2.toArray.size) f.toArray.size:=by simp only [List.size_toArray];omega
  subst e
  exact W.done s _ E ⟨t,g,⟨x0,y0,u0,j⟩,⟨O,p1⟩,⟨R,p2⟩,⟨V,p3⟩⟩ fun h' tk hk=>⟨rfl,I.turnedL (t':=tk) (ch:=[z,TI,TO,i1,i2,n]) (fun q o hb e=>hk q o (fun m=>hb (FY m)) e) hf⟩
 self:=fun A i s Q E st h=>wpAny_pyIter_zip st.1 h
def GI (K:Frag) (ta:TA):TI:=fun σ H R=>ta σ H fun vs H1=>∃ a b c xs ys zs,vs=[.ref a,.ref b,.ref c]∧SqT K H1 a xs∧SqT K H1 b ys∧SqT K H1 c zs∧R (It3 K a b c) H1
theorem zx {X:Cx} {e g i:Expr} {ta:TA} {p pos j:Pos} {elts:List Expr} {F:Nat} (hg:Gl X "zip") (hm:X.mg "zip" = none) (ha:PA X [e,g,i] ta)
  (hs:starEach [e,g,i] X.env=(false,eval e X.env)::starEach [g,i] X.env) (n:(backTo pos (starEach [g,i] X.env)).any (·.1)=false) :
  PI X (.Tuple elts F j) (.Call (.Name "zip" p) [e,g,i] [] pos) (GI X.K ta):=by
 refine ⟨fun pins s σ H R I h=>?_⟩
 refine Call_ (ld_blt I hg hm PyProof.Rows.boot_zip (PyProof.Rows.callWith_type1 (thn (ha.run pos pins s σ H _ I h) fun us s1 ⟨vs,H1,f,r1,G⟩=>?_) hs n))
 obtain ⟨a,b,c,xs,ys,zs,ex,J,L,M,q⟩:=G
 subst ex
 cases r1 with
 | cons r k =>
 cases k with
 | cons O k =>
 cases k with
 | cons o k =>
 cases k
 cases r
 cases O
 cases o
 obtain ⟨l,P,p1,_⟩:=f.tuple J
 obtain ⟨its2,Q,p2,_⟩:=f.tuple L
 obtain ⟨m,V,p3,_⟩:=f.tuple M
 obtain ⟨o1,t,_⟩:=id p1
 obtain ⟨o2,u,_⟩:=id p2
 obtain ⟨o3,v,_⟩:=id p3
 have y:=Heap.lt_size t
 have z:=Heap.lt_size u
 have B:=Heap.lt_size v
 have S:=zip_sep3 (N:=s1.heap.objs.size) (fp1:=[a]) (fp2:=[b]) (fp3:=[c]) (by simpa using y) (by simpa using z) (by simpa using B)
 have d:∀ q,q∈[s1.heap.objs.size+5,s1.heap.objs.size+3,s1.heap.objs.size+4,s1.heap.objs.size,s1.heap.objs.size+1,s1.heap.objs.size+2]→FpOk X pins H1 q:=fun q Y=>by
  have hle:s1.heap.objs.size≤q:=by
   have Z:q=s1.heap.objs.size+5∨q=s1.heap.objs.size+3∨q=s1.heap.objs.size+4∨q=s1.heap.objs.size∨q=s1.heap.objs.size+1∨q=s1.heap.objs.size+2:=by simpa using Y
   rcases Z with r | r | r | r | r | r<;>rw [r]<;>first | exact Nat.le_add_right _ _ | exact Nat.le_refl _
  exact f.fpOk hle (f.hok.fresh hle)
 refine zip_begins3 (begins_tuple a l.toArray) (begins_tuple b its2.toArray) (begins_tuple c m.toArray) p1 p2 p3 fun h' C w x h1 h2 h3 hsz hk=>wpAny_pyIter_zip C ?_
 have I2:Inv X pins σ H1 { s1 with heap:=h' }:=f.kept (t':=s1.toks) hk
 exact ⟨s1.heap.objs.size+5,[s1.heap.objs.size+5,s1.heap.objs.size+3,s1.heap.objs.size+4,s1.heap.objs.size,s1.heap.objs.size+1,s1.heap.objs.size+2],_,_,H1,rfl,I2,GH S (Nat.ne_of_lt y) (Nat.ne_of_lt (Nat.lt_of_lt_of_le z (Nat.le_add_right _ _))) (Nat.ne_of_lt (Nat.lt_of_lt_of_le B (Nat.le_add_right _ _))),
  ⟨C,w,⟨_,_,_,x⟩,⟨_,h1,rfl,rfl⟩,⟨_,h2,rfl,rfl⟩,⟨_,h3,rfl,rfl⟩⟩,d,q⟩
end Ev.Z3
namespace Ev
open PySem PySem.Spec PyProof.Rows L2
section
variable {K:Frag}
structure WkD (K:Frag) (F0:Hp) (J:It) (ds:List D):Prop where
 goes:∀ i F H,Same F0 F→Same F H→i<ds.length→J.go i H
 stops:∀ F H,Same F0 F→Same F H→J.stop ds.length H
 yields:∀ i F H x H' d,Same F0 F→Same F H→ds[i]?=some d→J.yld i H x H'→∃ F',Rp K F' x d∧New F H F' H' No
theorem Ak {F0:Hp} {a:Addr} {vs:List V} {ds:List D} (h:F0 a=some (.lst vs)) (r:RpL K F0 vs ds):WkD K F0 (Itl K a) ds:=by
 have w:=walk_list (K:=K) (a:=a) (xs:=vs)
 have l:=r.length
 refine ⟨fun i F H s t hi=>w.goes i H (by omega) (SqL.of (t _ _ (s _ _ h))),fun F H s t=>l▸w.stops H (SqL.of (t _ _ (s _ _ h))),fun i F H x H' d s t hd y=>?_⟩
 obtain ⟨hi,_⟩:=List.getElem?_eq_some_iff.mp hd
 obtain ⟨e,b⟩:=w.yields i H x H' (by omega) (SqL.of (t _ _ (s _ _ h))) y
 subst e
 obtain ⟨v,g,q⟩:=r.get hd
 rw [b] at g
 cases g
 exact ⟨F,q.mono s,New.refl t⟩
theorem yf {F0:Hp} {a:Addr} {vs:List V} {ds:List D} (h:SqT K F0 a vs) (r:RpL K F0 vs ds):WkD K F0 (Itt K a) ds:=by
 have w:=walk_tup (K:=K) (a:=a) (xs:=vs)
 have l:=r.length
 have m:∀ {F H:Hp},Same F0 F→Same F H→SqT K H a vs:=fun s t=>af t (af s h)
 refine ⟨fun i F H s t hi=>w.goes i H (by omega) (m s t),fun F H s t=>l▸w.stops H (m s t),fun i F H x H' d s t hd y=>?_⟩
 obtain ⟨hi,_⟩:=List.getElem?_eq_some_iff.mp hd
 obtain ⟨e,b⟩:=w.yields i H x H' (by omega) (m s t) y
 subst e
 obtain ⟨v,g,q⟩:=r.get hd
 rw [b] at g
 cases g
 exact ⟨F,q.mono s,New.refl t⟩
theorem aM (lo st:Int):∀ n,(aC lo st n).length=n:=by
 intro n
 induction n generalizing lo with
 | zero=>rfl
 | succ n ih=>simp only [aC,List.length_cons,ih]
theorem fG:∀ (n:Nat) (lo st:Int) (i:Nat) (d:D),(aC lo st n)[i]?=some d→d=.int (lo+(i:Nat)*st)
 | 0,lo,st,i,d,e=>by simp [aC] at e
 | n+1,lo,st,0,d,e=>by simp [aC] at e;simp [← e]
 | n+1,lo,st,i+1,d,e=>by
  have:=fG n (lo+st) st i d (by simpa [aC] using e)
  rw [this]
  congr 1
  rw [Int.natCast_succ,Int.add_mul]
  omega
theorem pW {F0:Hp} {lo:Int} {n:Nat}:WkD K F0 (Itr lo n) (aC lo 1 n):=by
 refine ⟨fun i F H s t hi=>by rw [aM] at hi;exact hi,fun F H s t=>by rw [aM];exact Nat.le_refl _,fun i F H x H' d s t hd y=>?_⟩
 obtain ⟨e,a⟩:=y
 have:=fG _ _ _ _ _ hd
 subst e a this
 exact ⟨F,by rw [Int.mul_one];exact .int _,New.refl t⟩
theorem u4 {F0:Hp} {lo c:Int} {n:Nat}:WkD K F0 (Itc lo c n) (aC lo c n):=by
 refine ⟨fun i F H s t hi=>by rw [aM] at hi;exact hi,fun F H s t=>by rw [aM];exact Nat.le_refl _,fun i F H x H' d s t hd y=>?_⟩
 obtain ⟨e,a⟩:=y
 have:=fG _ _ _ _ _ hd
 subst e a this
 exact ⟨F,.int _,New.refl t⟩
theorem wx {F0:Hp} (z:Str):WkD K F0 (Its z) (fZ z):=by
 have l:(fZ z).length=z.cps.size:=by unfold fZ;rw [List.length_map,Array.length_toList]
 refine ⟨fun i F H s t hi=>by rw [l] at hi;exact hi,fun F H s t=>by rw [l];exact Nat.le_refl _,fun i F H x H' d s t hd y=>?_⟩
 obtain ⟨e,c,a,b⟩:=y
 subst e b
 unfold fZ at hd
 rw [List.getElem?_map,Array.getElem?_toList,a] at hd
 cases hd
 exact ⟨F,.str _,New.refl t⟩
theorem FW {F0:Hp} {X:Cx} {a:Addr} {ob:Obj} {L:List Dt.Row} (h:F0 a=some (Dt.DkO a ob L)) (k:Dt.aT K F0 L):WkD K F0 (Dt.Itk X a ob L) ((Dt.cF L).map tupI):=by
 have l:((Dt.cF L).map tupI).length=L.length:=by
  unfold Dt.cF
  rw [List.length_map,List.length_map]
 refine ⟨fun i F H s t hi=>⟨t _ _ (s _ _ h),by rw [l] at hi;exact hi⟩,fun F H s t=>⟨t _ _ (s _ _ h),by rw [l];exact Nat.le_refl _⟩,fun i F H x H' d s t hd y=>?_⟩
 obtain ⟨e,p,b,c⟩:=y
 subst e c
 unfold Dt.cF at hd
 rw [List.map_map,List.getElem?_map,b] at hd
 cases hd
 exact ⟨F,(vj (k p (List.mem_of_getElem? b))).mono s,New.refl t⟩
theorem gn {F H H':Hp} {v x y:V} {T:Addr} {d e:D} (t:Same F H) (h:H T=none) (ev:v=.ref T) (c:H'=upd H T (.tup [x,y])) (a:Rp K F x d) (b:Rp K F y e):∃ F',Rp K F' v (.tup [d,e])∧New F H F' H' No:=by
 subst ev c
 exact ⟨_,(Ow.tuple (H':=H) t h (.cons a (.cons b .nil))).fz (by simp only [D.fz,fzs,a.fz,b.fz];rfl),New.tuple t h⟩
theorem dM:∀ (ds:List D) (k:Nat),(cT k ds).length=ds.length
 | [],_=>rfl
 | d::ds,k=>by simp only [cT,List.length_cons,dM ds]
theorem gI:∀ (ds:List D) (k i:Nat) (d:D),(cT k ds)[i]?=some d→∃ e,ds[i]?=some e∧d=.tup [.int ((k+i:Nat):Int),e]
 | [],k,i,d,h=>by simp [cT] at h
 | x::ds,k,0,d,h=>by simp [cT] at h;exact ⟨x,rfl,by simp [← h]⟩
 | x::ds,k,i+1,d,h=>by
  obtain ⟨e,a,b⟩:=gI ds (k+1) i d (by simpa [cT] using h)
  exact ⟨e,by simpa using a,by rw [b];congr 4;omega⟩
theorem zF {F0:Hp} {a:Addr} {vs:List V} {ds:List D} (h:F0 a=some (.lst vs)) (r:RpL K F0 vs ds):WkD K F0 (Ite K a) (cT 0 ds):=by
 have w:=walk_enum (K:=K) (a:=a) (xs:=vs)
 have l:=r.length
 have l2:=dM ds 0
 have m:∀ {F H:Hp},Same F0 F→Same F H→SqL K H a vs:=fun s t=>SqL.of (t _ _ (s _ _ h))
 refine ⟨fun i F H s t hi=>w.goes i H (by omega) (m s t),fun F H s t=>by rw [l2,← l];exact w.stops H (m s t),fun i F H x H' d s t hd y=>?_⟩
 obtain ⟨hi,_⟩:=List.getElem?_eq_some_iff.mp hd
 obtain ⟨T,p,q,c,f,j,k,n⟩:=w.yields i H x H' (by omega) (m s t) y
 obtain ⟨e,he,o⟩:=gI _ _ _ _ hd
 obtain ⟨v,g,u⟩:=r.get he
 have b:vs[i]?=some q:=n
 rw [b] at g
 cases g
 cases k
 subst o
 rw [Nat.zero_add]
 exact gn t f c j (.int _) (u.mono s)
theorem wa {F0:Hp} {a:Addr} {vs:List V} {ds:List D} (h:SqT K F0 a vs) (r:RpL K F0 vs ds):WkD K F0 (EvTE.Ha K a) (cT 0 ds):=by
 have l:=r.length
 have l2:=dM ds 0
 have m:∀ {F H:Hp},Same F0 F→Same F H→SqT K H a vs:=fun s t=>af t (af s h)
 refine ⟨fun i F H s t hi=>⟨vs,vs[i]'(by omega),m s t,by simp [show i<vs.length by omega]⟩,fun F H s t=>⟨vs,m s t,by omega⟩,fun i F H x H' d s t hd y=>?_⟩
 obtain ⟨hi,_⟩:=List.getElem?_eq_some_iff.mp hd
 obtain ⟨T,q,b,c,f,j⟩:=y
 obtain ⟨e,he,k⟩:=gI _ _ _ _ hd
 obtain ⟨v,g,n⟩:=r.get he
 rw [j vs (m s t)] at g
 cases g
 subst k
 rw [Nat.zero_add]
 exact gn t c b f (.int _) (n.mono s)
theorem rF {F H H':Hp} {v x y z:V} {T:Addr} {d e f:D} (t:Same F H) (h:H T=none) (ev:v=.ref T) (c:H'=upd H T (.tup [x,y,z])) (a:Rp K F x d) (b:Rp K F y e) (rz:Rp K F z f):∃ F',Rp K F' v (.tup [d,e,f])∧New F H F' H' No:=by
 subst ev c
 exact ⟨_,(Ow.tuple (H':=H) t h (.cons a (.cons b (.cons rz .nil)))).fz (by simp only [D.fz,fzs,a.fz,b.fz,rz.fz];rfl),New.tuple t h⟩
theorem gd:∀ (xs ys zs:List D),(eX xs ys zs).length=min (min xs.length ys.length) zs.length
 | [],ys,zs=>by simp [eX]
 | x::xs,[],zs=>by simp [eX]
 | x::xs,y::ys,[]=>by simp [eX]
 | x::xs,y::ys,z::zs=>by simp only [eX,List.length_cons,gd xs ys zs];omega
theorem lY:∀ (xs ys zs:List D) (i:Nat) (d:D),(eX xs ys zs)[i]?=some d→∃ e f g,xs[i]?=some e∧ys[i]?=some f∧zs[i]?=some g∧d=.tup [e,f,g]
 | [],ys,zs,i,d,h=>by simp [eX] at h
 | x::xs,[],zs,i,d,h=>by simp [eX] at h
 | x::xs,y::ys,[],i,d,h=>by simp [eX] at h
 | x::xs,y::ys,z::zs,0,d,h=>by simp [eX] at h;exact ⟨x,y,z,rfl,rfl,rfl,h.symm⟩
 | x::xs,y::ys,z::zs,i+1,d,h=>by
  obtain ⟨e,f,g,a,b,c,j⟩:=lY xs ys zs i d (by simpa [eX] using h)
  exact ⟨e,f,g,by simpa using a,by simpa using b,by simpa using c,j⟩
theorem y6 {F0:Hp} {a b c:Addr} {vs ws us:List V} {ds es fs:List D} (h:SqT K F0 a vs) (h':SqT K F0 b ws) (w:SqT K F0 c us) (r:RpL K F0 vs ds) (B:RpL K F0 ws es) (j:RpL K F0 us fs):WkD K F0 (Z3.It3 K a b c) (eX ds es fs):=by
 have l:=r.length
 have l':=B.length
 have G:=j.length
 have l2:=gd ds es fs
 have m:∀ {F H:Hp},Same F0 F→Same F H→SqT K H a vs∧SqT K H b ws∧SqT K H c us:=fun s t=>⟨af t (af s h),af t (af s h'),af t (af s w)⟩
 refine ⟨fun i F H s t hi=>?_,fun F H s t=>⟨vs,ws,us,(m s t).1,(m s t).2.1,(m s t).2.2,by omega⟩,fun i F H x H' d s t hd y=>?_⟩
 ·have I:i<vs.length:=by omega
  have J:i<ws.length:=by omega
  have L:i<us.length:=by omega
  exact ⟨vs,ws,us,vs[i],ws[i],us[i],(m s t).1,(m s t).2.1,(m s t).2.2,by simp [I],by simp [J],by simp [L]⟩
 ·obtain ⟨T,p,q,o,M,N,O,P,Q,R⟩:=y
  obtain ⟨e,f,k,he,hf,hk,X⟩:=lY _ _ _ _ _ hd
  obtain ⟨v,g,Y⟩:=r.get he
  obtain ⟨v',C,z⟩:=B.get hf
  obtain ⟨Z,n,u⟩:=j.get hk
  rw [P vs (m s t).1] at g
  rw [Q ws (m s t).2.1] at C
  rw [R us (m s t).2.2] at n
  cases g
  cases C
  cases n
  subst X
  exact rF t N M O (Y.mono s) (z.mono s) (u.mono s)
theorem eK:∀ (xs ys:List D),(jE xs ys).length=min xs.length ys.length
 | [],ys=>by simp [jE]
 | x::xs,[]=>by simp [jE]
 | x::xs,y::ys=>by simp only [jE,List.length_cons,eK xs ys];omega
theorem ku:∀ (xs ys:List D) (i:Nat) (d:D),(jE xs ys)[i]?=some d→∃ e f,xs[i]?=some e∧ys[i]?=some f∧d=.tup [e,f]
 | [],ys,i,d,h=>by simp [jE] at h
 | x::xs,[],i,d,h=>by simp [jE] at h
 | x::xs,y::ys,0,d,h=>by simp [jE] at h;exact ⟨x,y,rfl,rfl,h.symm⟩
 | x::xs,y::ys,i+1,d,h=>by
  obtain ⟨e,f,a,b,c⟩:=ku xs ys i d (by simpa [jE] using h)
  exact ⟨e,f,by simpa using a,by simpa using b,c⟩
theorem CZ {F0:Hp} {a b:Addr} {vs ws:List V} {ds es:List D} (h:F0 a=some (.lst vs)) (h':F0 b=some (.lst ws)) (r:RpL K F0 vs ds) (o:RpL K F0 ws es):WkD K F0 (Itz K a b) (jE ds es):=by
 have l:=r.length
 have z:=o.length
 have l2:=eK ds es
 have w:=walk_zip (K:=K) (a:=a) (b:=b) (xs:=vs) (ys:=ws) (n:=(jE ds es).length) (by rw [l2,l,z])
 have m:∀ {F H:Hp},Same F0 F→Same F H→SqL K H a vs∧SqL K H b ws:=fun s t=>⟨SqL.of (t _ _ (s _ _ h)),SqL.of (t _ _ (s _ _ h'))⟩
 refine ⟨fun i F H s t hi=>w.goes i H hi (m s t),fun F H s t=>w.stops H (m s t),fun i F H x H' d s t hd y=>?_⟩
 obtain ⟨hi,_⟩:=List.getElem?_eq_some_iff.mp hd
 obtain ⟨T,p,q,B,C,G,I,J⟩:=w.yields i H x H' hi (m s t) y
 obtain ⟨e,f,he,hf,L⟩:=ku _ _ _ _ hd
 obtain ⟨v,g,M⟩:=r.get he
 obtain ⟨v',u,c⟩:=o.get hf
 have j:vs[i]?=some p:=I
 have k:ws[i]?=some q:=J
 rw [j] at g
 rw [k] at u
 cases g
 cases u
 subst L
 exact gn t C B G (M.mono s) (c.mono s)
theorem AI {F0:Hp} {a b:Addr} {vs ws:List V} {ds es:List D} (h:SqT K F0 a vs) (h':SqT K F0 b ws) (r:RpL K F0 vs ds) (j:RpL K F0 ws es):WkD K F0 (RZ.ItzT K a b) (jE ds es):=by
 have l:=r.length
 have J:=j.length
 have l2:=eK ds es
 have m:∀ {F H:Hp},Same F0 F→Same F H→SqT K H a vs∧SqT K H b ws:=fun s t=>⟨af t (af s h),af t (af s h')⟩
 refine ⟨fun i F H s t hi=>?_,fun F H s t=>⟨vs,ws,(m s t).1,(m s t).2,by omega⟩,fun i F H x H' d s t hd y=>?_⟩
 ·have n:i<vs.length:=by omega
  have o:i<ws.length:=by omega
  exact ⟨vs,ws,vs[i],ws[i],(m s t).1,(m s t).2,by simp [n],by simp [o]⟩
 ·obtain ⟨T,p,q,u,w,z,B,C⟩:=y
  obtain ⟨e,f,he,hf,G⟩:=ku _ _ _ _ hd
  obtain ⟨v,g,I⟩:=r.get he
  obtain ⟨v',k,c⟩:=j.get hf
  rw [B vs (m s t).1] at g
  rw [C ws (m s t).2] at k
  cases g
  cases k
  subst G
  exact gn t w u z (I.mono s) (c.mono s)
end
section
variable {X:Cx} {tg iter:Expr}
def tWI (X:Cx) (tg iter:Expr):TI:=fun σ H R=>∀ pins s,Inv X pins σ H s →
 wpAny (model X.prog X.w) X.A (eval iter X.env) (fun v s1=>wpAny (model X.prog X.w) X.A (pyIter v) (PIE X pins σ tg R) X.xe s1) X.xe s
theorem qQ:PI X tg iter (tWI X tg iter):=⟨fun pins s σ H R I h=>h pins s I⟩
theorem cY {a:TI} {σ:L2.St} {H:Hp} {R:It→Hp→Prop} (h:PI X tg iter a) (q:a σ H R):tWI X tg iter σ H R:=fun pins s I=>h.run pins s σ H R I q
theorem ay {e:Expr} {σ:L2.St} {H:Hp} {Q Q':VK} (h:tW X e σ H Q) (k:∀ v H',Q v H'→Q' v H'):tW X e σ H Q':=fun pins s I=>thn (h pins s I) fun u s1 ⟨v,H',a,r,q⟩=>⟨v,H',a,r,k v H' q⟩
theorem ax:∀ {es:List Expr} {σ:L2.St} {H:Hp} {Q Q':List V→Hp→Prop},bQ X es σ H Q→(∀ v H',Q v H'→Q' v H')→bQ X es σ H Q'
 | [],_,_,_,_,h,k=>k _ _ h
 | _::es,_,_,_,_,h,k=>ay h fun v H' q=>ax q fun vs a z=>k _ _ z
def isTup:Expr→Bool
 | .Tuple _ _ _=>true
 | _=>false
def cX:Expr→Bool
 | .Set _ _ _=>true
 | _=>false
inductive MI (X:Cx):Expr→ItK→List Expr→Expr→Prop
 | val {tg e:Expr}:cX e=false→MI X tg .val [e] e
 | range {tg:Expr} {es:List Expr} {p pos:Pos}:Gl X "range" → X.mg "range" = none→noStar es=true→MI X tg .range es (.Call (.Name "range" p) es [] pos)
 | enum {tg e:Expr} {p pos:Pos}:isTup tg=true→Gl X "enumerate" → X.mg "enumerate" = none→noStar [e]=true→MI X tg .enum [e] (.Call (.Name "enumerate" p) [e] [] pos)
 | zip {tg e f:Expr} {p pos:Pos}:isTup tg=true→Gl X "zip" → X.mg "zip" = none→noStar [e,f]=true→MI X tg .zip [e,f] (.Call (.Name "zip" p) [e,f] [] pos)
 | zip3 {tg e f g:Expr} {p pos:Pos}:isTup tg=true→Gl X "zip" → X.mg "zip" = none→noStar [e,f,g]=true→MI X tg .zip [e,f,g] (.Call (.Name "zip" p) [e,f,g] [] pos)
def Bz (X:Cx) (items ds:List D) (R:It→Hp→Prop):List V→Hp→Prop:=fun vs H1=>∃ F1,Same F1 H1∧RpL X.K F1 vs ds∧∀ J,WkD X.K F1 J items→R J H1
theorem FA {k:ItK} {es:List Expr} {σ:L2.St} {H:Hp} {R:It→Hp→Prop} {ds items:List D} (m:MI X tg k es iter) (e:itD k ds=some items) (o:ds.length=es.length) (q:bQ X es σ H (Bz X items ds R)):tWI X tg iter σ H R:=by
 cases m with
 | val h =>
  replace e:mL ds=some items:=e
  unfold mL at e
  split at e
  ·cases e
   refine cY (pi_tup ao) (ay q fun v H1 z=>?_)
   obtain ⟨F1,s,r,g⟩:=z
   cases r with
   | cons r t =>
    cases r with
    | tup h l=>exact ⟨_,rfl,⟨_,af s h⟩,g _ (yf h l)⟩
  ·cases e
   refine cY (pi_list ao) (ay q fun v H1 z=>?_)
   obtain ⟨F1,s,r,g⟩:=z
   cases r with
   | cons r t =>
    cases r with
    | lst h l=>exact ⟨_,rfl,⟨_,SqL.of (s _ _ h)⟩,g _ (Ak h l)⟩
  ·cases e
   refine cY (pi_str ao) (ay q fun v H1 z=>?_)
   obtain ⟨F1,s,r,g⟩:=z
   cases r with
   | cons r t =>
    cases r
    exact ⟨_,rfl,g _ (wx _)⟩
  ·cases e
   refine cY (Dt.vT ao) (ay q fun v H1 z=>?_)
   obtain ⟨F1,s,r,g⟩:=z
   cases r with
   | cons r t =>
    cases r with
    | dtk h ks C K l =>
     subst C
     exact ⟨_,_,_,rfl,s _ _ h,g _ (FW h ks)⟩
  ·cases e
 | range f m0 ns =>
  replace e:aQ ds=some items:=e
  unfold aQ at e
  split at e
  ·split at e
   ·rename_i j c
    cases e
    obtain ⟨F,G⟩:=bU c
    match es,ns,q,o with
    | [a],ns,q,_ =>
     refine cY (pi_range1 f m0 (aw ns) (by rw [aj _ ns];rfl)) (ax q fun vs H1 z=>?_)
     obtain ⟨F1,s,r,g⟩:=z
     cases r with
     | cons r t=>cases r;cases t;exact ⟨_,rfl,by omega,by omega,g _ pW⟩
   ·cases e
  ·split at e
   ·rename_i i j c
    cases e
    simp only [Bool.and_eq_true] at c
    obtain ⟨F,G⟩:=bU c.1
    obtain ⟨L,M⟩:=bU c.2
    match es,ns,q,o with
    | [a,b],ns,q,_ =>
     have x:=ak ns
     refine cY (pi_range2 f m0 (aw ns) (by rw [aj _ ns,aj _ x];rfl) (by rw [aj _ x];rfl)) (ax q fun vs H1 z=>?_)
     obtain ⟨F1,s,r,g⟩:=z
     cases r with
     | cons r t =>
      cases r
      cases t with
      | cons r t=>cases r;cases t;exact ⟨_,_,rfl,⟨by omega,by omega,by omega,by omega⟩,g _ pW⟩
   ·cases e
  ·split at e
   ·rename_i i j c h
    cases e
    simp only [Bool.and_eq_true,decide_eq_true_eq] at h
    have I:RgC i j c (oR i j c):=by
     refine ⟨h.1.2,by omega,my (by simp only [Bool.and_eq_true];exact h.1.1) h.1.2,?_⟩
     have nn:0≤Builtin.Range.rangeSize i j c:=by
      unfold Builtin.Range.rangeSize
      split
      ·split
       ·have:0≤(j-i-1) / c:=Int.ediv_nonneg (by omega) (by omega)
        omega
       ·exact Int.le_refl 0
      ·split
       ·have:0≤(i-j-1) / (-c):=Int.ediv_nonneg (by omega) (by omega)
        omega
       ·exact Int.le_refl 0
     unfold oR
     omega
    match es,ns,q,o with
    | [a,b,d],ns,q,_ =>
     have x:=ak ns
     refine cY (pi_range3 f m0 (aw ns) (aj _ ns) (aq _ _ x)) (ax q fun vs H1 z=>?_)
     obtain ⟨F1,s,r,g⟩:=z
     cases r with
     | cons r t =>
      cases r
      cases t with
      | cons r t =>
       cases r
       cases t with
       | cons r t=>cases r;cases t;exact ⟨_,_,_,_,rfl,I,g _ u4⟩
   ·cases e
  ·cases e
 | enum ht f m0 ns =>
  replace e:iy ds=some items:=e
  unfold iy at e
  split at e
  ·cases e
   cases tg with
   | Tuple elts y n =>
    refine cY (EvTE.oC f m0 (aw ns) (by rw [aj _ ns];rfl)) (ax q fun vs H1 z=>?_)
    obtain ⟨F1,s,r,g⟩:=z
    cases r with
    | cons r t =>
     cases t
     cases r with
     | lst h l=>exact ⟨_,rfl,.inl ⟨_,SqL.of (s _ _ h),g _ (zF h l)⟩⟩
   | _=>simp [isTup] at ht
  ·cases e
   cases tg with
   | Tuple elts y n =>
    refine cY (EvTE.oC f m0 (aw ns) (by rw [aj _ ns];rfl)) (ax q fun vs H1 z=>?_)
    obtain ⟨F1,s,r,g⟩:=z
    cases r with
    | cons r t =>
     cases t
     cases r with
     | tup h l=>exact ⟨_,rfl,.inr ⟨_,af s h,g _ (wa h l)⟩⟩
   | _=>simp [isTup] at ht
  ·cases e
 | zip ht f m0 ns =>
  replace e:ly ds=some items:=e
  cases tg with
  | Tuple elts y n =>
   have nt:=ak ns
   unfold ly at e
   split at e
   ·cases e
    refine cY (RZ.pi_zipA f m0 (aw ns) (aj _ ns) (aq _ _ nt)) (ax q fun vs H1 z=>?_)
    obtain ⟨F1,s,r,g⟩:=z
    cases r with
    | cons r t =>
     cases t with
     | cons p t =>
      cases t
      cases r with
      | tup h l =>
       cases p with
       | tup h' u=>exact ⟨_,_,_,_,rfl,.inr ⟨af s h,af s h',g _ (AI h h' l u)⟩⟩
   ·cases e
    refine cY (RZ.pi_zipA f m0 (aw ns) (aj _ ns) (aq _ _ nt)) (ax q fun vs H1 z=>?_)
    obtain ⟨F1,s,r,g⟩:=z
    cases r with
    | cons r t =>
     cases t with
     | cons p t =>
      cases t
      cases r with
      | lst h l =>
       cases p with
       | lst h' u=>exact ⟨_,_,_,_,rfl,.inl ⟨SqL.of (s _ _ h),SqL.of (s _ _ h'),g _ (CZ h h' l u)⟩⟩
   ·cases o
   ·cases e
  | _=>simp [isTup] at ht
 | zip3 ht f m0 ns =>
  replace e:ly ds=some items:=e
  cases tg with
  | Tuple elts y n =>
   have nt:=ak ns
   unfold ly at e
   split at e
   ·cases o
   ·cases o
   ·cases e
    refine cY (Z3.zx f m0 (aw ns) (aj _ ns) (aq _ _ nt)) (ax q fun vs H1 z=>?_)
    obtain ⟨F1,s,r,g⟩:=z
    cases r with
    | cons r t =>
     cases t with
     | cons p t =>
      cases t with
      | cons J t =>
       cases t
       cases r with
       | tup h l =>
        cases p with
        | tup h' u =>
         cases J with
         | tup w B=>exact ⟨_,_,_,_,_,_,rfl,af s h,af s h',af s w,g _ (y6 h h' w l u B)⟩
   ·cases e
  | _=>simp [isTup] at ht
end
end Ev
namespace Ev
open PySem PySem.Spec PyProof.Rows L2
structure KwP where
 n:Nat
 ks:List Str
 perm:List Nat
 deriving DecidableEq
structure Hi where
 xc:List (Str × List Str):=[]
 xz:List Str:=[]
 xf:List (Str × Str):=[]
 xi:List (Str × Str × Bool):=[]
 xn:List Str:=[]
 xh:List Str:=[]
structure Cxt where
 N:List Str
 sc:Scope
 fn:Str→Bool
 tab:List Str
 kt:Nat→List KwP
 gc:List (Str × Kc):=[]
 vm:Option (Nat × Str):=none
 mt:List (Nat × Str × Str):=[]
 sl:List (Str × Str × Nat):=[]
 vn:Option (Nat × Str):=none
 xt:Hi:={}
 cm:Bool:=true
 vs:Option (Nat × Str):=none
 pr:List (Nat × Str × Str):=[]
 vl:Option (Nat × Str):=none
 km:List (Nat × Str × Str × List Str × List Str):=[]
 cms:List (Nat × Str × Str):=[]
def BO:List KwP:=[⟨1,["rule","items","lap"],[0,1,2,3]⟩,⟨1,["rule","lap","items"],[0,1,3,2]⟩,⟨1,["items","rule","lap"],[0,2,1,3]⟩,⟨1,["items","lap","rule"],[0,3,1,2]⟩,⟨1,["lap","rule","items"],[0,2,3,1]⟩,⟨1,["lap","items","rule"],[0,3,2,1]⟩]
def IC:List KwP:=[⟨1,["size","lap","used"],[0,1,2,3]⟩,⟨1,["size","used","lap"],[0,1,3,2]⟩,⟨1,["lap","size","used"],[0,2,1,3]⟩,⟨1,["used","size","lap"],[0,2,3,1]⟩,⟨1,["lap","used","size"],[0,3,1,2]⟩,⟨1,["used","lap","size"],[0,3,2,1]⟩]
def Iu:List (List Str):=[[],["way","workers","batch","ends"],["way","workers","batch"],["way","workers"],["batch"],["workers","batch"],["batch","ends"],["ends"],["ends","way"],["ends","batch","workers","way"]]
def IA:List (Nat × List Str):=[(0,["rule","items"]),(0,["rule","batch","items"]),(1,["batch","rule","workers"])]
def Ef:Operator→Option Str
 | .Mult=>some "__mul__"
 | .Sub=>some "__sub__"
 | .BitAnd=>some "__and__"
 | _=>none
abbrev Cxt.blk (c:Cxt) (scope:Scope):Cxt:={ c with sc:=relS scope c.sc,fn:=fun x=>scope.names.lookup x==some .cell }
abbrev Cxt.su (c:Cxt):Cxt:={ c with tab:=[],kt:=fun _=>[],vm:=none,mt:=[],vn:=none,cm:=false,vs:=none,pr:=[],vl:=none,km:=[],cms:=[] }
def same (x y:Str):Bool:=decide (x=y)
def nmB (c:Cxt) (i:Nat) (x:Str):Bool:=decide (c.N[i]?=some x)
def i9 (c:Cxt) (x:Str):Bool:=match c.sc.names.lookup x with
 | some .local=>true
 | some .cell=>true
 | some .free=>true
 | _=>false
def stB (c:Cxt) (x:Str):Bool:=match c.sc.names.lookup x with
 | some .local=>true
 | some .cell=>c.fn x
 | _=>false
def loB (c:Cxt) (x:Str):Bool:=match c.sc.names.lookup x with
 | some .local=>true
 | _=>false
def glB (c:Cxt) (x:Str):Bool:=match c.sc.names.lookup x with
 | some .globalImplicit=>true
 | _=>false
def az (x:Str):Bool:=!(x==("__debug__" : Str))&&!(x==("__classdict__" : Str))
def opB (op:Op) (o:Operator):Bool:=decide (opO op=o)
def ER (op:Cop) (o:CmpOp):Bool:=decide (xA op=o)
def biS:Bi→Str
 | .len=>"len" | .abs=>"abs" | .min2=>"min" | .max2=>"max" | .min1=>"min" | .max1=>"max"
 | .sum1=>"sum" | .int1=>"int" | .list1=>"list" | .tuple1=>"tuple" | .sorted1=>"sorted" | .all1=>"all" | .any1=>"any"
 | .divmod=>"divmod" | .lrange=>"list" | .trange=>"tuple" | .maxd=>"max" | .sset=>"sorted" | .lset=>"len" | .step=>"sorted" | .lenr=>"len" | .str1=>"str" | .join _=>"join" | .splt _=>"split" | .repl _=>"replace"
def tyS:Ty→Str
 | .bool=>"bool" | .int=>"int" | .str=>"str" | .list=>"list" | .tuple=>"tuple" | .dict=>"dict"
def meS:Me→Str
 | .append=>"append" | .pop=>"pop" | .popAt=>"pop" | .extend=>"extend" | .remove=>"remove" | .index=>"index" | .reverse=>"reverse"
def qb:Expr→Bool
 | .ListComp _ _ _ _=>true
 | .SetComp _ _ _ _=>true
 | .DictComp _ _ _ _ _=>true
 | _=>false
def plainT:Expr→Bool
 | .UnaryOp .Not _ _=>false
 | .BoolOp _ _ _=>false
 | .IfExp _ _ _ _=>false
 | .Compare _ _ _ _=>false
 | _=>true
def p6:Expr→Bool
 | .Call (.Name _ _) [] [] _=>false
 | _=>true
def mTy (c:Cxt) (t:Ty) (x:Expr):Bool:=match x with
 | .Name n _=>same n (tyS t)&&glB c n
 | _=>false
def vB (c:Cxt):List Ty→List Expr→Bool
 | [],[]=>true
 | t::ts,x::xs=>mTy c t x&&vB c ts xs
 | _,_=>false
def mNm (c:Cxt) (i:Nat) (x:Expr):Bool:=match x with
 | .Name n _=>nmB c i n&&stB c n
 | _=>false
def mm (c:Cxt):List Nat→List Expr→Bool
 | [],[]=>true
 | i::is,x::xs=>mNm c i x&&mm c is xs
 | _,_=>false
def mTg (c:Cxt) (t:Tg) (x:Expr):Bool:=match t with
 | .nm i=>mNm c i x
 | .tp is=>match x with
  | .Tuple xs _ _=>mm c is xs&&c.cm
  | _=>false
def G1:Tg→List Nat
 | .nm i=>[i]
 | .tp is=>is
def uP (own:List Nat) (t:Tg):Bool:=(G1 t).all fun i=>own.contains i
def qF (c:Cxt) (own:List Nat):List (Str × Nat):=own.map fun i=>(c.N.getD i "",i)
def lP:Expr→Bool
 | .Name _ _=>true
 | .Call _ (_::_) _ _=>true
 | .Call (.Attribute _ _ _) _ _ _=>true
 | .BinOp _ _ _ _=>true
 | .UnaryOp _ _ _=>true
 | .Subscript _ _ _=>true
 | _=>false
def Bc (c:Cxt) (a:Str):Expr→Bool
 | .Constant (.str s) _ _=>same a s
 | .Name g _=>glB c g&&az g&&decide (c.gc.lookup g=some (.str a))
 | _=>false
def CS (kws:List Keyword):List Expr:=kws.map (·.value)
def dX:List Str→List (Option Expr)→Bool
 | [],[]=>true
 | k::ks,some (.Constant (.str s) _ _)::xs=>same s k&&dX ks xs
 | _,_=>false
def mFs (c:Cxt) (v:Nat) (cn:Str):List (Str × Nat)→List Expr→Bool
 | [],[]=>true
 | (nm,i)::fs,.Attribute (.Name y _) f _::ts=>same f nm&&decide ((cn,nm,i)∈c.sl)&&nmB c v y&&i9 c y&&az y&&mFs c v cn fs ts
 | _,_=>false
mutual
def mE:Nat→Cxt→E→Expr→Bool
 | 0,_,_,_=>false
 | n+1,c,e,x=>match e with
  | .non=>match x with
   | .Constant .none _ _=>true
   | _=>false
  | .bl b=>match x with
   | .Constant (.bool b') _ _=>b==b'
   | _=>false
  | .int i=>match x with
   | .Constant (.int j) _ _=>decide (i=j)
   | _=>false
  | .str s=>match x with
   | .Constant (.str s') _ _=>same s s'
   | _=>false
  | .con k=>match x with
   | .Name y _=>glB c y&&az y&&decide (c.gc.lookup y=some k)&&(match k with
    | .dct _=>false
    | _=>true)
   | _=>false
  | .kin ne ps e=>match x with
   | .Compare l [p] [.Name y _] _=>decide (p=if ne then CmpOp.NotIn else CmpOp.In)&&glB c y&&az y&&decide (c.gc.lookup y=some (.dct ps))&&mE n c e l
   | _=>false
  | .kix ps e=>match x with
   | .Subscript (.Name y _) i _=>glB c y&&az y&&decide (c.gc.lookup y=some (.dct ps))&&mE n c e i&&!isSlice i
   | _=>false
  | .var i=>match x with
   | .Name y _=>nmB c i y&&i9 c y&&az y
   | _=>false
  | .bin op a b=>match x with
   | .BinOp l o r _=>opB op o&&mEs n c [a,b] [l,r]
   | _=>false
  | .neg a=>match x with
   | .UnaryOp .USub y _=>mE n c a y
   | _=>false
  | .cmp op a b=>match x with
   | .Compare l [o] [r] _=>ER op o&&mEs n c [a,b] [l,r]&&!cX r
   | _=>false
  | .chain o1 o2 a b d=>match x with
   | .Compare l [p1,p2] [m,r] _=>ER o1 p1&&ER o2 p2&&mEs n c [a,b] [l,m]&&mE n c d r&&!cX r
   | _=>false
  | .band es=>match x with
   | .BoolOp .And xs _=>mEs n c es xs
   | _=>false
  | .bor es=>match x with
   | .BoolOp .Or xs _=>mEs n c es xs
   | _=>false
  | .bnot a=>match x with
   | .UnaryOp .Not y _=>mE n c a y
   | _=>false
  | .ite d a b=>match x with
   | .IfExp t l r _=>mT n c d t&&mE n c a l&&mE n c b r
   | _=>false
  | .tup es=>match x with
   | .Tuple xs _ _=>mEs n c es xs&&noStar xs
   | _=>false
  | .lst es=>match x with
   | .List xs _=>mEs n c es xs&&noStar xs
   | _=>false
  | .disS l pre st post=>match l with
   | true=>match x with
    | .List xs _=>CG n c pre st post xs
    | _=>false
   | false=>match x with
    | .Tuple xs _ _=>CG n c pre st post xs
    | _=>false
  | .pur _=>false
  | .sub a i=>match x with
   | .Subscript l r _=>mEs n c [a,i] [l,r]&&!isSlice r
   | _=>false
  | .slice a lo hi=>match x with
   | .Subscript l (.Slice u v none _) _=>mEs n c (a::(lo.toList++hi.toList)) (l::(u.toList++v.toList))&&(lo.isSome==u.isSome)&&(hi.isSome==v.isSome)
   | _=>false
  | .rev _=>false
  | .call f es=>match x with
   | .Call (.Name g _) xs [] _=>(decide (c.tab[f]?=some g)&&glB c g&&az g&&mEs n c es xs&&noStar xs)||(same g "list" && glB c g&&c.cm&&(match xs with
    | [.Call (.Attribute (.Name o _) m ap) (y::ys) [] cp]=>decide (c.vm=some (f,o))&&glB c o&&az o&&same m "made" && (ap.endLine==cp.line)&&mEs n c es (y::ys)&&noStar (y::ys)&&decide (1<(y::ys).length∧(y::ys).length<20)
    | _=>false))
   | _=>false
  | .callT _ _=>false
  | .callK _ _ _=>false
  | .bi b es=>match b with
   | .lrange=>match x with
    | .Call (.Name g _) [.Call (.Name r _) (y::xs) [] _] [] _=>same g "list" && glB c g&&same r "range" && glB c r&&mEs n c es (y::xs)&&noStar (y::xs)&&c.cm
    | _=>false
   | .trange=>match x with
    | .Call (.Name g _) [.Call (.Name r _) (y::xs) [] _] [] _=>same g "tuple" && glB c g&&same r "range" && glB c r&&mEs n c es (y::xs)&&noStar (y::xs)&&c.cm
    | _=>false
   | .maxd=>match x with
    | .Call (.Name g _) [y] [⟨some k,d,_⟩] _=>same g "max" && glB c g&&same k "default" && mEs n c es [y,d]&&noStar [y]&&c.cm
    | _=>false
   | .sset=>match x with
    | .Call (.Name g _) [.Call (.Name r _) [y] [] _] [] _=>same g "sorted" && glB c g&&same r "set" && glB c r&&mEs n c es [y]&&noStar [y]&&c.cm
    | _=>false
   | .lset=>match x with
    | .Call (.Name g _) [.Call (.Name r _) [y] [] _] [] _=>same g "len" && glB c g&&same r "set" && glB c r&&mEs n c es [y]&&noStar [y]&&c.cm
    | _=>false
   | .lenr=>match x with
    | .Call (.Name g _) [.Call (.Name r _) (y::xs) [] _] [] _=>same g "len" && glB c g&&same r "range" && glB c r&&mEs n c es (y::xs)&&noStar (y::xs)
    | _=>false
   | .join a=>match x with
    | .Call (.Attribute y nm apos) [z] [] cpos=>same nm "join" && mEs n c es [z]&&(apos.endLine==cpos.line)&&noStar [z]&&Bc c a y
    | _=>false
   | .splt a=>match x with
    | .Call (.Attribute y nm apos) [z] [] cpos=>same nm "split" && mEs n c es [y]&&(apos.endLine==cpos.line)&&noStar [y]&&noStar [z]&&Bc c a z&&lP y
    | _=>false
   | .repl a=>match es,x with
    | [.var i1,.var i2,.var i3,.var i4],.Call (.Attribute (.Name y1 _) nm apos) [.BinOp (.Constant (.str t) _ _) .Add (.Call (.Name g _) [.Name y2 _] [] _) _,.Call (.Name g2 _) [.BinOp (.Name y3 _) .Add (.Name y4 _) _] [] _] [] cpos=>same nm "replace" && same t a&&same g "str" && glB c "str" && same g2 "str" && (apos.endLine==cpos.line)&&nmB c i1 y1&&i9 c y1&&az y1&&nmB c i2 y2&&i9 c y2&&az y2&&nmB c i3 y3&&i9 c y3&&az y3&&nmB c i4 y4&&i9 c y4&&az y4
    | _,_=>false
   | .step=>match x with
    | .Subscript l (.Slice (some u) none (some v) _) _=>mEs n c es [l,u,v]
    | _=>false
   | b=>match x with
    | .Call (.Name g _) (y::xs) [] _=>same g (biS b)&&glB c g&&mEs n c es (y::xs)&&noStar (y::xs)&&c.cm
    | _=>false
  | .isi a ts=>match x with
   | .Call (.Name g _) [y,t] [] _=>same g "isinstance" && glB c g&&mE n c a y&&noStar [y,t]&&decide (ts.length≤10)&&(match t with
    | .Tuple xs _ _=>vB c ts xs&&noStar xs
    | t=>vB c ts [t])
   | _=>false
  | .meth m o es=>match x with
   | .Call (.Attribute y nm apos) xs [] cpos=>same nm (meS m)&&mE n c o y&&mEs n c es xs&&noStar xs&&p6 y&&(apos.endLine==cpos.line)&&decide (xs.length<20)
   | _=>false
  | .xf _ _ _=>false
  | .isx _ _ _=>false
  | .fld a cn nm i=>match x with
   | .Attribute (.Name y p) f _=>same f nm&&decide ((cn,nm,i)∈c.sl)&&mE n c a (.Name y p)
   | .Attribute (.Call (.Attribute b m0 p0) ys kws p) f _=>same f nm&&decide ((cn,nm,i)∈c.sl)&&mE n c a (.Call (.Attribute b m0 p0) ys kws p)
   | _=>false
  | .wk _=>false
  | .tupN _=>false
  | .tix _ _ _ _ _=>false
  | .mthM v cn nm f es=>match x with
   | .Call (.Attribute g m ap) [] [] cp=>decide ((f,cn,nm)∈c.mt)&&same m nm&&(ap.endLine==cp.line)&&mE n c (.var v) g&&es.isEmpty&&lP g
   | .Call (.Attribute g m ap) (y::ys) [] cp=>decide ((f,cn,nm)∈c.mt)&&same m nm&&(ap.endLine==cp.line)&&mE n c (.var v) g&&mEs n c es (y::ys)&&noStar (y::ys)&&decide ((y::ys).length<20)&&lP g
   | _=>false
  | .mthMK _ _ _ _ _ _ _=>false
  | .dct ks es=>match x with
   | .Dict keys vals _=>mEs n c es vals&&dX ks keys&&decide (keys.length≤15)&&decide ks.Nodup&&!keys.isEmpty&&decide (keys.length=vals.length)
   | _=>false
  | .key a k=>match x with
   | .Subscript l (.Constant (.str s) _ _) _=>same s k&&mE n c a l
   | _=>false
  | .dtk0=>match x with
   | .Dict [] [] _=>true
   | _=>false
  | .dtk1 k v=>match x with
   | .Dict [some a] [b] _=>mE n c k a&&mE n c v b
   | _=>false
  | .dgt v k d=>match x with
   | .Call (.Attribute (.Name y p) m ap) [a,b] [] cp=>same m "get" && (ap.endLine==cp.line)&&mE n c (.var v) (.Name y p)&&mE n c k a&&mE n c d b&&noStar [a,b]
   | _=>false
  | .dgt1 v k=>match x with
   | .Call (.Attribute (.Name y p) m ap) [a] [] cp=>same m "get" && (ap.endLine==cp.line)&&mE n c (.var v) (.Name y p)&&mE n c k a&&noStar [a]
   | _=>false
  | .dix v k=>match x with
   | .Subscript (.Name y p) a _=>mE n c (.var v) (.Name y p)&&mE n c k a&&!isSlice a
   | _=>false
  | .clsC v cn nm f st es=>match x with
   | .Call (.Name g p) (y::ys) [] _=>decide ((if st then c.vs else c.vn)=some (f,cn))&&mE n c (.var v) (.Name g p)&&mEs n c es (y::ys)&&noStar (y::ys)&&az g&&(!st||same nm "NoState")
   | _=>false
  | .ob o cn nm f es=>match o with
   | .mth=>match x with
    | .Call (.Attribute g m ap) [] [] cp=>decide ((f,cn,nm)∈c.mt)&&same m nm&&(ap.endLine==cp.line)&&mEs n c es [g]&&lP g
    | .Call (.Attribute g m ap) (y::ys) [] cp=>decide ((f,cn,nm)∈c.mt)&&same m nm&&(ap.endLine==cp.line)&&mEs n c es (g::y::ys)&&noStar (y::ys)&&decide ((y::ys).length<20)&&lP g
    | _=>false
   | .len=>match x with
    | .Call (.Name g _) [y] [] _=>same g "len" && glB c g&&decide (c.vn=some (f,cn))&&mEs n c es [y]&&noStar [y]
    | _=>false
   | .tupO=>match x with
    | .Call (.Name g _) [y] [] _=>same g "tuple" && glB c g&&decide (c.vn=some (f,cn))&&mEs n c es [y]&&noStar [y]&&c.cm
    | _=>false
   | .made=>match x with
    | .Call (.Attribute (.Name o _) m ap) (y::ys) [] cp=>same o cn&&decide (c.vm=some (f,o))&&glB c o&&az o&&same m "made" && (ap.endLine==cp.line)&&mEs n c es (y::ys)&&noStar (y::ys)&&decide ((y::ys).length<20)
    | _=>false
   | .isO=>false
   | .madeK _=>false
   | .new=>match x with
    | .Call (.Name g _) [y] [] _=>same g cn&&decide (c.vn=some (f,g))&&glB c g&&az g&&mEs n c es [y]&&noStar [y]
    | _=>false
   | .newL=>false
   | .tX=>false
   | .newLK _=>false
   | .contO _=>false
   | .bin sq=>match x with
    | .BinOp l p r _=>decide (Ef p=some nm)&&decide (c.vn.map (·.2)=some cn)&&decide ((f,cn,nm)∈c.mt)&&mEs n c es [l,r]&&(!sq||!same nm "__mul__")
    | _=>false
   | .mthK _=>false
   | .eqO _=>false
   | .inMix _=>false
   | .dcp=>false
   | .cm=>false
   | .cmK _=>false
   | .una=>false
   | .prop=>false
   | .mobP _ _=>false
   | .mobN _=>false
   | .st=>match x with
    | .Call (.Name g _) (y::ys) [] _=>same g cn&&decide (c.vs=some (f,g))&&glB c g&&az g&&mEs n c es (y::ys)&&noStar (y::ys)&&same nm "NoState"
    | _=>false
   | .stK _=>false
   | .cmpO _=>false
   | .binI=>false
   | .rbinI=>false
  | .lc elt tg k its ifs own=>match x with
   | .ListComp y [⟨t,it,fs,0⟩] scope _=>blkC c.N c.sc scope (qF c own)&&mTg (c.blk scope) tg t&&mI n c t k its it&&mTs n (c.blk scope) ifs fs&&mE n (c.blk scope) elt y&&uP own tg&&c.cm
   | _=>false
  | .dck ke ve tg k its own=>match x with
   | .DictComp kx vx [⟨t,it,[],0⟩] scope _=>blkC c.N c.sc scope (qF c own)&&mTg (c.blk scope) tg t&&mI n c t k its it&&mE n (c.blk scope) ke kx&&mE n (c.blk scope) ve vx&&uP own tg&&c.cm
   | _=>false
  | .lc2 elt tg k its tg2 k2 its2 own own2=>match x with
   | .ListComp y [⟨t,it,[],0⟩,⟨t2,it2,[],0⟩] scope _=>blkC c.N c.sc scope (qF c own)&&mTg (c.blk scope) tg t&&mI n c t k its it&&mTg (c.blk scope) tg2 t2&&mI n (c.blk scope) t2 k2 its2 it2
     && mE n (c.blk scope) elt y&&own2.all (fun i=>own.contains i)&&uP own tg&&uP own2 tg2&&c.cm
   | _=>false
def CG:Nat→Cxt→List E→E→List E→List Expr→Bool
 | 0,_,_,_,_,_=>false
 | n+1,c,pre,st,post,xs=>match xs.drop pre.length with
  | .Starred y _::qs=>mEs n c pre (xs.take pre.length)&&noStar (xs.take pre.length)&&mE n c st y&&mEs n c post qs&&noStar qs
  | _=>false
def mEs:Nat→Cxt→List E→List Expr→Bool
 | 0,_,_,_=>false
 | n+1,c,es,xs=>match es with
  | []=>match xs with
   | []=>true
   | _=>false
  | e::es=>match xs with
   | x::xs=>mE n c e x&&mEs n c es xs
   | []=>false
def mT:Nat→Cxt→E→Expr→Bool
 | 0,_,_,_=>false
 | n+1,c,e,x=>match e with
  | .band es=>match x with
   | .BoolOp .And xs _=>mTs n c es xs
   | _=>false
  | .bor es=>match x with
   | .BoolOp .Or xs _=>mTs n c es xs
   | _=>false
  | .bnot a=>match x with
   | .UnaryOp .Not y _=>mT n c a y
   | _=>false
  | .ite _ _ _=>false
  | e=>mE n c e x
def mTs:Nat→Cxt→List E→List Expr→Bool
 | 0,_,_,_=>false
 | n+1,c,es,xs=>match es with
  | []=>match xs with
   | []=>true
   | _=>false
  | e::es=>match xs with
   | x::xs=>mT n c e x&&mTs n c es xs
   | []=>false
def mI:Nat→Cxt→Expr→ItK→List E→Expr→Bool
 | 0,_,_,_,_,_=>false
 | n+1,c,t,k,es,x=>match k with
  | .val=>mEs n c es [x]&&!cX x
  | .valO cn f=>mEs n c es [x]&&!cX x&&decide (c.vn=some (f,cn))
  | .range=>match x with
   | .Call (.Name g _) xs [] _=>same g "range" && glB c g&&mEs n c es xs&&noStar xs
   | _=>false
  | .enum=>match x with
   | .Call (.Name g _) [y] [] _=>same g "enumerate" && glB c g&&mEs n c es [y]&&noStar [y]&&isTup t
   | _=>false
  | .zip=>match x with
   | .Call (.Name g _) [y,z] [] _=>same g "zip" && glB c g&&mEs n c es [y,z]&&noStar [y,z]&&isTup t
   | .Call (.Name g _) [y,z,w] [] _=>same g "zip" && glB c g&&mEs n c es [y,z,w]&&noStar [y,z,w]&&isTup t
   | _=>false
end
def lE:List Expr→Nat
 | x::_=>x.pos.line
 | []=>0
def zt (c:Cxt) (l:Nat) (x:Expr):Bool:=match x with
 | .Name n p=>loB c n&&(p.line==l)
 | _=>false
def BM (ys:List Expr):Bool:=!(ys.all (foldedForSure 8))&&!(ys.all (constantsAlone 8))
def dist:List Nat→Bool
 | []=>true
 | i::is=>!is.contains i&&dist is
def swB (c:Cxt) (t:Str) (l:Nat) (x:Expr):Bool:=match x with
 | .ListComp _ _ s p=>loB c t&&(l==p.line)&&!(s.names.any fun (n,k)=>n==t&&(k==.local||k==.cell))
 | _=>false
def ceB (c:Cxt) (t:Str):Bool:=match c.sc.names.lookup t with
 | some .cell=>true
 | _=>false
mutual
def mS:Nat→Cxt→S→Stmt→Bool
 | 0,_,_,_=>false
 | n+1,c,s,x=>match s with
  | .expr e=>match x with
   | .Expr y _=>mE n c e y&&!qb y
   | _=>false
  | .ret e=>match x with
   | .Return (some y) _=>mE n c e y
   | _=>false
  | .retN=>match x with
   | .Return none _=>true
   | _=>false
  | .asg t e=>match x with
   | .Assign [tx] y _=>mE n c e y&&mTg c t tx&&(match t with
    | .nm _=>match tx with
     | .Name m p=>!qb y||swB c m p.line y||ceB c m
     | _=>false
    | .tp _=>!isTup y)
   | _=>false
  | .par is es=>match x with
   | .Assign [.Tuple ts _ _] (.Tuple ys _ _) _=>mEs n c es ys&&noStar ys&&mm c is ts&&(ts.length==ys.length)&&decide (is.length≤10)&&(
     (ts.all (zt c (lE ts))&&BM ys&&dist is&&(decide (is.length=2)||decide (is.length=3))) ||
     decide (3<is.length)||(ys.all (foldedForSure 8))||!(ts.all (zt c (lE ts))))&&c.cm
   | _=>false
  | .setIx o i e=>match x with
   | .Assign [.Subscript l r _] y _=>mEs n c [e,o,i] [y,l,r]&&!isSlice r
   | _=>false
  | .setF v cn nm i e=>match x with
   | .Assign [.Attribute (.Name y p) f _] z _=>same f nm&&decide ((cn,nm,i)∈c.sl)&&mE n c e z&&mE n c (.var v) (.Name y p)
   | _=>false
  | .parF v cn fs es=>match x with
   | .Assign [.Tuple ts _ _] (.Tuple ys _ _) _=>mEs n c es ys&&noStar ys&&mFs c v cn fs ts&&decide (fs.length≤10)&&!(ts.all (zt c (lE ts)))&&c.cm
   | _=>false
  | .setK v k e=>match x with
   | .Assign [.Subscript (.Name y p) (.Constant (.str s) _ _) _] z _=>same s k&&mE n c e z&&mE n c (.var v) (.Name y p)
   | _=>false
  | .setD v k e=>match x with
   | .Assign [.Subscript (.Name y p) i _] z _=>mE n c e z&&mE n c (.var v) (.Name y p)&&mE n c k i
   | _=>false
  | .updD v e=>match x with
   | .Expr (.Call (.Attribute (.Name y p) m ap) [z] [] cp) _=>same m "update" && (ap.endLine==cp.line)&&mE n c (.var v) (.Name y p)&&mE n c e z&&noStar [z]
   | _=>false
  | .parK _ _ _=>false
  | .swapIx o1 i1 o2 i2 e=>match x with
   | .Assign [.Tuple [.Subscript l1 r1 _,.Subscript l2 r2 _] _ _] y _=>mE n c e y&&mEs n c [o1,i1] [l1,r1]&&mEs n c [o2,i2] [l2,r2]&&!isSlice r1&&!isSlice r2&&c.cm
   | _=>false
  | .aug _ _ _=>false
  | .ifs d a b=>match x with
   | .If t l r _=>mT n c d t&&mSs n c a l&&mSs n c b r
   | _=>false
  | .for_ tg k its body=>match x with
   | .For t it l [] _=>mTg c tg t&&mI n c t k its it&&mSs n c body l&&c.cm
   | _=>false
  | .while_ d body=>match x with
   | .While t l [] _=>mT n c d t&&mSs n c body l
   | _=>false
  | .pass=>match x with
   | .Pass _=>true
   | _=>false
  | .brk=>match x with
   | .Break _=>true
   | _=>false
  | .cont=>match x with
   | .Continue _=>true
   | _=>false
  | .bad=>true
  | .raise cn nms es=>match x with
   | .Raise (some (.Call (.Name g _) (y::ys) [] _)) none _=>same g cn&&glB c g&&az g&&decide ((cn,nms)∈c.xt.xc)&&mEs n c es (y::ys)&&noStar (y::ys)&&c.cm
   | .Raise (some (.Call (.Name g _) [] [] _)) none _=>same g cn&&glB c g&&az g&&decide (cn∈c.xt.xz)&&es.isEmpty&&nms.isEmpty&&c.cm
   | _=>false
  | .asgS i j e=>match x with
   | .Assign [.Tuple [t1,.Starred t2 _] _ _] y _=>mE n c e y&&mNm c i t1&&mNm c j t2&&!isTup y&&c.cm
   | _=>false
  | .raiseF cn nms es cn2 nms2 es2=>match x with
   | .Raise (some (.Call (.Name g _) (y::ys) [] _)) (some (.Call (.Name g2 _) (z::zs) [] _)) _=>same g cn&&glB c g&&az g&&decide ((cn,nms)∈c.xt.xc)&&mEs n c es (y::ys)&&noStar (y::ys)&&c.cm&&(same g2 cn2&&glB c g2&&az g2&&decide ((cn2,nms2)∈c.xt.xc)&&mEs n c es2 (z::zs)&&noStar (z::zs))
   | _=>false
def mSs:Nat→Cxt→List S→List Stmt→Bool
 | 0,_,_,_=>false
 | n+1,c,ss,xs=>match ss with
  | []=>match xs with
   | []=>true
   | _=>false
  | s::ss=>match xs with
   | x::xs=>mS n c s x&&mSs n c ss xs
   | []=>false
end
end Ev
namespace Ob
open PySem PySem.Spec PyProof.Rows L2
def mR (t:Addr):Obj:={ cls:=.type "tuple_iterator",data:=.fields #[.ref t,.int 0 0] }
def TiO (t it:Addr):HO:=.ext fun h=>h.get? it=some (mR t)
def JkO (it:Addr):HO:=.ext fun h=>∃ o,h.get? it=some o
theorem yB {P:Program} {w:World} {H:Hp} {h:Heap} {it:Addr} {o:Obj} (e:h.get? it=some o):ObjOk P w H h it (JkO it):=⟨⟨o,e⟩,⟨_,e⟩,fun a b ⟨o,q⟩ k=>⟨o,k _ q⟩⟩
section
variable {X:Cx} {pins:List (Addr × Obj)} {σ:L2.St} {H:Hp} {s:Shared}
structure ItS (K:Frag) (C fi fl:Addr):Prop where
 it:findIn K (.ref C) "__iter__" = some (some (.ref fi))
 itF:isFn K (.ref fi)=true
 ln:findIn K (.ref C) "__len__" = some (some (.ref fl))
 lnF:isFn K (.ref fl)=true
def vA (K:Frag) (C:Addr):Sp:=fun vs H Q _=>∃ (a dx t:Addr) (ws:List V),vs=[.ref a]∧SlX.Slt H a C dx [some (.ref t)]∧SqT K H t ws∧∀ it,H it=none→Q (.ref it) (upd H it (TiO t it))
def qT (K:Frag) (C:Addr):Sp:=fun vs H Q _=>∃ (a dx t:Addr) (ws:List V),vs=[.ref a]∧SlX.Slt H a C dx [some (.ref t)]∧SqT K H t ws∧Q (.int (ws.length:Nat)) H
theorem jY {H:Hp} {a C dx q:Addr} {x:Option V} {vs:List (Option V)} {o:HO} (h:SlX.Slt H a C dx (x::vs)) (d:H q=none):SlX.Slt (upd H q o) a C dx (x::vs):=by
 rcases h with ⟨c,b⟩ | ⟨c,b⟩
 ·cases b
 ·exact .inr ⟨by rw [upd_ne (ne_of_none c d)];exact c,by rw [upd_ne (ne_of_none b d)];exact b⟩
theorem dJ {K:Frag} {H:Hp} {t q:Addr} {ws:List V} {o:HO} (h:SqT K H t ws) (a:H q=none):SqT K (upd H q o) t ws:=by
 rcases h with (h | ⟨o',h⟩) | h
 ·exact .inl (.inl (by rw [upd_ne (ne_of_none h a)];exact h))
 ·exact .inl (.inr ⟨o',by rw [upd_ne (ne_of_none h a)];exact h⟩)
 ·exact .inr h
variable {C fi fl:Addr} {k:Nat}
theorem kU {g:Addr} {A1:Around} {sp:Sp} {us:List Value} {vs:List V} {Q:VK} {P:Value→Shared→Prop} {E:Value→Shared→Prop} {s1:Shared} {H1:Hp} (F:FnR X.prog X.w X.K X.mg X.base CX0 k g sp) (d:Room k A1) (c:A1.frames=X.A.frames) (I:Inv X pins σ H1 s1) (r:Vals vs us) (h:sp vs H1 Q (fun _ _ _=>False))
  (q:∀ u b,EP X pins σ Q u b→P u b):wpAny (model X.prog X.w) A1 (call (.ref g) us) P E s1:=by
 have e0:Env0 X.prog X.w X.K X.mg X.base A1 X.stack s1 H1:=by
  have e:=I.env0
  exact ⟨by rw [c];exact e.frames,e.mod,e.bs,e.bsz,e.funs,e.frf,e.hok,e.bare⟩
 refine wpAny_call (codeAny_mono (F A1 X.stack s1 H1 us vs Q _ d e0 r h) fun r b a=>?_)
 cases r with
 | error e=>exact False.elim a
 | ok fl =>
  cases fl with
  | next=>exact False.elim a
  | brk=>exact False.elim a
  | cont=>exact False.elim a
  | ret u=>exact q u b (I.after a)
theorem x8 {A1:Around} {a dx t:Addr} {ws:List V} {P:Value→Shared→Prop} {E:Value→Shared→Prop} {s1:Shared} {H1:Hp} (d:ItS X.K C fi fl) (f:FnR X.prog X.w X.K X.mg X.base CX0 k fl (qT X.K C)) (g:Room k A1.in1) (b:A1.in1.frames=X.A.frames)
  (I:Inv X pins σ H1 s1) (hs:SlX.Slt H1 a C dx [some (.ref t)]) (ht:SqT X.K H1 t ws) (l:ws.length≤sizeLine)
  (q:∀ tk c,Inv X pins σ H1 c→P (.int (ws.length:Nat) tk) c):wpAny (model X.prog X.w) A1 (call (.builtin "len") [.ref a]) P E s1:=by
 obtain ⟨sl,od,_,J,_⟩:=SlX.slt_inst I hs
 refine Calls.call_function_entry kind_len plain_len entry_len (args_len1 _) ?_
 unfold Builtin.«len»
 refine wpAny_bind (m:=oneArg "len" _) (wpAny_pure ?_)
 refine wpAny_bind (PySem.W.special_fn (name:="__len__") (args:=[]) I.kIn J d.ln (beq_iff_eq.mp d.lnF) ?_)
 refine kU (Q:=fun v e=>v=.int (ws.length:Nat)∧e=H1) f g b I (.cons (show RelV (V.ref a) (Value.ref a) from rfl) .nil) ⟨a,dx,t,ws,rfl,hs,ht,rfl,rfl⟩ fun u c h=>?_
 obtain ⟨v,e,i,j,rfl,rfl⟩:=h
 obtain ⟨tk,rfl⟩:=j
 refine wpAny_bind (wpAny_holding (wpAny_pure ?_))
 refine wpAny_bind (wpAny_letGo ?_)
 have sz:sizeLine=16777216:=sizeLine_eq
 show wpAny _ _ (if ((ws.length:Nat):Int)<0 then _ else _) _ _ _
 rw [if_neg (by omega)]
 show wpAny _ _ (if ((ws.length:Nat):Int) ≥ 2 ^ 63 then _ else _) _ _ _
 rw [if_neg (by omega)]
 exact wpAny_bind (wpAny_mkInt (wpAny_pure ⟨_,rfl,q _ _ (i.tok _)⟩))
theorem uq {A1:Around} {a dx t:Addr} {ws:List V} {Q:Bool→Shared→Prop} {E:Value→Shared→Prop} {s1:Shared} {H1:Hp} (e:ItS X.K C fi fl) (g:FnR X.prog X.w X.K X.mg X.base CX0 k fl (qT X.K C)) (h:Room k A1.in1) (c:A1.in1.frames=X.A.frames)
  (I:Inv X pins σ H1 s1) (hs:SlX.Slt H1 a C dx [some (.ref t)]) (ht:SqT X.K H1 t ws) (f:ws.length≤sizeLine)
  (q:∀ b d,Inv X pins σ H1 d→Q b d):wpAny (model X.prog X.w) A1 (Builtin.List.listLengthHint (.ref a)) Q E s1:=by
 obtain ⟨sl,od,_,J,_⟩:=SlX.slt_inst I hs
 unfold Builtin.List.listLengthHint
 refine wpAny_bind (wpAny_bind (J.type.here ((PySem.W.looks_findIn I.kIn e.ln).here ?_)))
 refine PySem.W.KFB.if_not rfl ?_
 refine wpAny_bind (wpAny_rule ?_)
 refine wpAny_bind (wpAny_attempt (x8 e g h c I hs ht f fun tk d i=>?_))
 show wpAny _ _ (asInt? (Value.int (ws.length:Nat) tk) >>= _) _ _ _
 refine wpAny_bind (wpAny_of_eq (a:=some ((ws.length:Nat):Int)) rfl ?_)
 show wpAny _ _ (if Builtin.List.listTooLong (((ws.length:Nat):Int).toNat)=true then _ else _) _ _ _
 rw [Int.toNat_natCast,notLongL f,if_neg Bool.false_ne_true]
 exact wpAny_pure (q _ _ i)
def TaO (t it:Addr) (i:Nat):HO:=.ext fun h=>IsTupIter h it t i
theorem uT {P:Program} {w:World} {H:Hp} {h:Heap} {t it:Addr} {i:Nat} (e:IsTupIter h it t i):ObjOk P w H h it (TaO t it i):=⟨e,let ⟨o,a,_⟩:=e;⟨o,a⟩,fun b c ⟨o,a,r⟩ k=>⟨o,k _ a,r⟩⟩
theorem rh {prog:Program} {w:World} {A:Around} {E:Value→Shared→Prop} {s:Shared} {it t:Addr} {i:Nat} {items:Array Value} {Q:Option Value→Shared→Prop} (f:A.handled=none)
  (hit:IsTupIter s.heap it t i) (ht:IsTup s.heap t items) (g:items[i]?=none)
  (h:∀ h',Heap.ExtBut it s.heap h'→(∃ o,h'.get? it=some o)→Q none { s with heap:=h' }):wpAny (model prog w) A (pyNext (.ref it)) Q E s:=by
 obtain ⟨o,c,j,hd⟩:=id hit
 obtain ⟨k,d,_,nt,e⟩:=ht
 unfold pyNext
 refine wpAny_bind (wpAny_attempt (wpAny_callSpecial?_slot (name:=Str.ofString "__next__") hit.typeIs slot_tupleiter_next
  (wpAny_call_entry slot_tupleiter_next hit.typeIs entry_tupleiter_next ?_ (args_tupleiter_next _))))
 show wpAny _ _ (field (.ref it) 0 >>= _) _ _ s
 refine wpAny_bind (wpAny_field c hd (x:=.ref t) rfl ?_)
 show wpAny _ _ (if (Value.ref t==Value.none)=true then _ else _) _ _ s
 rw [if_neg (show ¬ ((Value.ref t==Value.none)=true) from Bool.false_ne_true)]
 show wpAny _ _ (field (.ref it) 1 >>= _) _ _ s
 refine wpAny_bind (wpAny_field c hd (x:=.int i 0) rfl ?_)
 show wpAny _ _ (seqItems? (.ref t) >>= _) _ _ s
 refine wpAny_bind (wpAny_seqItems d e ?_)
 simp only [Int.toNat_natCast,g]
 refine wpAny_bind (wpAny_rule (wpAny_bind (wpAny_setField c hd (by simp) ?_)))
 show wpAny _ _ (newExc (.type "StopIteration") [] >>= _) _ _ _
 refine wpAny_bind ?_
 simp only [newExc,newTuple]
 refine wpAny_bind (wpAny_newObj_type ?_ (by size_fits))
 refine wpAny_bind (m:=firstArgMember _ _) (wpAny_of_eq (a:=Value.none) (by first | rfl | (simp only [firstArgMember];rfl)) ?_)
 refine wpAny_newObj_type ?_ (by size_fits)
 simp only [raiseNew]
 refine wpAny_bind (wpAny_handled ?_)
 first | rw [show A.in1.handled=none from f] | rw [f]
 refine wpAny_bind (wpAny_pure (wpAny_throw ?_))
 refine wpAny_bind (wpAny_isInstance (T:="StopIteration") (b:=true) ⟨_,Heap.get?_push_size _ rfl,rfl⟩ isSubtype_stop ?_)
 refine wpAny_pure (h _ (((Heap.SameBut.update ..).extBut.push _).push _) ⟨_,Heap.get?_push_of_some _ (Heap.get?_push_of_some _ (Heap.get?_update_self _ c (Obj.isFreed_of_fields (Obj.data_mapFields hd _))))⟩)
theorem ug {A1:Around} {t it q:Addr} {ws:List V} {res:Value} {Rs:Result→Shared→Prop} {H0:Hp} (G:A1.in1.handled=none) (Q:ws.length≤sizeLine) (hit:H0 it=none) (v:H0 q=none) (a:it≠q) (ht:SqT X.K H0 t ws)
  (c:∀ y,Inv X pins σ (upd (upd H0 q (.lst ws)) it (JkO it)) y→Rs (.ok (.ret res)) y) :
  ∀ (m i:Nat) (s:Shared),ws.length-i=m→i≤ws.length→Inv X pins σ (upd (upd H0 q (.lst (ws.take i))) it (TaO t it i)) s→codeAny (model X.prog X.w) A1 (.builtin "list.extend.loop" ⟨[.ref q,.ref it,res],[]⟩) Rs s:=by
 intro m
 induction m with
 | zero =>
  intro i s hm hi I
  have ei:i=ws.length:=by omega
  subst ei
  refine codeAny_builtin PySem.F.entry_extend_loop ?_
  rw [Around.under_plainId PySem.F.plain_extend_loop _]
  show wpAny _ A1.in1 (pyNext (.ref it) >>= _) _ _ s
  have k:IsTupIter s.heap it t ws.length:=(I.hok it _ upd_same).1
  obtain ⟨its,l,pl,_⟩:=I.tuple (dJ (dJ ht v) (by rw [upd_ne a];exact hit))
  refine wpAny_bind (rh G k pl (by rw [List.getElem?_toArray];exact l.none_of (List.getElem?_eq_none_iff.mpr (Nat.le_refl _))) fun h' sb ⟨o,j⟩=>?_)
  refine wpAny_pure (c _ ?_)
  have n:Mut ((upd (upd H0 q (.lst (ws.take ws.length))) it (TaO t it ws.length)) it):=by rw [upd_same];exact True.intro
  have d:=I.write (x:=it) (e:=it) (o:=JkO it) (h':=h') (t':=s.toks) n (.inl rfl) (fun b u nb z=>sb b u nb z) ⟨o,j⟩ (yB j)
  rw [upd_upd,List.take_length] at d
  exact d
 | succ m ih =>
  intro i s hm hi I
  refine codeAny_builtin PySem.F.entry_extend_loop ?_
  rw [Around.under_plainId PySem.F.plain_extend_loop _]
  show wpAny _ A1.in1 (pyNext (.ref it) >>= _) _ _ s
  have k:IsTupIter s.heap it t i:=(I.hok it _ upd_same).1
  obtain ⟨its,l,pl,_⟩:=I.tuple (dJ (dJ ht v) (by rw [upd_ne a];exact hit))
  have B:ws[i]?=some (ws[i]'(by omega)):=List.getElem?_eq_getElem (by omega)
  obtain ⟨u,H,J⟩:=l.get B
  refine wpAny_bind (next_tuple_item k pl (by rw [List.getElem?_toArray];exact H) fun h' C sb=>?_)
  have n:Mut ((upd (upd H0 q (.lst (ws.take i))) it (TaO t it i)) it):=by rw [upd_same];exact True.intro
  have d:=I.write (x:=it) (e:=it) (o:=TaO t it (i+1)) (h':=h') (t':=s.toks) n (.inl rfl) (fun b o nb z=>(sb.2 b nb).trans z) (let ⟨o,j,_⟩:=C;⟨o,j⟩) (uT C)
  rw [upd_upd] at d
  show wpAny _ A1.in1 (updateSeq q (·.push u) >>= _) _ _ _
  have g:upd (upd H0 q (.lst (ws.take i))) it (TaO t it (i+1)) q=some (.lst (ws.take i)):=by rw [upd_ne (fun z=>a z.symm),upd_same]
  obtain ⟨z,its2,k2,L,M,e⟩:=d.lstM g
  have N:its2.length≤i:=by rw [← M,List.length_take];omega
  refine wpAny_bind (wpAny_updateSeq e rfl (wpAny_pure ⟨plainId_quiet PySem.F.plain_extend_loop _,?_⟩) (by rw [List.size_toArray];omega) (by show (its2.toArray.push u).size≤sizeLine+1;rw [Array.size_push,List.size_toArray];omega))
  have p:=d.lset (f:=(·.push u)) (its':=its2++[u]) (ys:=ws.take i++[ws[i]'(by omega)]) (t':=s.toks) g e (by simp) (L.append (.cons J .nil)) (by rw [List.length_append,List.length_singleton,List.length_take];omega)
  have O:ws.take i++[ws[i]'(by omega)]=ws.take (i+1):=by rw [List.take_add_one,B];rfl
  rw [O] at p
  have P:upd (upd (upd H0 q (.lst (ws.take i))) it (TaO t it (i+1))) q (.lst (ws.take (i+1)))=upd (upd H0 q (.lst (ws.take (i+1)))) it (TaO t it (i+1)):=by
   funext b
   by_cases h:b=q
   ·subst h
    rw [upd_same,upd_ne (fun z=>a z.symm),upd_same]
   ·by_cases r:b=it
    ·subst r
     rw [upd_ne h,upd_same,upd_same]
    ·rw [upd_ne h,upd_ne r,upd_ne h,upd_ne r,upd_ne h]
  rw [P] at p
  exact ih (i+1) _ (by omega) (by omega) p
theorem nS (g:X.calm=true) (O:ItS X.K C fi fl) (FI:FnR X.prog X.w X.K X.mg X.base CX0 k fi (vA X.K C)) (FL:FnR X.prog X.w X.K X.mg X.base CX0 k fl (qT X.K C)) (hr:Room (k+4) X.A) :
  CallR X (.type "list") (fun xs H Q=>∃ (a dx t:Addr) (ws:List V),xs=[.ref a]∧SlX.Slt H a C dx [some (.ref t)]∧SqT X.K H t ws∧∀ q,H q=none→Q (.ref q) (upd H q (.lst ws))):=by
 intro pins s σ H xs us Q I P h
 obtain ⟨a,dx,t,ws,rfl,hs,ht,hq⟩:=h
 obtain ⟨u,rfl,ru⟩:=P.one
 cases ru
 have R:Sub X (k+4) X.A:=⟨hr,rfl⟩
 have i:Sub X (k+2) X.A.in1.in1:=Sub.in1 (Sub.in1 R)
 have B:Sub X (k+1) X.A.in1.in1.in1:=Sub.in1 i
 refine callType_codes (Q₁:=fun obj s₁=>obj=.ref s.heap.objs.size∧s₁={ s with heap:=s.heap.push { cls:=.type "list",data:=.seq #[] } }) PySem.F.called_list (PySem.F.typeCall_list_1 _) PySem.F.entry_list_init
  (code_list_new _ ⟨rfl,rfl⟩) fun obj s₁ h₁=>?_
 obtain ⟨rfl,rfl⟩:=h₁
 have N:(s.heap.push { cls:=.type "list",data:=.seq #[] }).get? s.heap.objs.size=some { cls:=.type "list",data:=.seq #[] }:=Heap.get?_push_size _ rfl
 refine ⟨⟨_,N,rfl⟩,PySem.F.args_list_init_2 _ _,?_⟩
 have fr:H s.heap.objs.size=none:=I.hok.fresh (Nat.le_refl _)
 have I1:Inv X pins σ (upd H s.heap.objs.size (.lst [])) { s with heap:=s.heap.push { cls:=.type "list",data:=.seq #[] } }:=I.lnew (its:=[]) (t':=s.toks) .nil (Nat.zero_le _)
 show wpAny _ _ (do let old ← Builtin.List.listItems (.ref s.heap.objs.size);Builtin.List.listUpdate (.ref s.heap.objs.size) (fun _=>#[]);letGo old.toList.reverse;Builtin.List.listExtendWith (.ref s.heap.objs.size) (.ref a) .none) _ _ _
 refine wpAny_bind ?_
 unfold Builtin.List.listItems
 refine wpAny_bind (wpAny_seqItems N rfl (wpAny_pure ?_))
 show wpAny _ _ (updateSeq s.heap.objs.size (fun _=>#[]) >>= fun _=>letGo (#[]:Array Value).toList.reverse >>= fun _=>Builtin.List.listExtendWith (.ref s.heap.objs.size) (.ref a) .none) _ _ _
 refine wpAny_bind (wpAny_updateSeq N rfl ?_)
 have y:=I1.lset (f:=fun _=>#[]) (its:=[]) (its':=[]) (ys:=[]) (t':=s.toks) upd_same N rfl .nil (Nat.zero_le _)
 rw [upd_upd] at y
 refine wpAny_bind (wpAny_letGo ?_)
 have j:SlX.Slt (upd H s.heap.objs.size (.lst [])) a C dx [some (.ref t)]:=jY hs fr
 have m:SqT X.K (upd H s.heap.objs.size (.lst [])) t ws:=dJ ht fr
 have n:upd H s.heap.objs.size (.lst []) s.heap.objs.size=some (.lst []):=upd_same
 generalize hgen:upd H s.heap.objs.size (.lst [])=H1 at *
 obtain ⟨sl,od,_,J,_⟩:=SlX.slt_inst y j
 obtain ⟨its,rt,pt,hz⟩:=y.tuple m
 obtain ⟨m0,hF⟩:=y.fr
 have Y:s.heap.objs.size≠a:=fun z=>by
  rcases hs with ⟨p,_⟩ | ⟨p,_⟩
  ·rw [← z,fr] at p;cases p
  ·rw [← z,fr] at p;cases p
 unfold Builtin.List.listExtendWith
 refine wpAny_bind (J.type.here ?_)
 have p:Builtin.List.listSameRef (.ref s.heap.objs.size) (.ref a)=false:=by simp [Builtin.List.listSameRef,Y]
 have h2:(Value.ref C==Value.type "list")=false:=rfl
 have h3:(Value.ref C==Value.type "tuple")=false:=rfl
 simp only [p,h2,h3,Bool.or_false,Bool.false_eq_true,if_false]
 refine wpAny_bind (PySem.W.owit_iter hF y.ok.mod.kin J O.it O.itF ?_)
 refine kU (k:=k) (Q:=fun v H2=>∃ it,v=.ref it∧H1 it=none∧H2=upd H1 it (TiO t it)) FI (i.room.mono (by omega)) ?_ y (.cons (show RelV (V.ref a) (Value.ref a) from rfl) .nil) ⟨a,dx,t,ws,rfl,j,m,fun it hit=>⟨it,rfl,hit,rfl⟩⟩ fun u s' h=>?_
 ·exact i.fr
 obtain ⟨v,H2,I3,P,it,rfl,hit,rfl⟩:=h
 cases P
 have c:it≠s.heap.objs.size:=fun z=>by rw [z,n] at hit;cases hit
 have g1:s'.heap.get? it=some (mR t):=(I3.hok it _ upd_same).1
 have hT:s'.TypeIs (.ref it) "tuple_iterator" := ⟨_,g1,rfl⟩
 unfold PySem.W.OwitIt
 refine wpAny_specialOf hT slot_tupleiter_next.lookup ?_
 have Z:=jY (o:=TiO t it) j hit
 have aa:=dJ (o:=TiO t it) m hit
 have G:ws.length≤sizeLine:=hz
 refine wpAny_bind (wpAny_holding (uq (k:=k) O FL (B.room.mono (by omega)) B.fr I3 Z aa G fun b s4 I4=>?_))
 have fin:∀ s5:Shared,Inv X pins σ (upd H1 it (TiO t it)) s5→codeAny (model X.prog X.w) X.A.in1 (.builtin "list.extend.loop" ⟨[.ref s.heap.objs.size,.ref it,.none],[]⟩) (wants (fun r s₂=>r=.none∧EP X pins σ Q (.ref s.heap.objs.size) s₂) X.xe) s5:=by
  intro s5 I5
  have d:H it=none:=by
   have:=hit
   rw [← hgen,upd_ne c] at this
   exact this
  have g5:s5.heap.get? it=some (mR t):=(I5.hok it _ upd_same).1
  have mu:Mut ((upd H1 it (TiO t it)) it):=by rw [upd_same];exact True.intro
  have e5:IsTupIter s5.heap it t 0:=⟨_,g5,rfl,rfl⟩
  have I8:=I5.write (x:=it) (e:=it) (o:=TaO t it 0) (h':=s5.heap) (t':=s5.toks) mu (.inl rfl) (fun b o nb z=>z) ⟨_,g5⟩ (uT e5)
  rw [upd_upd,← hgen] at I8
  refine ug (A1:=X.A.in1) (H0:=H) (I.ok.hd g) G d fr c ht (fun s6 I9=>?_) ws.length 0 s5 (by omega) (by omega) (by rw [List.take_zero];exact I8)
  refine ⟨rfl,.ref s.heap.objs.size,upd H s.heap.objs.size (.lst ws),?_,rfl,hq _ fr⟩
  have L:=ItX.inv_drop I9 (a:=it) upd_same
  rw [ItX.dropH_upd (by rw [upd_ne c];exact d)] at L
  exact L
 obtain ⟨z,ab,k4,r4,ad,e4⟩:=I4.lstM (l:=s.heap.objs.size) (xs:=[]) (by rw [upd_ne (fun z=>c z.symm)];exact n)
 cases r4
 refine wpAny_ite_split (fun _=>?_) (fun _=>wpAny_pure ⟨plainId_quiet PySem.F.plain_extend_loop _,fin s4 I4⟩)
 refine wpAny_bind (wpAny_rule ?_)
 refine wpAny_bind ?_
 show wpAny _ _ (updateSeq s.heap.objs.size (·.push .none) >>= fun _=>updateSeq s.heap.objs.size (·.pop)) _ _ _
 refine wpAny_bind (wpAny_updateSeq e4 rfl ?_)
 have M:upd H1 it (TiO t it) s.heap.objs.size=some (.lst []):=by rw [upd_ne (fun z=>c z.symm)];exact n
 have I6:=I4.lset (f:=(·.push Value.none)) (its':=[Value.none]) (ys:=[.non]) (t':=s4.toks) M e4 (by simp) (.cons rfl .nil) (by rw [List.length_singleton,sizeLine_eq];decide)
 obtain ⟨z6,ac,k6,r6,ae,e6⟩:=I6.lstM upd_same
 obtain ⟨u6,rfl,af⟩:=r6.one
 refine wpAny_updateSeq e6 rfl ?_ (by show 1≤sizeLine;rw [sizeLine_eq];decide) (by show 0≤sizeLine+1;exact Nat.zero_le _)
 refine wpAny_pure ⟨plainId_quiet PySem.F.plain_extend_loop _,fin _ ?_⟩
 have I7:=I6.lset (f:=(·.pop)) (its:=[u6]) (its':=[]) (ys:=[]) (t':=s4.toks) upd_same e6 (by rfl) .nil (Nat.zero_le _)
 rw [upd_upd] at I7
 have hH:upd (upd H1 it (TiO t it)) s.heap.objs.size (.lst [])=upd H1 it (TiO t it):=by
  funext b
  by_cases hb:b=s.heap.objs.size
  ·rw [hb,upd_same,M]
  ·rw [upd_ne hb]
 rw [hH] at I7
 exact I7
end
end Ob
namespace Ob
open PySem PySem.Spec PyProof.Rows L2
abbrev Ig (P:Program) (w:World) (A:Around) (R:Result→Shared→Prop):Fin→Shared→Prop:=fun fin s'=>match fin with
 | .done f=>R (.ok f) s'
 | .again c'=>c'.quiet=true∧codeAny (model P w) A c' R s'
section
variable {X:Cx} {pins:List (Addr × Obj)} {σ:L2.St} {H:Hp} {s:Shared} {C fi fl:Addr} {k:Nat}
theorem BP {g:Around} {q a dx t:Addr} {ws:List V} {res:Value} {Rs:Result→Shared→Prop} {E:Value→Shared→Prop} (O:ItS X.K C fi fl) (FI:FnR X.prog X.w X.K X.mg X.base CX0 k fi (vA X.K C)) (FL:FnR X.prog X.w X.K X.mg X.base CX0 k fl (qT X.K C))
  (p:Sub X (k+2) g.in1) (r:Sub X (k+1) g.in1.in1) (hh:g.in1.handled=none) (fr:H q=none) (y:SlX.Slt H a C dx [some (.ref t)]) (hq:SqT X.K H t ws) (B:Inv X pins σ (upd H q (.lst [])) s)
  (i:∀ G,Inv X pins σ (upd H q (.lst ws)) G→Rs (.ok (.ret res)) G) :
  wpAny (model X.prog X.w) g.in1 (Builtin.List.listExtendWith (.ref q) (.ref a) res) (Ig X.prog X.w g Rs) E s:=by
 have j:SlX.Slt (upd H q (.lst [])) a C dx [some (.ref t)]:=jY y fr
 have m:SqT X.K (upd H q (.lst [])) t ws:=dJ hq fr
 have n:upd H q (.lst []) q=some (.lst []):=upd_same
 generalize hgen:upd H q (.lst [])=H1 at *
 obtain ⟨sl,od,_,J,_⟩:=SlX.slt_inst B j
 obtain ⟨its,rt,pt,hz⟩:=B.tuple m
 obtain ⟨m0,hF⟩:=B.fr
 have P:q≠a:=fun z=>by
  rcases y with ⟨I,_⟩ | ⟨I,_⟩
  ·rw [← z,fr] at I;cases I
  ·rw [← z,fr] at I;cases I
 unfold Builtin.List.listExtendWith
 refine wpAny_bind (J.type.here ?_)
 have c1:Builtin.List.listSameRef (.ref q) (.ref a)=false:=by simp [Builtin.List.listSameRef,P]
 have c2:(Value.ref C==Value.type "list")=false:=rfl
 have c3:(Value.ref C==Value.type "tuple")=false:=rfl
 simp only [c1,c2,c3,Bool.or_false,Bool.false_eq_true,if_false]
 refine wpAny_bind (PySem.W.owit_iter hF B.ok.mod.kin J O.it O.itF ?_)
 refine kU (k:=k) (Q:=fun v H2=>∃ it,v=.ref it∧H1 it=none∧H2=upd H1 it (TiO t it)) FI (p.room.mono (by omega)) ?_ B (.cons (show RelV (V.ref a) (Value.ref a) from rfl) .nil) ⟨a,dx,t,ws,rfl,j,m,fun it hit=>⟨it,rfl,hit,rfl⟩⟩ fun u G h=>?_
 ·exact p.fr
 obtain ⟨v,H2,I3,rv,it,rfl,hit,rfl⟩:=h
 cases rv
 have c:it≠q:=fun z=>by rw [z,n] at hit;cases hit
 have g1:G.heap.get? it=some (mR t):=(I3.hok it _ upd_same).1
 have hT:G.TypeIs (.ref it) "tuple_iterator" := ⟨_,g1,rfl⟩
 unfold PySem.W.OwitIt
 refine wpAny_specialOf hT slot_tupleiter_next.lookup ?_
 have R:=jY (o:=TiO t it) j hit
 have Y:=dJ (o:=TiO t it) m hit
 have L:ws.length≤sizeLine:=hz
 refine wpAny_bind (wpAny_holding (uq (k:=k) O FL (r.room.mono (by omega)) r.fr I3 R Y L fun b s4 Z=>?_))
 have fin:∀ s5:Shared,Inv X pins σ (upd H1 it (TiO t it)) s5→codeAny (model X.prog X.w) g (.builtin "list.extend.loop" ⟨[.ref q,.ref it,res],[]⟩) Rs s5:=by
  intro s5 I5
  have d:H it=none:=by
   have:=hit
   rw [← hgen,upd_ne c] at this
   exact this
  have g5:s5.heap.get? it=some (mR t):=(I5.hok it _ upd_same).1
  have mu:Mut ((upd H1 it (TiO t it)) it):=by rw [upd_same];exact True.intro
  have e5:IsTupIter s5.heap it t 0:=⟨_,g5,rfl,rfl⟩
  have I8:=I5.write (x:=it) (e:=it) (o:=TaO t it 0) (h':=s5.heap) (t':=s5.toks) mu (.inl rfl) (fun b o nb z=>z) ⟨_,g5⟩ (uT e5)
  rw [upd_upd,← hgen] at I8
  refine ug (A1:=g) (H0:=H) hh L d fr c hq (fun s6 I9=>?_) ws.length 0 s5 (by omega) (by omega) (by rw [List.take_zero];exact I8)
  refine i _ ?_
  have M:=ItX.inv_drop I9 (a:=it) upd_same
  rw [ItX.dropH_upd (by rw [upd_ne c];exact d)] at M
  exact M
 obtain ⟨z,aa,k4,r4,ac,e4⟩:=Z.lstM (l:=q) (xs:=[]) (by rw [upd_ne (fun z=>c z.symm)];exact n)
 cases r4
 refine wpAny_ite_split (fun _=>?_) (fun _=>wpAny_pure ⟨plainId_quiet PySem.F.plain_extend_loop _,fin s4 Z⟩)
 refine wpAny_bind (wpAny_rule ?_)
 refine wpAny_bind ?_
 show wpAny _ _ (updateSeq q (·.push .none) >>= fun _=>updateSeq q (·.pop)) _ _ _
 refine wpAny_bind (wpAny_updateSeq e4 rfl ?_)
 have N:upd H1 it (TiO t it) q=some (.lst []):=by rw [upd_ne (fun z=>c z.symm)];exact n
 have I6:=Z.lset (f:=(·.push Value.none)) (its':=[Value.none]) (ys:=[.non]) (t':=s4.toks) N e4 (by simp) (.cons rfl .nil) (by rw [List.length_singleton,sizeLine_eq];decide)
 obtain ⟨z6,ab,k6,r6,ad,e6⟩:=I6.lstM upd_same
 obtain ⟨u6,rfl,ae⟩:=r6.one
 refine wpAny_updateSeq e6 rfl ?_ (by show 1≤sizeLine;rw [sizeLine_eq];decide) (by show 0≤sizeLine+1;exact Nat.zero_le _)
 refine wpAny_pure ⟨plainId_quiet PySem.F.plain_extend_loop _,fin _ ?_⟩
 have I7:=I6.lset (f:=(·.pop)) (its:=[u6]) (its':=[]) (ys:=[]) (t':=s4.toks) upd_same e6 (by rfl) .nil (Nat.zero_le _)
 rw [upd_upd] at I7
 have hH:upd (upd H1 it (TiO t it)) q (.lst [])=upd H1 it (TiO t it):=by
  funext b
  by_cases hb:b=q
  ·rw [hb,upd_same,N]
  ·rw [upd_ne hb]
 rw [hH] at I7
 exact I7
theorem qO {A:Around} {a dx t:Addr} {ws:List V} {Q:List Value→Shared→Prop} {E:Value→Shared→Prop} (g:ItS X.K C fi fl) (i:FnR X.prog X.w X.K X.mg X.base CX0 k fi (vA X.K C)) (j:FnR X.prog X.w X.K X.mg X.base CX0 k fl (qT X.K C))
  (c:Sub X (k+2) A.in1) (d:Sub X (k+1) A.in1.in1) (m:A.in1.handled=none) (hs:SlX.Slt H a C dx [some (.ref t)]) (ht:SqT X.K H t ws) (I:Inv X pins σ H s)
  (n:∀ us b q,H q=none→Vals ws us→ws.length≤sizeLine→Inv X pins σ (upd H q (.lst ws)) b→Q us b):wpAny (model X.prog X.w) A (collect (.ref a)) Q E s:=by
 have fr:H s.heap.objs.size=none:=I.hok.fresh (Nat.le_refl _)
 unfold collect
 refine wpAny_bind (wpAny_runValue (codeAny_builtin F.entry_proto_collect ?_))
 rw [Around.under_plainId F.plain_proto_collect _]
 show wpAny _ A.in1 (newList [] >>= fun l=>again (.builtin "list.__iadd__" ⟨[l,.ref a],[]⟩)) _ _ s
 refine wpAny_bind (wpAny_newObj_type ?_)
 refine wpAny_pure ⟨plainId_quiet F.plain_list_iadd _,codeAny_builtin F.entry_list_iadd ?_⟩
 rw [Around.under_plainId F.plain_list_iadd _]
 have o:Inv X pins σ (upd H s.heap.objs.size (.lst [])) { s with heap:=s.heap.push { cls:=.type "list",data:=.seq ([]:List Value).toArray } }:=I.lnew (its:=[]) (t':=s.toks) .nil (Nat.zero_le _)
 show wpAny _ A.in1 (Builtin.List.listExtendWith (.ref s.heap.objs.size) (.ref a) (.ref s.heap.objs.size)) _ _ _
 refine wpAny_mono (BP (Rs:=fun r b=>match r with
  | .ok (.ret v)=>wpAny (model X.prog X.w) A (match v with
    | .ref a=>do
     match (← load a).data with
     | .seq xs _=>pure xs.toList
     | _=>unsupported "internal:collect"
    | _=>unsupported "internal:collect") Q E b
  | .ok _=>False
  | .error e=>E e b) g i j c d m fr hs ht o fun b f=>?_) (fun fin b h=>by cases fin<;>exact h) fun _ _ e=>e
 obtain ⟨z,its,u,r,x,e⟩:=f.lstM upd_same
 show wpAny _ A (load s.heap.objs.size >>= _) _ _ b
 refine wpAny_bind (wpAny_load e ?_)
 refine wpAny_pure (n _ _ _ fr ?_ ?_ f)
 ·simpa using r
 ·obtain ⟨_,_,_,p⟩:=I.tuple ht
  exact p
theorem Ds {a dx t:Addr} {ws:List V} {Q:VK} (Y:ItS X.K C fi fl) (Z:FnR X.prog X.w X.K X.mg X.base CX0 k fi (vA X.K C)) (FL:FnR X.prog X.w X.K X.mg X.base CX0 k fl (qT X.K C)) (cm:X.calm=true) (hr:Room (k+5) X.A) (hs:SlX.Slt H a C dx [some (.ref t)]) (ht:SqT X.K H t ws) (I:Inv X pins σ H s)
  (hQ:∀ y,H y=none→Q (.ref y) (upd H y (.tup ws))):wpAny (model X.prog X.w) X.A (call (.type "tuple") [.ref a]) (EP X pins σ Q) X.xe s:=by
 have j:Sub X (k+5) X.A:=⟨hr,rfl⟩
 have m:=Sub.in1 j
 have n:=Sub.in1 m
 have d:=Sub.in1 n
 have p:=Sub.in1 d
 have r:X.A.handled=none:=I.ok.hd cm
 obtain ⟨sl,od,_,J,_⟩:=SlX.slt_inst I hs
 refine callType_codes (Q₁:=fun obj i=>i.TypeIs obj "tuple" ∧ EP X pins σ Q obj i) F.called_tuple (F.typeCall_tuple_1 _) F.entry_object_init ?_ fun obj i h₁ =>
  ⟨h₁.1,F.args_object_init_2 obj _,object_init_meets F.called_tuple.init.lookup F.called_tuple.made (by decide) X.prog X.w X.A.in1 _ i ⟨h₁.1,rfl,h₁.2⟩⟩
 refine codeAny_of_tree ?_
 show wpAny _ X.A.in1.in1 (do checkBuiltinCall "tuple.__new__" ⟨[.type "tuple",.ref a],[]⟩;again (.builtin "tuple.__new__" ⟨[.type "tuple",.ref a],[]⟩)) _ _ s
 refine wpAny_bind (wpAny_of_eq (F.newCall_tuple_1 _) (wpAny_pure ⟨plainId_quiet F.plain_tuple_new _,codeAny_builtin F.entry_tuple_new ?_⟩))
 rw [Around.under_plainId F.plain_tuple_new _]
 have L:=sub_tuple_self
 have u:=init_tuple_lookup
 have aa:=madeHere_tuple
 have B:∀ {Q':Value→Shared→Prop} {E:Value→Shared→Prop} {M:Model} {A:Around},Q' (.ref C) s→wpAny M A (typeOf (.ref a)) Q' E s:=fun h=>J.type.here h
 have ab:(Value.ref C==Value.type "tuple")=false:=rfl
 have f:∀ {Q':List Value→Shared→Prop} {E:Value→Shared→Prop},(∀ us c q,H q=none→Vals ws us→ws.length≤sizeLine→Inv X pins σ (upd H q (.lst ws)) c→Q' us c)→wpAny (model X.prog X.w) X.A.in1.in1 (collect (.ref a)) Q' E s:=fun h=>qO (k:=k) Y Z FL d p r hs ht I h
 wp_walk using B,f
 intro us c q hq N O P
 show wpAny _ _ (Builtin.Tuple.tupleExact us.toArray >>= fun v=>ret v) _ _ _
 obtain ⟨_,R,n1,_,_,g1⟩:=P.lstM (l:=q) (xs:=ws) upd_same
 have mu:Mut ((upd H q (.lst ws)) q):=by rw [upd_same];exact True.intro
 have g:=P.write (x:=q) (e:=q) (o:=JkO q) (h':=c.heap) (t':=c.toks) mu (.inl rfl) (fun b o nb z=>z) ⟨_,g1⟩ (yB g1)
 rw [upd_upd] at g
 have G:=ItX.inv_drop g (a:=q) upd_same
 rw [ItX.dropH_upd hq] at G
 unfold Builtin.Tuple.tupleExact
 refine wpAny_bind (wpAny_newObj_type ?_ (by show us.toArray.size≤sizeLine;rw [List.size_toArray,← N.length];exact O))
 refine wpAny_pure ?_
 have I3:Inv X pins σ (upd H c.heap.objs.size (.tup ws)) { c with heap:=c.heap.push { cls:=.type "tuple",data:=.seq us.toArray } } :=
  G.laid (t':=c.toks) (fun b o e=>Heap.get?_push_of_some _ e) (Nat.le_refl _) (show ObjOk X.prog X.w _ _ _ (.tup ws) from ⟨O,us,N,IsTup.new _ _⟩)
 exact ⟨⟨_,Heap.get?_push_size _ rfl,rfl⟩,.ref _,_,I3,rfl,hQ _ (G.hok.fresh (Nat.le_refl _))⟩
end
end Ob
namespace HsW
open PySem
open Sem (wp)
def gz (b:Addr) (s:Shared):Prop:=b<s.heap.objs.size∧s.heap.get? b=none
theorem lJ {b:Addr} {s:Shared} {o:Obj} (h:gz b s):gz b { s with heap:=s.heap.push o }:=by
 obtain ⟨a,c⟩:=h
 refine ⟨by show b<(s.heap.push o).objs.size;rw [Heap.size_push];exact Nat.lt_succ_of_lt a,?_⟩
 show (s.heap.push o).get? b=none
 have e:(s.heap.push o).objs[b]?=s.heap.objs[b]?:=by
  show (s.heap.objs.push o)[b]?=_
  rw [Array.getElem?_push,if_neg (Nat.ne_of_lt a)]
 unfold Heap.get? at c ⊢
 rw [e]
 exact c
theorem p9 {b a:Addr} {s:Shared} {f:Obj→Obj} (ha:(s.heap.get? a).isSome=true) (h:gz b s):gz b { s with heap:=s.heap.update a f }:=by
 have n:a≠b:=fun z=>by rw [z,h.2] at ha;cases ha
 exact ⟨by show b<(s.heap.update a f).objs.size;rw [(Heap.SameBut.update s.heap a f).1];exact h.1,by show (s.heap.update a f).get? b=none;rw [Heap.get?_update_other _ _ n];exact h.2⟩
theorem bJ {b:Addr} {s:Shared} {g:Nat} {x:GenState} (h:gz b s):gz b (s.setGen g x):=h
theorem gH {M:Model} {Γ:Ctx} {p:Pos} {t:Sem PySem.Fin} {fs:List Frame} {s a:Shared} {e:End} {b:Addr} (h:Runs M Γ p t fs s e a):gz b s→gz b a:=by
 induction h with
 | done=>exact id
 | raise=>exact id
 | again _ _ ih=>exact ih
 | rule _ ih=>exact ih
 | «at» _ ih=>exact ih
 | load _ _ ih=>exact ih
 | update ha _ ih=>exact fun h=>ih (p9 ha h)
 | loadIfAlive _ ih=>exact ih
 | point _ ih=>exact ih
 | alloc _ ih=>exact fun h=>ih (lJ h)
 | fresh _ ih=>exact ih
 | ask _ ih=>exact ih
 | choose _ _ ih=>exact ih
 | os _ ih=>exact ih
 | handled _ ih=>exact ih
 | genState _ _ ih=>exact ih
 | stack _ ih=>exact ih
 | thread _ ih=>exact ih
 | newGen _ ih=>exact ih
 | call _ _ i1 i2=>exact fun h=>i2 (i1 h)
 | callSusp _ ih=>exact ih
 | yield=>exact id
 | resumeFresh _ _ _ _ i1 i2=>exact fun h=>i2 (bJ (i1 (bJ h)))
 | resumeSuspended _ _ _ _ i1 i2=>exact fun h=>i2 (bJ (i1 (bJ h)))
 | resumeJustStarted _ _ _ ih=>exact ih
 | resumeThrowFresh _ _ ih=>exact fun h=>ih (bJ h)
 | resumeRunning _ _ ih=>exact ih
 | resumeFinished _ _ ih=>exact ih
 | segRet _ _ i1 i2=>exact fun h=>i2 (i1 h)
 | segGen _ _ i1 i2=>exact fun h=>i2 (bJ (i1 h))
 | segSuspOut _ _ ih=>exact ih
 | segSuspGen _ _ _ _ i1 i2=>exact fun h=>i2 (bJ (i1 h))
theorem qC {M:Model} {Γ:Ctx} {p:Pos} {g:Nat} {r:Resume} {s c:Shared} {res:GenResult} {b:Addr} (h:Wakes M Γ p g r s res c) (d:gz b s):gz b c:=by
 unfold Wakes at h
 split at h
 ·exact h.elim
 ·split at h
  ·obtain ⟨e,f,a,_,_,rfl⟩:=h
   exact bJ (gH a (bJ d))
  ·rw [h.2];exact d
  ·rw [h.2];exact bJ d
 ·obtain ⟨e,f,a,_,_,rfl⟩:=h
  exact bJ (gH a (bJ d))
 ·rw [h.2];exact d
 ·rw [h.2];exact d
theorem zb {α:Type} (M:Model) (Γ:Ctx) (D:Addr→Prop) (t:Sem α):∀ (Q:α→Pos→Shared→Prop) (E:Value→Pos→Shared→Prop) (p:Pos) (s:Shared),(∀ b,D b→gz b s)→wp M Γ t Q E p s →
  wp M Γ t (fun a j d=>(∀ b,D b→gz b d)∧Q a j d) (fun e j d=>(∀ b,D b→gz b d)∧E e j d) p s:=by
 induction t with
 | pure a=>intro Q E p s hn h;exact ⟨hn,h⟩
 | raise e=>intro Q E p s hn h;exact ⟨hn,h⟩
 | unsupported _=>intro Q E p s _ h;exact h
 | finish _=>intro Q E p s _ h;exact h
 | rule _ k ih=>intro Q E p s hn h;exact ih () Q E p s hn h
 | «at» j k ih=>intro Q E p s hn h;exact ih () Q E j s hn h
 | load a _ k ih=>intro Q E p s hn h;obtain ⟨o,n,h⟩:=h;exact ⟨o,n,ih o Q E p s hn h⟩
 | update a _ f k ih=>intro Q E p s hn h;exact ⟨h.1,ih () Q E p _ (fun b i=>p9 h.1 (hn b i)) h.2⟩
 | loadIfAlive a k ih=>intro Q E p s hn h;exact ih _ Q E p s hn h
 | point _ k ih=>intro Q E p s hn h;exact ih () Q E p s hn h
 | register _ _=>intro Q E p s _ h;exact h
 | alloc o k ih=>intro Q E p s hn h;exact ih _ Q E p _ (fun b i=>lJ (hn b i)) h
 | fresh k ih=>intro Q E p s hn h;exact ih _ Q E p _ hn h
 | ask k ih=>intro Q E p s hn h;exact ih _ Q E p s hn h
 | choose src m k ih=>intro Q E p s hn h;exact ⟨h.1,ih _ Q E p _ hn h.2⟩
 | os q _ k ih=>intro Q E p s hn h;exact ih _ Q E p _ hn h
 | call c hd _ _ k ih=>intro Q E p s hn h;obtain ⟨r,d,l,h⟩:=h;exact ⟨r,d,l,ih r Q E p d (fun b i=>gH l (hn b i)) h⟩
 | handled own k ih=>intro Q E p s hn h;exact ih _ Q E p s hn h
 | genState g k ih=>intro Q E p s hn h;obtain ⟨st,hs,h⟩:=h;exact ⟨st,hs,ih _ Q E p s hn h⟩
 | newGen c k ih=>intro Q E p s hn h;exact ih _ Q E p _ hn h
 | resume g r _ k ih=>intro Q E p s hn h;obtain ⟨res,d,hw,h⟩:=h;exact ⟨res,d,hw,ih res Q E p d (fun b i=>qC hw (hn b i)) h⟩
 | yield _ _ _ _=>intro Q E p s _ h;exact h
 | stack k ih=>intro Q E p s hn h;exact ih _ Q E p s hn h
 | fork _ _=>intro Q E p s _ h;exact h
 | thread k ih=>intro Q E p s hn h;exact ih _ Q E p s hn h
 | await _ _ _ _ _=>intro Q E p s _ h;exact h
theorem qH {α:Type} {M:Model} {A:Around} {s:Shared} {t:Sem α} {Q:α→Shared→Prop} {E:Value→Shared→Prop} (h:wpAny M A t Q E s):wpAny M A t (fun a c=>(∀ b,gz b s→gz b c)∧Q a c) E s :=
 wpAny_mono (fun Γ p hΓ=>zb M Γ (fun b=>gz b s) t _ _ p s (fun _ z=>z) (h Γ p hΓ):wpAny M A t (fun a c=>(∀ b,gz b s→gz b c)∧Q a c) (fun e c=>(∀ b,gz b s→gz b c)∧E e c) s) (fun _ _ x=>x) fun _ _ x=>x.2
end HsW
namespace Ob
open PySem PySem.Spec PyProof.Rows L2
section
variable {X:Cx} {pins:List (Addr × Obj)} {σ:L2.St} {H:Hp} {s:Shared} {C fi fl:Addr} {k:Nat}
theorem sS {g:Addr} {A1:Around} {sp:Sp} {us:List Value} {vs:List V} {Q:VK} {P:Value→Shared→Prop} {E:Value→Shared→Prop} {s1:Shared} {H1:Hp} (F:FnR X.prog X.w X.K X.mg X.base CX0 k g sp) (f:Room k A1) (d:A1.frames=X.A.frames) (I:Inv X pins σ H1 s1) (r:Vals vs us) (h:sp vs H1 Q (fun _ _ _=>False))
  (q:∀ u c,CE X.stack X.prog X.w H1 s1 Q u c→(∀ b,HsW.gz b s1→HsW.gz b c)→P u c):wpAny (model X.prog X.w) A1 (call (.ref g) us) P E s1:=by
 have e0:Env0 X.prog X.w X.K X.mg X.base A1 X.stack s1 H1:=by
  have e:=I.env0
  exact ⟨by rw [d];exact e.frames,e.mod,e.bs,e.bsz,e.funs,e.frf,e.hok,e.bare⟩
 refine wpAny_mono (HsW.qH (Q:=fun u c=>CE X.stack X.prog X.w H1 s1 Q u c) (wpAny_call (codeAny_mono (F A1 X.stack s1 H1 us vs Q _ f e0 r h) fun r c a=>?_))) (fun u c z=>q u c z.2 z.1) fun _ _ z=>z
 cases r with
 | error e=>exact False.elim a
 | ok fl =>
  cases fl with
  | next=>exact False.elim a
  | brk=>exact False.elim a
  | cont=>exact False.elim a
  | ret u=>exact a
theorem zm {Q:VK} {H1:Hp} {s1 a:Shared} {it:Addr} {u:Value} {o o':HO} {H':Hp} (un:Un (frs X.stack) [] H1 H' s1.heap a.heap) (hd:∀ b,HsW.gz b s1→HsW.gz b a) (h0:H1 it=none) (d:H' it=some o) (c:∃ ob,a.heap.get? it=some ob):s1.heap.objs.size≤it:=by
 rcases Nat.lt_or_ge it s1.heap.objs.size with lt | ge
 ·exfalso
  cases e:s1.heap.get? it with
  | none =>
   obtain ⟨ob,c⟩:=c
   have:=(hd it ⟨lt,e⟩).2
   rw [c] at this
   cases this
  | some ob =>
   have:=un.free it ob e h0 (by simp)
   rw [d] at this
   cases this
 ·exact ge
def iOb (K:Frag) (C:Addr) (tl:TE):TI:=fun σ H R=>tl σ H fun x H1=>∃ a dx t ws,x=.ref a∧SlX.Slt H1 a C dx [some (.ref t)]∧SqT K H1 t ws∧R (Itt K t) H1
theorem Gm {l tg:Expr} {tl:TE} (i:ItS X.K C fi fl) (r:FnR X.prog X.w X.K X.mg X.base CX0 k fi (vA X.K C)) (y:Room k X.A) (z:PE X l tl):PI X tg l (iOb X.K C tl):=by
 refine ⟨fun pins s σ H R I h=>?_⟩
 refine thn (z.run pins s σ H _ I h) fun v s1 ⟨x,H1,c,r1,B⟩=>?_
 obtain ⟨a,dx,t,ws,e,hs,ht,q⟩:=B
 subst e
 cases r1
 obtain ⟨sl,od,_,J,_⟩:=SlX.slt_inst c hs
 obtain ⟨m0,F⟩:=c.fr
 refine PySem.W.owit_iter F c.ok.mod.kin J i.it i.itF ?_
 refine sS (k:=k) (Q:=fun v j=>∃ it,v=.ref it∧H1 it=none∧j=upd H1 it (TiO t it)) r y rfl c (.cons (show RelV (V.ref a) (Value.ref a) from rfl) .nil) ⟨a,dx,t,ws,rfl,hs,ht,fun it hit=>⟨it,rfl,hit,rfl⟩⟩ fun u m d hd=>?_
 have f:=d
 obtain ⟨v,j,_,_,un,hok,G,it,rfl,hit,rfl⟩:=f
 cases G
 have g1:m.heap.get? it=some (mR t):=(hok it _ upd_same).1
 have far:s1.heap.objs.size≤it:=zm (X:=X) (Q:=fun _ _=>True) (u:=.none) (o':=TiO t it) un hd hit upd_same ⟨_,g1⟩
 obtain ⟨v2,P,n,g,it2,L,o,M⟩:=c.after d
 subst L M
 cases g
 have N:m.TypeIs (.ref it) "tuple_iterator" := ⟨_,g1,rfl⟩
 unfold PySem.W.OwitIt
 refine wpAny_specialOf N slot_tupleiter_next.lookup ?_
 have p:=ItX.inv_drop (φ:=fun h=>h.get? it=some (mR t)) n upd_same
 have fp:=ItX.inv_fp n (u:=TiO t it) upd_same (Nat.le_trans c.sz far)
 rw [ItX.dropH_upd hit] at p fp
 refine ⟨it,[it],_,_,H1,rfl,p,turn_tuple t it,⟨_,g1,rfl,rfl⟩,fun b O=>?_,q⟩
 have e:b=it:=by simpa using O
 rw [e]
 exact fp
end
end Ob
namespace Ev
open PySem PySem.Spec PyProof.Rows L2
section
variable {K:Frag} {F F' H H' F0 H0 F1 H1:Hp} {W W' W0 W1:Fp} {σ:L2.St} {δ δ':Dl}
theorem aB.toV {Wt:Fp} (p:aB K F0 H0 W0 F H σ δ W Wt) {a:A} {v:V} {d:D} (h:AOk K F H σ v a Wt) (e:toV δ a=some (d,δ')):∃ F',aB K F0 H0 W0 F' H σ δ' W Wt∧Ow K F' H v d Wt:=by
 obtain ⟨F',q,o⟩:=h.toV p.ok p.dj p.lt e
 exact ⟨F',⟨q.ok,q.dj,q.lt,p.ext.trans q.ext⟩,o⟩
theorem aB.bL {Wt:Fp} (p:aB K F0 H0 W0 F H σ δ W Wt) {as:List A} {vs:List V} {ds:List D} (h:fD K F H σ vs as Wt) (e:bL δ as=some (ds,δ')):∃ F',aB K F0 H0 W0 F' H σ δ' W Wt∧OwL K F' H vs ds Wt:=by
 obtain ⟨F',q,o⟩:=h.bL p.ok p.dj p.lt e
 exact ⟨F',⟨q.ok,q.dj,q.lt,p.ext.trans q.ext⟩,o⟩
theorem aB.share {Wt:Fp} (p:aB K F0 H0 W0 F H σ δ W Wt):aB K F0 H0 W0 (fzH F H Wt) H σ δ W No:=by
 have s:=p.ok.sub
 refine ⟨⟨iU s,p.ok.st.keep (bT s) fun b q o a f=>⟨a,by rw [gF fun z=>p.dj b z q];exact f⟩,p.ok.lv⟩,fun _ q=>q.elim,fun _ q=>q.elim,?_⟩
 refine ⟨p.ext.fsub.trans (bT s),fun b o e=>?_,p.ext.keep,p.ext.live,fun b q=>p.ext.wnew b (.inr (q.elim False.elim id))⟩
 rcases iq e with z | z
 ·exact p.ext.fnew b o z
 ·exact .inr (p.ext.wnew b (.inl z))
theorem aB.dz {Wt:Fp} (p:aB K F0 H0 W0 F H σ δ W Wt) {v:V} {d:D} (o:Ow K F H v d Wt):∃ F',aB K F0 H0 W0 F' H σ δ W No∧Rp K F' v d.frz:=⟨_,p.share,o.share p.ok.sub fun _ q=>q⟩
theorem aB.gL {Wt:Fp} (p:aB K F0 H0 W0 F H σ δ W Wt) {vs:List V} {ds:List D} (o:OwL K F H vs ds Wt):∃ F',aB K F0 H0 W0 F' H σ δ W No∧RpL K F' vs (frzs ds):=⟨_,p.share,o.share p.ok.sub fun _ q=>q⟩
theorem aB.drop {Wt:Fp} (p:aB K F0 H0 W0 F H σ δ W Wt):aB K F0 H0 W0 F H σ δ W No:=p.kQ fun _ q=>q.elim
theorem aB.vp {Wt:Fp} (p:aB K F0 H0 W0 F H σ δ W Wt) {a:Fp} (n:New F H F' H' a):aB K F0 H0 W0 F' H' σ δ W a:=p.aA (.new p.ok n)
theorem aB.tX {Wt:Fp} (p:aB K F0 H0 W0 F H σ δ W Wt) {a:Fp} (n:New F H F' H' a):Dj Wt (Un2 a W)∧aB K F0 H0 W0 F' H' σ δ W (Un2 Wt a):=p.dF (.new p.ok n)
def bH (lock:List Nat) (σ σ':L2.St):Prop:=∀ i,lock.contains i=true→σ'[i]?=σ[i]?
theorem bH.refl {lock:List Nat} {σ:L2.St}:bH lock σ σ:=fun _ _=>rfl
theorem bH.trans {lock:List Nat} {σ σ1 c:L2.St} (a:bH lock σ σ1) (b:bH lock σ1 c):bH lock σ c:=fun i h=>(b i h).trans (a i h)
def j6 (is:List Nat) (σ σ':L2.St):Prop:=σ'.length=σ.length∧∀ i,i ∉ is→σ'[i]?=σ[i]?
theorem j6.refl {is:List Nat} {σ:L2.St}:j6 is σ σ:=⟨rfl,fun _ _=>rfl⟩
theorem gR {lock:List Nat} {i:Nat} {d:D} (e:cR lock i d δ=some δ'):i<δ.length∧lock.contains i=false∧δ'=δ.set i (some d):=by
 unfold cR at e
 split at e
 ·rename_i c
  cases e
  simp only [Bool.and_eq_true,decide_eq_true_eq,Bool.not_eq_true'] at c
  exact ⟨c.1,c.2,rfl⟩
 ·cases e
theorem aB.put {Wt:Fp} (p:aB K F0 H0 W0 F H σ δ W Wt) {lock:List Nat} {i:Nat} {v:V} {d:D} {U:Fp} (o:Ow K F H v d U) (s:∀ b,U b→Wt b) (e:cR lock i d δ=some δ') :
  aB K F0 H0 W0 F H (σ.set i (some v)) δ' (Un2 U W) No∧bH lock σ (σ.set i (some v))∧j6 [i] σ (σ.set i (some v)):=by
 obtain ⟨c,f,rfl⟩:=gR e
 refine ⟨⟨⟨p.ok.sub,p.ok.st.put c o (fun b q=>p.dj b (s b q)) (fun b q=>.inr q) fun b q=>.inl q,fun b q=>?_⟩,fun _ q=>q.elim,fun _ q=>q.elim,p.ext.mono (fun _ q=>q) fun b q=>.inl ?_⟩,fun j a=>?_,?_,fun j a=>?_⟩
 ·rcases q with q | q
  ·exact p.lt b (s b q)
  ·exact p.ok.lv b q
 ·rcases q with q | q | q
  ·exact q.elim
  ·exact .inl (s b q)
  ·exact .inr q
 ·rw [List.getElem?_set_ne]
  rintro rfl
  rw [f] at a
  cases a
 ·simp
 ·rw [List.getElem?_set_ne]
  rintro rfl
  simp at a
theorem j6.set {is:List Nat} {σ b:L2.St} {i:Nat} {x:Option V} (h:j6 is (σ.set i x) b):j6 (i::is) σ b :=
 ⟨by rw [h.1,List.length_set],fun j a=>by
  simp only [List.mem_cons,not_or] at a
  rw [h.2 j a.2,List.getElem?_set_ne (fun e=>a.1 e.symm)]⟩
end
def vy:List Str:=["len","abs","min","max","sum","int","list","tuple","sorted","all","any","divmod","range","enumerate","zip","isinstance","bool","str","dict","set"]
inductive yJ (K:Frag) (F H:Hp) (io:List Nat):Nat→List V→List D→Fp→Prop
 | nil {j:Nat} {W:Fp}:yJ K F H io j [] [] W
 | skip {j:Nat} {v:V} {vs:List V} {ds:List D} {W:Fp}:io.contains j=false→yJ K F H io (j+1) vs ds W→yJ K F H io j (v::vs) ds W
 | one {j:Nat} {v:V} {vs:List V} {d:D} {ds:List D} {W W1 W2:Fp}:io.contains j=true→(bY d=true∨deep io=true)→Ow K F H v d W1→yJ K F H io (j+1) vs ds W2→Dj W1 W2→(∀ b,W1 b→W b)→(∀ b,W2 b→W b)→yJ K F H io j (v::vs) (d::ds) W
def lg (K:Frag) (call:List D→Option (D × List D)) (io:List Nat):List V→Hp→VK→Prop:=fun vs H Q=>∃ (F:Hp) (W:Fp) (ds:List D) (r:D) (outs:List D),Same F H∧OwL K F H vs ds W∧(∀ b,W b→H b≠none)∧call ds=some (r,outs) ∧
 ∀ v F' H' Wr Wo,Ow K F' H' v r Wr→yJ K F' H' io 0 vs outs Wo→Dj Wr Wo→Same F' H'→(∀ b,Un2 Wr Wo b→H' b≠none)→Ext F H W F' H' (Un2 Wr Wo)→Q v H'
abbrev Hb {α:Type} (perm:List Nat) (d:α) (l:List α):List α:=perm.map fun i=>l.getD i d
def xH (K:Frag) (fd:FuncData) (ps:List Str) (p:KwP):Prop:=(∀ (s:Shared) (us ws:List Value),us.length=p.n→ws.length=p.ks.length→BindsTo s fd ⟨us,p.ks.zip ws⟩ (ps.zip (Hb p.perm .none (us++ws))))∧p.perm.Nodup∧∀ i∈p.perm,i<p.n+p.ks.length
end Ev
namespace Ob
open PySem PySem.Spec PyProof.Rows L2 Ev
def je (d:D) (rs:List D):Prop:=∃ δ1 δ2,evS CI 99 CK [none,some d,none,none,none]=some (.nx δ1)∧evS CI2 98 B4 δ1=some (.nx δ2)∧slot δ2 2=some (.tup rs)∧fzs rs=true
def yO (K:Frag) (C:Addr):Sp:=fun vs H Q _=>∃ (F:Hp) (W:Fp) (x dx:Addr) (v:V) (d:D) (rs:List D),vs=[.ref x,v]∧Same F H∧Ow K F H v d W∧(∀ b,W b→H b≠none)∧je d rs∧SlX.Slt H x C dx []∧¬ W x∧¬ W dx ∧
 ∀ (F' H':Hp) (W':Fp) (t:Addr) (ws:List V),Ext F H W F' H' W'→Same F' H'→SqT K F' t ws→RpL K F' ws rs→Q .non (SlX.slH H' x C dx [some (.ref t)])
def zN (K:Frag) (F:Hp) (v:V) (d:D) (rs:List D):Prop:=je d rs∧((∃ o ns,d=.lst o rs∧intsOf rs=some ns)∨∃ ns a ws,d=.tup rs∧intsOf rs=some ns∧v=.ref a∧CP F a ws∧RpL K F ws rs)
def zA (K:Frag) (C:Addr):Sp:=fun vs H Q _=>∃ (F:Hp) (W:Fp) (x dx:Addr) (v:V) (d:D) (rs:List D),vs=[.ref x,v]∧Same F H∧Ow K F H v d W∧(∀ b,W b→H b≠none)∧zN K F v d rs∧SlX.Slt H x C dx []∧¬ W x∧¬ W dx ∧
 ∀ (F' H':Hp) (W':Fp) (t:Addr) (ws:List V),Ext F H W F' H' W'→Same F' H'→CP F' t ws→RpL K F' ws rs→Q .non (SlX.slH H' x C dx [some (.ref t)])
structure iV (C0:Ev.Ctx) (it:Nat) (ways:List (Str × Nat)) (rule items lap:D) (rs:List D):Prop where
 ex:∃ (w:Str) (f:Nat) (d:D) (δ1 δ2 δ3:Dl),evS C0 99 (.asg (.nm 4) (.call it [.var 1])) [none,some rule,some items,some lap,none,none]=some (.nx δ1) ∧
  evE C0 97 (.sub (.var 4) (.int 0)) δ1=some (.tmp (.str w),δ2)∧ways.lookup w=some f∧δ2[5]?=some none ∧
  evE C0 96 (.call f [(.bi .tuple1 [.var 2]),.var 3,.var 4]) δ2=some (.tmp d,δ3)∧je d rs
def rO (K:Frag) (C:Addr) (C0:Ev.Ctx) (it:Nat) (ways:List (Str × Nat)):Sp:=fun vs H Q _=>∃ (F:Hp) (W:Fp) (v1 v2 v3:V) (rule items lap:D) (rs:List D),vs=[.ref C,v1,v2,v3]∧Same F H∧OwL K F H [v1,v2,v3] [rule,items,lap] W∧(∀ b,W b→H b≠none)∧iV C0 it ways rule items lap rs ∧
 ∀ (F' H':Hp) (W':Fp) (x dx t:Addr) (ws:List V),Ext F H W F' H' W'→Same F' H'→SqT K F' t ws→RpL K F' ws rs→fzs rs=true→SlX.Slt H' x C dx [some (.ref t)]→H x=none→H dx=none→F' x=none→F' dx=none→dx≠x→Q (.ref x) H'
structure OcF (K:Frag) (mg:Str→Option Value) (cn:Str) (C:Addr):Prop where
 mgC:mg cn=some (.ref C)
 nsC:nsIn K mainGlobals cn=some (some (.ref C))
 sC:SlX.SCls K C
 iC:SlX.SIsi K C
 sf:PySem.W.selfFirst K C=true
 ne:findIn K (.ref C) "__ne__" = some (some (.builtin "object.__ne__"))
 ty:typeIn K (.ref C)=some (.type "type")
 ls:subIn K (.ref C) (.type "list")=some false
 tp:subIn K (.ref C) (.type "tuple")=some false
structure OcR (P:Program) (w:World) (K:Frag) (mg:Str→Option Value) (base:Heap) (C:Addr):Prop where
 ex:∃ (fI fi fl:Addr) (fdI fdl:FuncData),Mk K C fI∧FnOk P w K mg base CX0 1 fI fdI ["self","items"] (yO K C)∧FnOk P w K mg base CX0 1 fI fdI ["self","items"] (zA K C)∧xH K fdI ["self","items"] ⟨1,["items"],[0,1]⟩∧Binds K fdI ["self","items"] []∧ItS K C fi fl∧FnOk P w K mg base CX0 1 fl fdl ["self"] (qT K C)∧Binds K fdl ["self"] []∧∃ fdi:FuncData,FnOk P w K mg base CX0 1 fi fdi ["self"] (vA K C)∧Binds K fdi ["self"] []
def Iw (K:Frag) (C:Addr):Sp:=fun vs H Q _=>∃ (x dx:Addr) (a b u:Int),vs=[.ref x,.int a,.int b,.int u]∧u<a∧SlX.Slt H x C dx []∧H dx≠none∧dx≠x ∧
 ∀ (H':Hp) (t:Addr),SlX.Slt H' x C dx [some (.int b),some (.ref t),some (.int a),some (.int u)]→H' t=some (.tup [.int a,.int b,.int u])→H t=none→(∀ c o,H c=some o→c≠x→c≠dx→H' c=some o)→(∀ c,H' c=none→H c=none)→Q .non H'
abbrev PSt:List Str:=["self","size","lap","used"]
structure OsR (P:Program) (w:World) (K:Frag) (mg:Str→Option Value) (base:Heap) (C:Addr):Prop where
 ex:∃ (fI:Addr) (fdI:FuncData),Mk K C fI∧FnOk P w K mg base CX0 1 fI fdI PSt (Iw K C)∧Binds K fdI PSt []∧∀ p∈IC,xH K fdI PSt p
structure OsF (K:Frag) (C:Addr):Prop where
 ad:∃ g:Addr,findIn K (.ref C) "__add__" = some (some (.ref g))
 ra:∃ g:Addr,findIn K (.ref C) "__radd__" = some (some (.ref g))
 rs:findIn K (.ref C) "__rsub__" = some none
 si:subIn K (.ref C) (.type "int")=some false
abbrev PLd:List Str:=["self","items","rule","way","workers","batch","ends"]
abbrev ldE (it:Nat):List E:=[(.bi .tuple1 [.var 1]),(.call it [.var 2])]
abbrev HW (items rule:D) (way:Str) (wk bt:Int) (en:Str):Dl:=[none,some items,some rule,some (.str way),some (.int wk),some (.int bt),some (.str en)]
def HX (C0:Ev.Ctx) (it:Nat) (ds rs:List D):Prop:=∃ (items rule a b:D) (way en:Str) (wk bt:Int) (as:List A) (δ1 δ2:Dl),ds=[items,rule,.str way,.int wk,.int bt,.str en]∧rs=[.int bt,.int 0,.tup [],.str en,a,b,.str way,.int wk] ∧
 aN C0 99 (ldE it) (HW items rule way wk bt en)=some (as,δ1)∧bL δ1 as=some ([a,b],δ2)∧a.fz=true∧b.fz=true
def IH (K:Frag) (C:Addr) (C0:Ev.Ctx) (it:Nat):Sp:=fun vs H Q _=>∃ (F:Hp) (W:Fp) (x dx:Addr) (v1 v2:V) (items rule a b:D) (way en:Str) (wk bt:Int) (as:List A) (δ1 δ2:Dl),vs=[.ref x,v1,v2,.str way,.int wk,.int bt,.str en]∧Same F H∧OwL K F H [v1,v2] [items,rule] W∧(∀ b,W b→H b≠none) ∧
 aN C0 99 (ldE it) (HW items rule way wk bt en)=some (as,δ1)∧bL δ1 as=some ([a,b],δ2)∧a.fz=true∧b.fz=true∧SlX.Slt H x C dx []∧H dx≠none∧dx≠x∧¬ W x∧¬ W dx ∧
 ∀ (F' H1 H':Hp) (W':Fp) (t:Addr) (u1 u2:V),Ext F H W F' H1 W'→Same F' H1→Rp K F' u1 a→Rp K F' u2 b→H1 t=none→H' x=some (SlX.SlO x C dx ([.int bt,.int 0,.ref t,.str en,u1,u2,.str way,.int wk].map some))→H' dx=some (.xd [])→H' t=some (.tup [])→(∀ c,c≠x→c≠dx→c≠t→H' c=H1 c)→Q .non H'
def LdB (K:Frag) (fd:FuncData) (ks:List Str):Prop:=∃ (g:List Value→List Value→List Value) (gV:List V→List V→List V),KBn K fd PLd 3 ks g gV∧∀ vs zs,vs.length=3→zs.length=ks.length→gV vs zs=vs++vz kA [.str "turns",.int 1,.int 1,.str "short"] ks zs
def LdP (K:Frag) (fd:FuncData) (m:Nat) (ks:List Str):Prop:=∃ (g:List Value→List Value→List Value) (gV:List V→List V→List V),KBn K fd PLd (m+1) ks g gV∧∀ vs zs,vs.length=m+1→zs.length=ks.length→gV vs zs=vs++(vz (Ed.drop m) [.non,.non] ks zs++vz kA [.str "turns",.int 1,.int 1,.str "short"] ks zs)
structure LdR (P:Program) (w:World) (K:Frag) (mg:Str→Option Value) (base:Heap) (C:Addr) (kc:Nat) (C0:Ev.Ctx) (it:Nat):Prop where
 ex:∃ (fI:Addr) (fdI:FuncData),Mk K C fI∧FnOk P w K mg base CX0 kc fI fdI PLd (IH K C C0 it)∧(∀ ks∈Iu,LdB K fdI ks)∧∀ p∈IA,LdP K fdI p.1 p.2
structure Ee (K:Frag) (C:Addr) (f:Str) (p g:Addr):Prop where
 at_:findIn K (.ref C) f=some (some (.ref p))
 get:specialIn K (.ref p) "__get__" = some (some (.builtin "property.__get__"))
 tk:takesIn K (.ref p)=some true
 rc:∃ rest,PySem.W.recIn K p "property" = some (.ref g::rest)
structure r8 (P:Program) (w:World) (K:Frag) (mg:Str→Option Value) (base:Heap) (cn:Str) (C:Addr) (k:Nat) (C0:Ev.Ctx) (it:Nat) (ways:List (Str × Nat)):Prop where
 mgC:mg cn=some (.ref C)
 nsC:nsIn K mainGlobals cn=some (some (.ref C))
 ex:∃ (mc:Value) (pr g fi fl:Addr) (fd fdi fdl:FuncData),ClX.CRead K C mc∧ClX.CMet K C mc "made" pr g∧ItS K C fi fl∧FnOk P w K mg base CX0 k g fd ["cls","rule","items","lap"] (rO K C C0 it ways)∧Binds K fd ["cls","rule","items","lap"] [] ∧
  FnOk P w K mg base CX0 k fi fdi ["self"] (vA K C)∧Binds K fdi ["self"] []∧FnOk P w K mg base CX0 k fl fdl ["self"] (qT K C)∧Binds K fdl ["self"] []∧∀ p∈BO,xH K fd ["cls","rule","items","lap"] p
end Ob
namespace Ev
open PySem PySem.Spec PyProof.Rows L2
structure Br (X:Cx) (C:Ctx) (tab:List Str) (kt:Nat→List KwP):Prop where
 fn:∀ f g,tab[f]?=some g→az g=true→∀ ds r outs,C.call f ds=some (r,outs)→∃ (a:Addr) (fd:FuncData) (ps:List Str) (sp:Sp) (k:Nat),X.mg g=some (.ref a)∧keepIn X.K (.ref a)=true∧Room k X.A∧FnOk X.prog X.w X.K X.mg X.base CX0 k a fd ps sp∧Binds X.K fd ps []∧(∀ p∈kt f,xH X.K fd ps p) ∧
  ∀ vs H Q E,lg X.K (C.call f) (C.io f) vs H Q→sp vs H Q E
def Fv (K:Frag) (w:World) (mg:Str→Option Value) (y:Str) (ps:List (Str × Int)):Prop:=∃ (d:Addr) (es:Array DictEntry) (n:Nat),mg y=some (.ref d)∧L2.KDict K w d es n ∧
 ∀ z:Str,∃ r,nsIn K d z=some r∧match ps.lookup z with
  | some i=>∃ t,r=some (.int i t)
  | none=>r=none
def wU (K:Frag) (w:World) (mg:Str→Option Value) (y:Str) (k:Kc):Prop:=match k with
 | .dct ps=>Fv K w mg y ps
 | k=>∃ u v,mg y=some u∧RelV v u∧∀ F:Hp,Rp K F v k.toD
def Dy (mg:Str→Option Value) (t:Str) (c:V) (cv:Value):Prop:=ClsV c cv∧(mg t=some cv∨(mg t=none∧bootBuiltins t=some cv∧t≠"__name__"))
def FP (K:Frag) (fd:FuncData) (ps:List Str) (ks al:List Str):Prop:=∃ (g:List Value→List Value→List Value) (gV:List V→List V→List V),KBn K fd ps 1 ks g gV∧∀ vs zs,vs.length=1→zs.length=ks.length→gV vs zs=vs++vz al (al.map fun _=>V.non) ks zs
structure E7 (K:Frag) (mg:Str→Option Value) (t:Hi):Prop where
 xf:∀ cn nm,(cn,nm)∈t.xf→∃ C:Addr,nsIn K mainGlobals cn=some (some (.ref C))∧XfC K C∧findIn K (.ref C) nm=some none
 xi:∀ cn nm b,(cn,nm,b)∈t.xi→∃ (C:Addr) (c:V) (cv:Value),nsIn K mainGlobals cn=some (some (.ref C))∧Dy mg nm c cv∧ExcC K C∧PySem.W.kitOne K (.ref C) cv=some b
 xn:∀ nm∈t.xn,∃ (c:V) (cv:Value),Dy mg nm c cv∧PySem.W.kitOne K (.type "NoneType") cv=some false
theorem E7.nil {K:Frag} {mg:Str→Option Value}:E7 K mg {}:=⟨fun _ _ h=>(nomatch h),fun _ _ _ h=>(nomatch h),fun _ h=>(nomatch h)⟩
structure XOk (C:Ctx) (X:Cx) (c:Cxt):Prop where
 hN:X.N=c.N
 nd:X.N.Nodup
 sc:X.env.scope=c.sc
 fn:X.fn=c.fn
 calm:c.cm=true→X.calm=true
 kind:c.sc.kind=.function
 own:PassesOwn (model X.prog X.w) X.A X.env X.xe
 units:X.A.units+65<cLine
 blt:∀ b∈vy,X.mg b=none
 call:Br X C c.tab c.kt
 con:∀ y k,c.gc.lookup y=some k→wU X.K X.w X.mg y k
 vm:∀ f cn,c.vm=some (f,cn)→(∀ ds,C.call f ds=none)∨∃ (Ca:Addr) (kc it:Nat) (C0:Ctx) (ways:List (Str × Nat)),Ob.r8 X.prog X.w X.K X.mg X.base cn Ca kc C0 it ways∧Room (kc+4) X.A∧C.io f=[] ∧
  ∀ ds r outs,C.call f ds=some (r,outs)→∃ rule items lap rs,ds=[rule,items,lap]∧r=.lst true rs∧outs=[]∧Ob.iV C0 it ways rule items lap rs
 mt:∀ f cn nm,(f,cn,nm)∈c.mt→∀ ds r outs,C.call f ds=some (r,outs)→∃ (Ca g:Addr) (fd:FuncData) (ps:List Str) (sp:Sp) (k:Nat),nsIn X.K mainGlobals cn=some (some (.ref Ca))∧SlX.SCls X.K Ca∧L2.Meth X.K Ca nm g∧Room (k+1) X.A∧FnOk X.prog X.w X.K X.mg X.base CX0 k g fd ps sp∧Binds X.K fd ps []∧(∀ p∈c.kt f,xH X.K fd ps p) ∧
  ∀ vs H Q E,lg X.K (C.call f) (C.io f) vs H Q→sp vs H Q E
 vn:∀ f cn,c.vn=some (f,cn)→∃ Ca:Addr,Ob.OcF X.K X.mg cn Ca∧((∀ ds,C.call f ds=none)∨(Ob.OcR X.prog X.w X.K X.mg X.base Ca∧Room 6 X.A∧C.io f=[]∧∀ ds r outs,C.call f ds=some (r,outs)→∃ d rs,ds=[d]∧r=.lst true rs∧outs=[]∧Ob.je d rs))
 sl:∀ cn nm i,(cn,nm,i)∈c.sl→∃ Ca:Addr,nsIn X.K mainGlobals cn=some (some (.ref Ca))∧SlX.SCls X.K Ca∧∃ p:Addr,SlX.Slot1 X.K Ca nm p i
 exo:E7 X.K X.mg c.xt
 vs:∀ f cn,c.vs=some (f,cn)→∃ Ca:Addr,Ob.OcF X.K X.mg cn Ca∧Ob.OsF X.K Ca∧((∀ ds,C.call f ds=none)∨(Ob.OsR X.prog X.w X.K X.mg X.base Ca∧Room 6 X.A∧∀ ds r outs,C.call f ds=some (r,outs)→∃ a b u:Int,ds=[.int a,.int b,.int u]∧r=.lst true (if u<a then [.int b,.tup [.int a,.int b,.int u],.int a,.int u] else [])))
 vl:∀ f cn,c.vl=some (f,cn)→(∀ ds,C.call f ds=none)∨∃ (Ca:Addr) (kc it:Nat) (C0:Ctx),X.mg cn=some (.ref Ca)∧nsIn X.K mainGlobals cn=some (some (.ref Ca))∧Ob.LdR X.prog X.w X.K X.mg X.base Ca kc C0 it∧Room (kc+4) X.A∧∀ ds r outs,C.call f ds=some (r,outs)→∃ rs,r=.lst true rs∧Ob.HX C0 it ds rs
 km:∀ f cn nm ks al,(f,cn,nm,ks,al)∈c.km→∀ ds r outs,C.call f ds=some (r,outs)→∃ (Ca g:Addr) (fd:FuncData) (ps:List Str) (sp:Sp) (k:Nat),nsIn X.K mainGlobals cn=some (some (.ref Ca))∧SlX.SCls X.K Ca∧L2.Meth X.K Ca nm g∧Room (k+1) X.A∧FnOk X.prog X.w X.K X.mg X.base CX0 k g fd ps sp∧FP X.K fd ps ks al ∧
  ∀ vs H Q E,lg X.K (C.call f) (C.io f) vs H Q→sp vs H Q E
 pr:∀ f cn nm,(f,cn,nm)∈c.pr→∀ ds r outs,C.call f ds=some (r,outs)→∃ (Ca p g:Addr) (fd:FuncData) (ps:List Str) (sp:Sp) (k:Nat),nsIn X.K mainGlobals cn=some (some (.ref Ca))∧SlX.SCls X.K Ca∧Ob.Ee X.K Ca nm p g∧Room (k+1) X.A∧FnOk X.prog X.w X.K X.mg X.base CX0 k g fd ps sp∧Binds X.K fd ps [] ∧
  ∀ vs H Q E,lg X.K (C.call f) (C.io f) vs H Q→sp vs H Q E
 cms:∀ f cn nm,(f,cn,nm)∈c.cms→∀ ds r outs,C.call f ds=some (r,outs)→∃ (Ca p g:Addr) (mc:Value) (fd:FuncData) (ps:List Str) (sp:Sp) (k:Nat),X.mg cn=some (.ref Ca)∧nsIn X.K mainGlobals cn=some (some (.ref Ca))∧ClX.CRead X.K Ca mc∧ClX.CMet X.K Ca mc nm p g∧Room (k+1) X.A∧FnOk X.prog X.w X.K X.mg X.base CX0 k g fd ps sp∧Binds X.K fd ps []∧(∀ p∈c.kt f,xH X.K fd ps p) ∧
  ∀ vs H Q E,lg X.K (C.call f) (C.io f) vs H Q→sp vs H Q E
theorem XOk.blk {C:Ctx} {X:Cx} {c:Cxt} (h:XOk C X c) {own:List (Str × Nat)} {scope:Scope} (b:blkC c.N c.sc scope own=true) (s:Shared) (H:Hp) (a:Addr) (cl:List (Str × Addr)) (fp:List Addr):XOk C (X.blk s H scope (compEnvC scope cl a X.env) fp) (c.blk scope) where
 hN:=h.hN
 nd:=h.nd
 sc:=by show relS scope X.env.scope=relS scope c.sc;rw [h.sc]
 fn:=rfl
 calm:=h.calm
 kind:=(blkOk_by b).kind
 own:=PassesOwn.never
 units:=h.units
 blt:=h.blt
 call:=⟨h.call.fn⟩
 con:=h.con
 vm:=h.vm
 mt:=h.mt
 vn:=h.vn
 sl:=h.sl
 exo:=h.exo
 vs:=h.vs
 vl:=h.vl
 km:=h.km
 pr:=h.pr
 cms:=h.cms
section
variable {C:Ctx} {X:Cx} {c:Cxt}
theorem XOk.vis (h:XOk C X c) {x:Str} (e:i9 c x=true):Vis X.env.scope x:=by
 unfold i9 at e
 rw [h.sc]
 unfold Vis
 split at e
 ·rename_i q;exact .inl q
 ·rename_i q;exact .inr (.inl q)
 ·rename_i q;exact .inr (.inr q)
 ·cases e
theorem XOk.st (h:XOk C X c) {x:Str} (e:stB c x=true):Loc X.env.scope x∧(X.fn x=true∨X.env.scope.names.lookup x=some .local):=by
 unfold stB at e
 unfold L2.Loc
 rw [h.sc]
 split at e
 ·rename_i q;exact ⟨.inl q,.inr q⟩
 ·rename_i q;exact ⟨.inr q,.inl (by rw [h.fn];exact e)⟩
 ·cases e
theorem XOk.lo (h:XOk C X c) {x:Str} (e:loB c x=true):X.env.scope.names.lookup x=some .local:=by
 unfold loB at e
 rw [h.sc]
 split at e
 ·assumption
 ·cases e
theorem XOk.gl (h:XOk C X c) {x:Str} (e:glB c x=true):Gl X x:=by
 unfold glB at e
 show X.env.scope.names.lookup x=some .globalImplicit
 rw [h.sc]
 split at e
 ·assumption
 ·cases e
theorem XOk.nm (h:XOk C X c) {i:Nat} {x:Str} (e:nmB c i x=true):X.N[i]?=some x:=by
 rw [h.hN]
 exact of_decide_eq_true e
theorem au {x y:Str} (e:same x y=true):x=y:=of_decide_eq_true e
theorem aX {x:Str} (e:az x=true):(x==("__debug__" : Str))=false∧(x==("__classdict__" : Str))=false:=by
 unfold az at e
 simpa using e
def tWG (X:Cx) (tg:Expr):TG:=fun v σ H Q=>∀ pins s u,Inv X pins σ H s→RelV v u→wpAny (model X.prog X.w) X.A (assign tg X.env u) (fun _ s'=>∃ σ' H',Inv X pins σ' H' s'∧Q σ' H') X.xe s
theorem yn {tg:Expr}:PG X tg (tWG X tg):=⟨fun pins s σ H v u Q I r h=>h pins s u I r⟩
theorem tM {tg:Expr} {g:TG} {v:V} {σ:L2.St} {H:Hp} {Q:L2.St→Hp→Prop} (h:PG X tg g) (q:g v σ H Q):tWG X tg v σ H Q:=fun pins s u I r=>h.run pins s σ H v u Q I r q
def Gi:List Nat→TGs
 | []=>gNil
 | i::is=>gCons (gName i) (Gi is)
theorem eS (env:Env):∀ {is:List Nat} {xs:List Expr},mm c is xs=true→(assignEach xs env).length=is.length∧(assignEach xs env).findIdx? (·.1)=none
 | [],[],_=>⟨rfl,rfl⟩
 | [],_::_,e=>by simp [mm] at e
 | _::_,[],e=>by simp [mm] at e
 | i::is,x::xs,e=>by
  simp only [mm,Bool.and_eq_true] at e
  obtain ⟨a,b⟩:=eS env e.2
  unfold mNm at e
  split at e
  ·have q:∀ n p,assignEach (.Name n p::xs) env=(false,assign (.Name n p) env)::assignEach xs env:=fun n p=>rfl
   rw [q]
   exact ⟨by rw [List.length_cons,a];rfl,by rw [List.findIdx?_cons];simp [b]⟩
  ·simp at e
theorem jN (h:XOk C X c):∀ {is:List Nat} {xs:List Expr},mm c is xs=true→PGs X xs (Gi is)
 | [],[],_=>pgs_nil
 | [],_::_,e=>by simp [mm] at e
 | _::_,[],e=>by simp [mm] at e
 | i::is,x::xs,e=>by
  simp only [mm,Bool.and_eq_true] at e
  have t:=jN h e.2
  have a:=e.1
  unfold mNm at a
  split at a
  ·rw [Bool.and_eq_true] at a
   obtain ⟨l,f⟩:=h.st a.2
   exact pgs_cons (pg_name h.nd (h.nm a.1) l f) t rfl
  ·cases a
theorem fj {K:Frag} {F0 H0 F H:Hp} {W0:Fp} {lock:List Nat}:∀ {is:List Nat} {ds:List D} {vs:List V} {σ:L2.St} {δ δ':Dl} {W Wt:Fp} {Q:L2.St→Hp→Prop},aB K F0 H0 W0 F H σ δ W Wt→OwL K F H vs ds Wt→cE lock is ds δ=some δ' →
  (∀ a W',aB K F0 H0 W0 F H a δ' W' No→bH lock σ a→j6 is σ a→Q a H)→Gi is vs σ H Q
 | [],ds,vs,σ,δ,δ',W,Wt,Q,p,o,e,k=>by
  cases ds with
  | nil =>
   cases o
   simp only [cE,Option.some.injEq] at e
   subst e
   exact ⟨rfl,k _ _ p.drop .refl .refl⟩
  | cons d ds=>simp [cE] at e
 | i::is,ds,vs,σ,δ,δ',W,Wt,Q,p,o,e,k=>by
  cases ds with
  | nil=>simp [cE] at e
  | cons d ds =>
   unfold cE at e
   split at e
   ·rename_i δ1 c
    cases o with
    | @cons v vs _ _ _ W1 W2 o1 o2 dj s1 s2 =>
     obtain ⟨q,f,of⟩:=p.put o1 s1 c
     refine ⟨v,vs,rfl,?_⟩
     have p2:aB K F0 H0 W0 F H (σ.set i (some v)) δ1 (Un2 W1 W) W2:=by
      refine ⟨q.ok,fun b z z2=>?_,fun b z=>p.lt b (s2 b z),p.ext.mono (fun _ q=>q) fun b z=>.inl ?_⟩
      ·rcases z2 with z2 | z2
       ·exact dj b z2 z
       ·exact p.dj b (s2 b z) z2
      ·rcases z with z | z | z
       ·exact .inl (s2 b z)
       ·exact .inl (s1 b z)
       ·exact .inr z
     exact fj p2 o2 e fun a W' g lk' of'=>k a W' g (f.trans lk') of'.set
   ·cases e
theorem tu (h:XOk C X c) {t:Tg} {tx:Expr} {d:D} {v:V} {σ:L2.St} {F0 H0 F H:Hp} {δ δ':Dl} {W0 W Wt:Fp} {lock:List Nat} {Q:L2.St→Hp→Prop} (m:mTg c t tx=true) (p:aB X.K F0 H0 W0 F H σ δ W Wt) (o:Ow X.K F H v d Wt) (e:setT lock t d δ=some δ')
  (k:∀ b W',aB X.K F0 H0 W0 F H b δ' W' No→bH lock σ b→j6 (G1 t) σ b→Q b H):tWG X tx v σ H Q:=by
 cases t with
 | nm i =>
  simp only [mTg] at m
  unfold mNm at m
  split at m
  ·rw [Bool.and_eq_true] at m
   obtain ⟨l,f⟩:=h.st m.2
   obtain ⟨q,s,of⟩:=p.put o (fun _ q=>q) (show cR lock i d δ=some δ' from e)
   exact tM (pg_name h.nd (h.nm m.1) l f) (k _ _ q s of)
  ·cases m
 | tp is =>
  simp only [mTg] at m
  split at m
  ·cases d with
   | tup ds =>
    simp only [setT] at e
    split at e
    ·rename_i fz
     obtain ⟨a,xs,rfl,sq,r⟩:=Vw.tup ⟨_,o⟩
     obtain ⟨m,mc⟩:=Bool.and_eq_true_iff.mp m
     obtain ⟨g,j⟩:=eS X.env m
     have n:xs.length=is.length:=by
      have l1:=r.length
      have:∀ {is:List Nat} {ds:List D} {δ δ':Dl},cE lock is ds δ=some δ'→ds.length=is.length:=by
       intro is
       induction is with
       | nil=>intro ds δ δ' e;cases ds<;>simp_all [cE]
       | cons i is ih =>
        intro ds δ δ' e
        cases ds with
        | nil=>simp [cE] at e
        | cons d ds =>
         unfold cE at e
         split at e
         ·rw [List.length_cons,List.length_cons,ih e]
         ·cases e
      rw [l1,this e]
     refine tM (pg_tup (h.calm mc) (jN h m) g j) ⟨a,xs,rfl,af p.ok.sub sq,n,?_⟩
     exact fj p.drop (.of r) e k
    ·cases e
   | lst ol ds =>
    simp only [setT] at e
    split at e
    ·rename_i fz
     obtain ⟨a,xs,rfl,u,l1,r⟩:=Vw.lst p.ok.sub ⟨_,o⟩
     obtain ⟨m,mc⟩:=Bool.and_eq_true_iff.mp m
     obtain ⟨g,j⟩:=eS X.env m
     have n:xs.length=is.length:=by
      have:∀ {is:List Nat} {ds:List D} {δ δ':Dl},cE lock is ds δ=some δ'→ds.length=is.length:=by
       intro is
       induction is with
       | nil=>intro ds δ δ' e;cases ds<;>simp_all [cE]
       | cons i is ih =>
        intro ds δ δ' e
        cases ds with
        | nil=>simp [cE] at e
        | cons d ds =>
         unfold cE at e
         split at e
         ·rw [List.length_cons,List.length_cons,ih e]
         ·cases e
      rw [l1,this e]
     refine tM (pg_lst (h.calm mc) (jN h m) g j) ⟨a,xs,rfl,SqL.of u,n,?_⟩
     exact fj p.drop (.of (r fz)) e k
    ·cases e
   | _=>simp [setT] at e
  ·cases m
end
end Ev
namespace Ev
open PySem PySem.Spec PyProof.Rows L2
section
variable {K:Frag} {F F' H H' F0 H0:Hp} {σ:L2.St}
inductive OwO (K:Frag) (F H:Hp):List V→List (Option D)→Fp→Prop
 | nil {W:Fp}:OwO K F H [] [] W
 | skip {v:V} {vs:List V} {os:List (Option D)} {W:Fp}:OwO K F H vs os W→OwO K F H (v::vs) (none::os) W
 | one {v:V} {vs:List V} {d:D} {os:List (Option D)} {W W1 W2:Fp}:Ow K F H v d W1→OwO K F H vs os W2→Dj W1 W2→(∀ b,W1 b→W b)→(∀ b,W2 b→W b)→OwO K F H (v::vs) (some d::os) W
theorem OwO.grow (s:Same F F'):∀ {vs:List V} {os:List (Option D)} {W:Fp},OwO K F H vs os W→(∀ b,W b→F b=none→F' b=none)→OwO K F' H vs os W
 | _,_,_,.nil,_=>.nil
 | _,_,_,.skip h,k=>.skip (OwO.grow s h k)
 | _,_,_,.one e g i c d,k=>.one (e.keep s fun b q o a f=>⟨a,k b (c b q) f⟩) (OwO.grow s g fun b q=>k b (d b q)) i c d
theorem xG {io:List Nat}:∀ {vs:List V} {as:List A} {j:Nat} {δ k:Dl} {W Wt:Fp} {os:List (Option D)},fD K F H σ vs as Wt→StL K F H σ δ W→i7 io j as δ=some (os,k) →
  ∃ U R,OwO K F H vs os U∧StL K F H σ k R∧Dj U R∧(∀ b,U b→W b)∧(∀ b,R b→W b)
 | _,_,j,δ,k,W,Wt,os,.nil,s,e=>by
  simp only [i7,Option.some.injEq,Prod.mk.injEq] at e
  obtain ⟨rfl,rfl⟩:=e
  exact ⟨No,W,.nil,s,fun _ q=>q.elim,fun _ q=>q.elim,fun _ q=>q⟩
 | _,_,j,δ,k,W,Wt,os,.cons (v:=v) (a:=a) (as:=as) n l w x B,s,e=>by
  unfold i7 at e
  split at e
  ·split at e
   ·split at e
    ·rename_i c δ' f
     cases e
     obtain ⟨U,R,o,t,dj,u,r⟩:=xG l s f
     exact ⟨U,R,.skip o,t,dj,u,r⟩
    ·cases e
   ·rename_i i
    split at e
    ·rename_i d e0
     split at e
     ·rename_i c δ' f
      cases e
      obtain ⟨v',p,C,g,o1,s1,s2,h,t1,_⟩:=s.zip (aL e0)
      obtain ⟨U,R,o,t,dj,u,r⟩:=xG l t1 f
      cases n with
      | @bor v0 _ _ _ _ m q =>
       rw [g] at m
       cases m
       cases q
       refine ⟨Un2 p U,R,.one o1 o (fun b z y=>h b z (u b y)) (fun b z=>.inl z) (fun b z=>.inr z),t,fun b z y=>?_,fun b z=>?_,fun b z=>s2 b (r b z)⟩
       ·rcases z with z | z
        ·exact h b z (r b y)
        ·exact dj b z y
       ·rcases z with z | z
        ·exact s1 b z
        ·exact s2 b (u b z)
     ·cases e
    ·cases e
   ·cases e
  ·split at e
   ·rename_i c δ' f
    cases e
    obtain ⟨U,R,o,t,dj,u,r⟩:=xG l s f
    exact ⟨U,R,.skip o,t,dj,u,r⟩
   ·cases e
theorem AOk.II {δ δ':Dl} {W Wt:Fp} {v:V} {a:A} {d:D} (h:AOk K F H σ v a Wt) (s:SOk K F H σ δ W) (e:Ev.toV δ a=some (d,δ')) :
  ∃ F',SOk K F' H σ δ' W∧Ow K F' H v d Wt∧Same F F'∧∀ b o,F' b=some o→F b=some o∨W b:=by
 cases h with
 | tmp o =>
  simp only [Ev.toV,Option.some.injEq,Prod.mk.injEq] at e
  obtain ⟨rfl,rfl⟩:=e
  exact ⟨F,s,o,fun _ _ q=>q,fun _ _ q=>.inl q⟩
 | @bor v0 _ i p _ g q =>
  unfold Ev.toV at e
  simp only at e
  split at e
  ·rename_i d1 δ1 j c
   cases e
   unfold Ev.look at j
   simp only at j
   split at j
   ·rename_i d0 e0
    unfold bN at c
    rw [e0] at c
    simp only at c
    split at c
    ·rename_i m x
     cases c
     obtain ⟨y,U,R,k,o,s1,s2,C,G,z⟩:=s.st.zip (aL e0)
     rw [g] at k
     cases k
     obtain ⟨F',v',B,f1,f2,l,r,o'⟩:=o.uS s.sub j x
     rw [q.uniq B]
     refine ⟨F',⟨f2,?_,s.lv⟩,.frz r,f1,fun b o e=>(l b o e).imp id (s1 b)⟩
     refine z (U':=U) f1 o' (fun b w n o a f=>⟨a,?_⟩) (fun b q=>.inl q) (fun _ q=>q) s1
     cases e:F' b with
     | none=>rfl
     | some u =>
      rcases l b u e with t | t
      ·rw [f] at t;cases t
      ·exact absurd t n
    ·cases c
   ·cases j
  ·cases e
theorem sj:∀ {os:List (Option D)} {vs:List V} {as:List A} {F:Hp} {δ δ2:Dl} {U Wt R:Fp} {ds:List D},OwO K F H vs os U→fD K F H σ vs as Wt→SOk K F H σ δ R→Dj U R→Dj Wt R→Dj U Wt→(∀ b,Wt b→H b≠none)→valOf os as δ=some (ds,δ2) →
  ∃ c,SOk K c H σ δ2 R∧OwL K c H vs ds (Un2 U Wt)∧Same F c∧∀ b o,c b=some o→F b=some o∨R b
 | [],vs,as,F,δ,δ2,U,Wt,R,ds,h,ha,s,d1,d2,d3,lt,e=>by
  cases h
  cases ha
  simp only [valOf,Option.some.injEq,Prod.mk.injEq] at e
  obtain ⟨rfl,rfl⟩:=e
  exact ⟨F,s,.nil,fun _ _ q=>q,fun b o q=>.inl q⟩
 | some d::os,vs,as,F,δ,δ2,U,Wt,R,ds,h,ha,s,d1,d2,d3,lt,e=>by
  cases h with
  | @one v vs _ _ _ W1 W2 o1 o2 dj s1 s2 =>
   cases ha with
   | @cons _ _ a as _ V1 l a1 a2 a3 a4 a5 =>
    unfold valOf at e
    split at e
    ·rename_i ds' δ' k
     cases e
     obtain ⟨c,t,o,sm,nw⟩:=sj o2 a2 s (fun b q=>d1 b (s2 b q)) (fun b q=>d2 b (a5 b q)) (fun b q y=>d3 b (s2 b q) (a5 b y)) (fun b q=>lt b (a5 b q)) k
     refine ⟨c,t,.cons (W1:=W1) (o1.keep sm fun b q x y f=>⟨y,?_⟩) o (fun b q y=>?_) (fun b q=>.inl (s1 b q)) (fun b q=>q.imp (s2 b) (a5 b)),sm,nw⟩
     ·cases i:c b with
      | none=>rfl
      | some u =>
       rcases nw b u i with z | z
       ·rw [f] at z;cases z
       ·exact absurd z (d1 b (s1 b q))
     ·rcases y with y | y
      ·exact dj b q y
      ·exact d3 b (s1 b q) (a5 b y)
    ·cases e
 | none::os,vs,as,F,δ,δ2,U,Wt,R,ds,h,ha,s,d1,d2,d3,lt,e=>by
  cases h with
  | @skip v vs _ _ o2 =>
   cases ha with
   | @cons _ _ a as _ V1 l a1 a2 a3 a4 a5 =>
    unfold valOf at e
    split at e
    ·rename_i d δ1 e0
     split at e
     ·rename_i ds' δ' k
      cases e
      obtain ⟨F1,t1,m,g,j⟩:=a1.II s e0
      have stay:∀ b,¬ R b→F b=none→F1 b=none:=fun b n f=>by
       cases i:F1 b with
       | none=>rfl
       | some u =>
        rcases j b u i with z | z
        ·rw [f] at z;cases z
        ·exact absurd z n
      obtain ⟨c,t,o,sm,nw⟩:=sj (o2.grow g fun b q=>stay b (d1 b q)) (a2.grow g fun b q=>stay b (d2 b (a5 b q))) t1 d1 (fun b q=>d2 b (a5 b q)) (fun b q y=>d3 b q (a5 b y)) (fun b q=>lt b (a5 b q)) k
      refine ⟨c,t,.cons (W1:=V1) (m.keep sm fun b q x y f=>⟨y,?_⟩) o (fun b q y=>?_) (fun b q=>.inr (a4 b q)) (fun b q=>q.imp id (a5 b)),g.trans sm,fun b u q=>?_⟩
      ·cases i:c b with
       | none=>rfl
       | some u =>
        rcases nw b u i with z | z
        ·rw [f] at z;cases z
        ·exact absurd z (d2 b (a4 b q))
      ·rcases y with y | y
       ·exact d3 b y (a4 b q)
       ·exact a3 b q y
      ·rcases nw b u q with z | z
       ·exact j b u z
       ·exact .inr z
     ·cases e
    ·cases e
theorem sy {v:V} {d:D} {W:Fp} (h:Ow K F H v d W) (e:isAtom d=true):Rp K F' v d:=by
 cases h with
 | frz r =>
  cases r with
  | non=>exact .non
  | bl b=>exact .bl b
  | int i=>exact .int i
  | str x=>exact .str x
  | _=>simp [isAtom] at e
 | own _ _ _ _ _ _=>simp [isAtom] at e
 | mob _ _ _ _ _ _ _ _ _ _=>simp [isAtom] at e
 | dct _ _ _ _ _ _=>simp [isAtom] at e
 | dtk _ _ _ _ _ _ _=>simp [isAtom] at e
theorem zD (tt:∀ b o,F' b=some o→mQ o→F b=some o) {a:Addr} {xs:List V} (h:SqT K F' a xs):SqT K F a xs:=by
 rcases h with (h | ⟨o,h⟩) | h
 ·exact .inl (.inl (tt _ _ h (.inl ⟨_,rfl⟩)))
 ·exact .inl (.inr ⟨o,tt _ _ h (.inr ⟨_,_,rfl⟩)⟩)
 ·exact .inr h
mutual
theorem DK (tt:∀ b o,F' b=some o→mQ o→F b=some o):∀ {v:V} {d:D},Rp K F' v d→tfl d=true→Rp K F v d
 | _,_,.non,_=>.non
 | _,_,.bl b,_=>.bl b
 | _,_,.int i,_=>.int i
 | _,_,.str x,_=>.str x
 | _,_,.tup h l,e=>.tup (zD tt h) (jK tt l (by simpa [tfl] using e))
 | _,_,.lst _ _,e=>by simp [tfl] at e
 | _,_,.scr _,e=>by simp [tfl] at e
 | _,_,.obj _ _ _ _,e=>by simp [tfl] at e
 | _,_,.exc _ _ _ _ _ _,e=>by simp [tfl] at e
 | _,_,.dct _ _ _ _,e=>by simp [tfl] at e
 | _,_,.dtk _ _ _ _ _,e=>by simp [tfl] at e
 | _,_,.cls _,e=>by simp [tfl] at e
 | _,_,.tpn _ _,e=>by simp [tfl] at e
theorem jK (tt:∀ b o,F' b=some o→mQ o→F b=some o):∀ {vs:List V} {ds:List D},RpL K F' vs ds→wc ds=true→RpL K F vs ds
 | _,_,.nil,_=>.nil
 | _,_,.cons h t,e=>by
  simp only [wc,Bool.and_eq_true] at e
  exact .cons (DK tt h e.1) (jK tt t e.2)
end
theorem vH {v:V} {d:D} {W:Fp} (h:Ow K F' H v d W) (e:bY d=true) (s:Same F F') (tt:∀ b o,F' b=some o→mQ o→F b=some o):Ow K F H v d W:=by
 have c:∀ b,F' b=none→F b=none:=fun b q=>by
  cases e:F b with
  | none=>rfl
  | some u=>rw [s b u e] at q;cases q
 cases h with
 | frz r=>cases r<;>simp [bY] at e
 | mob n h hd ne e0 f1 f2 g i l=>exact .mob n h hd ne e0 (c _ f1) (c _ f2) g i (jK tt l (by simpa [bY] using e))
 | dct h e0 n f w l=>exact .dct h e0 n (c _ f) w (jK tt l (by simpa [bY] using e))
 | dtk _ _ _ _ _ _ _=>simp [bY] at e
 | @own a vs ds _ U j k m p t x =>
  simp only [bY] at e
  refine .own (U:=No) j (c _ k) m ?_ (fun q=>q) fun _ q=>q.elim
  have:∀ {vs:List V} {ds:List D} {U:Fp},OwL K F' H vs ds U→eE ds=true→RpL K F vs ds:=by
   intro vs ds U o
   induction ds generalizing vs U with
   | nil=>intro _;cases o;exact .nil
   | cons d ds ih =>
    intro e
    cases o with
    | cons o1 o2 _ _ _ =>
     simp only [eE,Bool.and_eq_true] at e
     exact .cons (sy o1 (by cases d<;>simp [D.flat] at e<;>rfl)) (ih o2 e.2)
  exact .of (this p e)
theorem gQ {f:Hp} (sf:Same f F) (tt:∀ b o,F b=some o→mQ o→f b=some o) {io:List Nat} (dp:deep io=false∨f=F):∀ {vs:List V} {as:List A} {j:Nat} {outs:List D} {δ:Dl} {W h:Fp} {F1 H1:Hp} {Wt:Fp},fD K F1 H1 σ vs as Wt→yJ K F H io j vs outs h→StL K f H σ δ W→Dj h W→(∃ δ0 r,i7 io j as δ0=some r) →
  StL K f H σ (bR io j as outs δ) (Un2 h W)
 | _,_,j,outs,δ,W,h,F1,H1,Wt,.nil,o,s,dj,_=>by
  unfold bR
  exact s.weak fun b q=>.inr q
 | _,_,j,outs,δ,W,h,F1,H1,Wt,.cons (v:=v) (a:=a) (as:=as) w n B C G,o,s,dj,c=>by
  obtain ⟨δ0,r,c⟩:=c
  unfold bR
  unfold i7 at c
  cases o with
  | skip u o' =>
   rw [u] at c ⊢
   simp only at c ⊢
   split at c
   ·rename_i os δ' e
    exact gQ sf tt dp n o' s dj ⟨_,_,e⟩
   ·cases c
  | @one _ _ _ d ds _ W1 W2 u l m o' x s1 s2 =>
   rw [u] at c ⊢
   simp only at c ⊢
   cases w with
   | tmp _ =>
    simp only at c ⊢
    split at c
    ·rename_i os δ' e
     exact (gQ sf tt dp n o' s (fun b q=>dj b (s2 b q)) ⟨_,_,e⟩).weak fun b q=>q.imp (s2 b) id
    ·cases c
   | @bor v0 _ i p _ g q =>
    cases p with
    | nil =>
     cases q
     simp only at c ⊢
     split at c
     ·split at c
      ·rename_i os δ' e
       have m:Ow K f H v d W1:=by
        rcases dp with e0 | e0
        ·rcases l with l | l
         ·exact vH m l sf tt
         ·rw [l] at e0;cases e0
        ·rw [e0];exact m
       have t:=s.back g m (fun b z=>dj b (s1 b z)) (W':=Un2 W1 W) (fun b z=>.inr z) fun b z=>.inl z
       refine (gQ sf tt dp n o' t (fun b z y=>?_) ⟨_,_,e⟩).weak fun b z=>?_
       ·rcases y with y | y
        ·exact x b y z
        ·exact dj b (s2 b z) y
       ·rcases z with z | z | z
        ·exact .inl (s2 b z)
        ·exact .inl (s1 b z)
        ·exact .inr z
      ·cases c
     ·cases c
    | cons k p=>simp at c
theorem cP {C:Ctx} {f:Nat} {vs:List V} {as:List A} {δ δ':Dl} {W0 W Wt:Fp} {a:A} {Q:VK} (p:aB K F0 H0 W0 F H σ δ W Wt) (ha:fD K F H σ vs as Wt) (e:br C f as δ=some (a,δ'))
  (k:∀ v F' H' W' s,aB K F0 H0 W0 F' H' σ δ' W' s→AOk K F' H' σ v a s→Q v H'):(∃ ds r outs,C.call f ds=some (r,outs))∧lg K (C.call f) (C.io f) vs H Q:=by
 unfold br at e
 split at e
 ·rename_i os δm B
  split at e
  ·rename_i ds δ2 e2
   split at e
   ·rename_i r outs L
    cases e
    obtain ⟨U,R,o,t,dj,u,d⟩:=xG ha p.ok.st B
    obtain ⟨M,s2,ol,sm,nw⟩:=sj o ha ⟨p.ok.sub,t,fun b q=>p.ok.lv b (d b q)⟩ dj (fun b q y=>p.dj b q (d b y)) (fun b q y=>p.dj b y (u b q)) p.lt e2
    refine ⟨⟨_,_,_,L⟩,M,Un2 U Wt,ds,r,outs,s2.sub,ol,fun b q=>?_,L,fun v F' H' N G O P dw sb lv ext=>?_⟩
    ·rcases q with q | q
     ·exact p.ok.lv b (u b q)
     ·exact p.lt b q
    have I:Dj R (Un2 U Wt):=fun b q y=>by
     rcases y with y | y
     ·exact dj b y q
     ·exact p.dj b y (d b q)
    have g:Dj R (Un2 N G):=ext.dj I fun b q=>p.ok.lv b (d b q)
    have live:∀ b,H' b=none→H b=none:=ext.live
    have c:∀ b,Un2 U Wt b→Un2 Wt W b:=fun b q=>q.elim (fun q=>.inr (u b q)) .inl
    have X:∀ b,R b→H' b≠none:=fun b q z=>p.ok.lv b (d b q) (live b z)
    by_cases i:isAtom r=true∧deep (C.io f)=false
    ·rw [if_pos i.1,if_neg (by rw [i.2];exact Bool.false_ne_true)] at k
     have hd:=i.2
     replace i:=i.1
     have w:Same F F':=sm.trans ext.fsub
     have Y:=wF w
     have Z:=zM w
     have j:StL K (mO F F') H' σ δm R:=t.dF Y fun b q o a nt f=>by
      have hk:H' b=some o:=by
       cases e:M b with
       | some z =>
        have m:=s2.sub b z e
        rw [a] at m
        cases m
        exact sb _ _ (ext.fsub _ _ e)
       | none=>exact ext.keep b o a (I b q)
      refine ⟨hk,uM f fun o' e'=>?_⟩
      have:=sb _ _ e'
      rw [hk] at this
      cases this
      exact nt
     have l:=gQ Z (fun b o h t=>AW h t) (.inl hd) ha P j (fun b q y=>g b y (.inr q)) ⟨_,_,B⟩
     refine k v (mO F F') H' (Un2 G R) No ⟨⟨Z.trans sb,l,fun b q=>?_⟩,fun _ q=>q.elim,fun _ q=>q.elim,?_⟩ (.tmp (.frz (sy O i)))
     ·rcases q with q | q
      ·exact lv b (.inr q)
      ·exact X b q
     ·refine p.ext.trans ⟨Y,fun b o q=>?_,fun b o q n=>ext.keep b o q fun z=>n (c b z),live,fun b q=>?_⟩
      ·rcases sG q with q | ⟨q,_⟩
       ·exact .inl q
       ·rcases ext.fnew b o q with z | z | z
        ·exact (nw b o z).imp id fun y=>.inl (.inr (d b y))
        ·exact .inr (.inl (c b z))
        ·exact .inr (.inr z)
      ·rcases q with q | q | q
       ·exact q.elim
       ·exact (ext.wnew b (.inr q)).imp (c b) id
       ·exact .inl (.inr (d b q))
    ·have k:∀ v F3 J W3 x,aB K F0 H0 W0 F3 J σ (bR (C.io f) 0 as outs δ2) W3 x→AOk K F3 J σ v (.tmp r) x→Q v J:=by
      by_cases m:isAtom r=true
      ·have h2:deep (C.io f)=true:=by
        cases e:deep (C.io f) with
        | true=>rfl
        | false=>exact absurd ⟨m,e⟩ i
       rw [if_pos m,if_pos h2] at k
       exact k
      ·rw [if_neg m] at k
       exact k
     have j:StL K F' H' σ δ2 R:=s2.st.keep ext.fsub (ext.apart I)
     have l:=gQ (fun _ _ q=>q) (fun _ _ q _=>q) (.inr rfl) ha P j (fun b q y=>g b y (.inr q)) ⟨_,_,B⟩
     refine k v F' H' (Un2 G R) N ⟨⟨sb,l,fun b q=>?_⟩,fun b q y=>?_,fun b q=>lv b (.inl q),?_⟩ (.tmp O)
     ·rcases q with q | q
      ·exact lv b (.inr q)
      ·exact X b q
     ·rcases y with y | y
      ·exact dw b q y
      ·exact g b y (.inl q)
     ·refine p.ext.trans ⟨sm.trans ext.fsub,fun b o q=>?_,fun b o q n=>ext.keep b o q fun z=>n (c b z),live,fun b q=>?_⟩
      ·rcases ext.fnew b o q with z | z | z
       ·exact (nw b o z).imp id fun y=>.inl (.inr (d b y))
       ·exact .inr (.inl (c b z))
       ·exact .inr (.inr z)
      ·rcases q with q | q | q
       ·exact (ext.wnew b (.inl q)).imp (c b) id
       ·exact (ext.wnew b (.inr q)).imp (c b) id
       ·exact .inl (.inr (d b q))
   ·cases e
  ·cases e
 ·cases e
end
end Ev
namespace Ob
open PySem PySem.Spec PyProof.Rows L2 Ev
theorem jf {xs:List Expr} (env:Env) (pos:Pos) (h:noStar xs=true) (l:xs.length<20):((backTo pos (starEach xs env)).all (fun x=>!x.1)&&(backToKw pos (keywordEach [] env)).all (fun x=>x.1.isSome)
   && decide (xs.length+([]:List Keyword).length+(if ([]:List Keyword).isEmpty then 0 else 1)<30))=true:=by
 have a:(backTo pos (starEach xs env)).all (fun x=>!x.1)=true:=by
  have:=aq env pos h
  rw [List.any_eq_false] at this
  rw [List.all_eq_true]
  intro y b
  have:=this y b
  simpa using this
 rw [a]
 have c:(backToKw pos (keywordEach [] env)).all (fun x=>x.1.isSome)=true:=rfl
 rw [c]
 simp
 omega
section
variable {X:Cx} {C:Addr} {σ:L2.St} {H:Hp} {Q:VK}
theorem ym {g:Addr} {x:Str} {p:Pos} (hg:Gl X x) (hm:X.mg x=some (.ref g)) (hd:(x==("__debug__" : Str))=false:=by decide):PE X (.Name x p) (fun _ H Q=>Q (.ref g) H) :=
 ⟨fun pins s σ H Q I h=>ld_glob I hg hm ⟨.ref g,H,I,rfl,h⟩ hd⟩
theorem Co {o:Str} {m:Str} {c d a:Pos} {xs:List Expr} {env:Env} (hn:(d.endLine==a.line)=true) (ns:noStar xs=true) (l:xs.length<20):eval (.Call (.Attribute (.Name o c) m d) xs [] a) env=(do
   let e ← eval (.Name o c) env
   standAt d.atName
   let (f,first) ← holding [e] (getMethod e m (do return (← importBound (.Name o c) env).getD true))
   callWith a f first (backTo a (starEach xs env)) (backToKw a (keywordEach [] env))):=by
 have b:methodCallForm (xs.length+([]:List Keyword).length) (backTo a (starEach xs env)) (backToKw a (keywordEach [] env))=true:=jf env a ns l
 rw [arm_eval_Call]
 unfold methodCall calleeOf methodCallPos
 simp only [b,hn,if_true,Bool.not_true,Bool.or_true]
 rfl
theorem uQ {cn:Str} {k it:Nat} {C0:Ev.Ctx} {ways:List (Str × Nat)} {y:Expr} {ys:List Expr} {J L p s M:Pos} {u:List D→Option (D × List D)} (N:∀ ds r outs,u ds=some (r,outs)→∃ rule items lap rs,ds=[rule,items,lap]∧r=.lst true rs∧outs=[]∧iV C0 it ways rule items lap rs)
  (O:r8 X.prog X.w X.K X.mg X.base cn C k C0 it ways) (a:X.calm=true) (v:Room (k+4) X.A) (gl:Gl X "list") (P:X.mg "list" = none) (gc:Gl X cn) (hd:(cn==("__debug__" : Str))=false) (ns:noStar (y::ys)=true) (ne:(p.endLine==s.line)=true)
  (d:(y::ys).length<20)
  (go:bQ X (y::ys) σ H fun vs H1=>lg X.K u [] vs H1 Q):tW X (.Call (.Name "list" J) [.Call (.Attribute (.Name cn L) "made" p) (y::ys) [] s] [] M) σ H Q:=by
 obtain ⟨mc,pr,g,fi,fl,fd,fdi,fdl,c1,c2,c3,F1,R,V,Y,Z,b3,_⟩:=O.ex
 have i:=F1.raw R (.nil:Vals [] [])
 have j:FnR X.prog X.w X.K X.mg X.base CX0 k fi (vA X.K C):=by have:=V.raw Y (.nil:Vals [] []);simpa only [List.append_nil] using this
 have l:FnR X.prog X.w X.K X.mg X.base CX0 k fl (qT X.K C):=by have:=Z.raw b3 (.nil:Vals [] []);simpa only [List.append_nil] using this
 refine av (pe_callTy (nS a c3 j l v) gl P (by decide +kernel) (pa_cons (ClX.pe_cmeth (ym gc O.mgC hd) c1 c2 i (v.mono (by omega)) pass0 (aw ns) (aj _ ns) (aq _ _ (ak ns)) (Co ne ns d)) pa_nil) (by decide) (by decide +kernel)) ?_
 refine ⟨rfl,ax go fun vs H1 h=>?_⟩
 obtain ⟨G,W,ds,r,outs,sb,ow,lv,e,cont⟩:=h
 obtain ⟨rule,items,lap,rs,rfl,rfl,rfl,mok⟩:=N _ _ _ e
 cases ow with
 | @cons v1 _ _ _ _ _ _ o1 ow1 d1 u1 u1' =>
 cases ow1 with
 | @cons v2 _ _ _ _ _ _ o2 ow2 d2 u2 u2' =>
 cases ow2 with
 | @cons v3 _ _ _ _ _ _ o3 ow3 d3 u3 u3' =>
 cases ow3
 refine ⟨G,W,v1,v2,v3,rule,items,lap,rs,rfl,sb,.cons o1 (.cons o2 (.cons o3 .nil d3 u3 u3') d2 u2 u2') d1 u1 u1',lv,mok,fun F' H' W' x dx t ws ext sub ht m fz hs _ _ _ _ _=>⟨x,dx,t,ws,rfl,hs,af sub ht,fun q B=>?_⟩⟩
 have F:F' q=none:=by
  cases e:F' q with
  | none=>rfl
  | some o=>have:=sub _ _ e;rw [B] at this;cases this
 have f:Same F' (upd H' q (.lst ws)):=fun b o e=>by rw [upd_ne (fun z=>by rw [z,F] at e;cases e)];exact sub _ _ e
 have c:=ext.live q B
 refine cont (.ref q) F' (upd H' q (.lst ws)) (fun b=>b=q) No (.own upd_same F rfl (OwL.of (W:=No) m) (fun z=>z.elim) fun _ z=>z.elim) (.skip rfl (.skip rfl (.skip rfl .nil))) (fun _ _ z=>z.elim) f (fun b z=>?_) ⟨ext.fsub,ext.fnew,fun b o e n=>?_,fun b e=>?_,fun b z=>?_⟩
 ·rcases z with z | z
  ·rw [z,upd_same];exact fun h=>by cases h
  ·exact z.elim
 ·rw [upd_ne (fun z=>by rw [z,c] at e;cases e)]
  exact ext.keep b o e n
 ·by_cases I:b=q
  ·rw [I];exact c
  ·rw [upd_ne I] at e
   exact ext.live b e
 ·rcases z with z | z
  ·rw [z];exact .inr c
  ·exact z.elim
end
end Ob
namespace Ev
open PySem PySem.Spec PyProof.Rows L2 HT
section
variable {prog:Program} {w:World} {A:Around} {E:Value→Shared→Prop} {s:Shared}
end
section
variable {X:Cx}
end
end Ev
namespace Ev
open PySem PySem.Spec PyProof.Rows L2
abbrev ah (X:Cx) (F H:Hp) (W:Fp) (σ:L2.St) (δ':Dl) (a:A) (Q:VK):Prop:=∀ v F' H' W' Wt,aB X.K F H W F' H' σ δ' W' Wt→AOk X.K F' H' σ v a Wt→Q v H'
abbrev jW (X:Cx) (F H:Hp) (W:Fp) (σ:L2.St) (δ':Dl) (as:List A) (Q:List V→Hp→Prop):Prop:=∀ vs F' H' W' Wt,aB X.K F H W F' H' σ δ' W' Wt→fD X.K F' H' σ vs as Wt→Q vs H'
abbrev yj (X:Cx) (F H:Hp) (W:Fp) (σ:L2.St) (δ':Dl) (d:D) (Q:VK):Prop:=∀ v F' H' W' Wt,aB X.K F H W F' H' σ δ' W' Wt→Ow X.K F' H' v d Wt→Q v H'
abbrev Tells (X:Cx) (F H:Hp) (W:Fp) (σ:L2.St) (δ':Dl) (b:Bool) (Q:Bool→Hp→Prop):Prop:=∀ F' H' W',aB X.K F H W F' H' σ δ' W' No→Q b H'
def SE (C:Ctx) (n:Nat):Prop:=∀ {X:Cx} {c:Cxt},XOk C X c→∀ {m:Nat} {e:E} {x:Expr} {σ:L2.St} {δ:Dl} {F H:Hp} {W:Fp} {a:A} {δ':Dl} {Q:VK},mE m c e x=true→SOk X.K F H σ δ W→evE C n e δ=some (a,δ')→ah X F H W σ δ' a Q→tW X x σ H Q
def SV (C:Ctx) (n:Nat):Prop:=∀ {X:Cx} {c:Cxt},XOk C X c→∀ {m:Nat} {e:E} {x:Expr} {σ:L2.St} {δ:Dl} {F H:Hp} {W:Fp} {d:D} {δ':Dl} {Q:VK},mE m c e x=true→SOk X.K F H σ δ W→evV C n e δ=some (d,δ')→yj X F H W σ δ' d Q→tW X x σ H Q
def SAs (C:Ctx) (n:Nat):Prop:=∀ {X:Cx} {c:Cxt},XOk C X c→∀ {m:Nat} {es:List E} {xs:List Expr} {σ:L2.St} {δ:Dl} {F H:Hp} {W:Fp} {as:List A} {δ':Dl} {Q:List V→Hp→Prop},mEs m c es xs=true→SOk X.K F H σ δ W→aN C n es δ=some (as,δ')→jW X F H W σ δ' as Q→bQ X xs σ H Q
def ST (C:Ctx) (n:Nat):Prop:=∀ {X:Cx} {c:Cxt},XOk C X c→∀ {m:Nat} {e:E} {x:Expr} {σ:L2.St} {δ:Dl} {F H:Hp} {W:Fp} {b:Bool} {δ':Dl} {Q:Bool→Hp→Prop},mT m c e x=true→SOk X.K F H σ δ W→evT C n e δ=some (b,δ')→Tells X F H W σ δ' b Q→tWT X x σ H Q
def Hz (C:Ctx) (n:Nat):Prop:=∀ {X:Cx} {c:Cxt},XOk C X c→∀ {m:Nat} {es:List E} {xs:List Expr} {pos:Pos} {σ:L2.St} {δ:Dl} {F H:Hp} {W:Fp} {a:A} {δ':Dl} {Q:VK},mEs m c es xs=true→SOk X.K F H σ δ W→jJ C n es δ=some (a,δ')→ah X F H W σ δ' a Q→tW X (.BoolOp .And xs pos) σ H Q
def SOr (C:Ctx) (n:Nat):Prop:=∀ {X:Cx} {c:Cxt},XOk C X c→∀ {m:Nat} {es:List E} {xs:List Expr} {pos:Pos} {σ:L2.St} {δ:Dl} {F H:Hp} {W:Fp} {a:A} {δ':Dl} {Q:VK},mEs m c es xs=true→SOk X.K F H σ δ W→Aq C n es δ=some (a,δ')→ah X F H W σ δ' a Q→tW X (.BoolOp .Or xs pos) σ H Q
def tWW (X:Cx) (x:Expr):TT:=fun σ H Q=>∀ wh pins s,Inv X pins σ H s→wpAny (model X.prog X.w) X.A (isTrue x X.env wh) (TP X pins σ Q) X.xe s
theorem pw_tWW {X:Cx} {x:Expr}:PW X x (tWW X x):=⟨fun a pins s σ H Q I h=>h a pins s I⟩
theorem jg {X:Cx} {x:Expr} {t:TT} {σ:L2.St} {H:Hp} {Q:Bool→Hp→Prop} (h:PW X x t) (q:t σ H Q):tWW X x σ H Q:=fun a pins s I=>h.run a pins s σ H Q I q
def xE (C:Ctx) (n:Nat):Prop:=∀ {X:Cx} {c:Cxt},XOk C X c→∀ {m:Nat} {es:List E} {xs:List Expr} {pos:Pos} {σ:L2.St} {δ:Dl} {F H:Hp} {W:Fp} {b:Bool} {δ':Dl} {Q:Bool→Hp→Prop},mTs m c es xs=true→SOk X.K F H σ δ W→mB C n es δ=some (b,δ')→Tells X F H W σ δ' b Q→tWW X (.BoolOp .And xs pos) σ H Q
def EJ (C:Ctx) (n:Nat):Prop:=∀ {X:Cx} {c:Cxt},XOk C X c→∀ {m:Nat} {es:List E} {xs:List Expr} {pos:Pos} {σ:L2.St} {δ:Dl} {F H:Hp} {W:Fp} {b:Bool} {δ':Dl} {Q:Bool→Hp→Prop},mTs m c es xs=true→SOk X.K F H σ δ W→kD C n es δ=some (b,δ')→Tells X F H W σ δ' b Q→tWW X (.BoolOp .Or xs pos) σ H Q
def SIt (C:Ctx) (n:Nat):Prop:=∀ {X:Cx} {c:Cxt},XOk C X c→∀ {m:Nat} {t:Expr} {k:ItK} {es:List E} {x:Expr} {σ:L2.St} {δ:Dl} {F H:Hp} {W:Fp} {ds:List D} {δ':Dl} {R:It→Hp→Prop},mI m c t k es x=true→SOk X.K F H σ δ W→dB C n k es δ=some (ds,δ') →
 (∀ F' H' W' J,aB X.K F H W F' H' σ δ' W' No→WkD X.K F' J ds→R J H')→tWI X t x σ H R
section
variable {C:Ctx} {X:Cx} {c:Cxt} {n m:Nat} {σ:L2.St} {δ δ':Dl} {F H:Hp} {W:Fp} {a:A} {Q:VK}
theorem ah.goes {d:D} (k:ah X F H W σ δ' (.tmp d) Q) {F' H':Hp} {W' Wt:Fp} (p:aB X.K F H W F' H' σ δ' W' Wt):Goes X F' H' d Q:=fun v a b c o nw=>k v a b W' c (p.vp nw) (.tmp o)
theorem ah.atom {d:D} (k:ah X F H W σ δ' (.tmp d) Q) {F' H':Hp} {W' Wt:Fp} (p:aB X.K F H W F' H' σ δ' W' Wt) {v:V} (r:Rp X.K F' v d):Q v H':=k v F' H' W' No p.drop (.tmp (.frz r))
theorem Ct {l:Expr} {R:V→Hp→Prop} (h:bQ X [l] σ H fun vs H1=>∀ x,vs=[x]→R x H1):tW X l σ H R:=ay h fun x H1 q=>q x rfl
theorem AB {l r:Expr} {R:V→V→Hp→Prop} (h:bQ X [l,r] σ H fun vs a=>∀ x y,vs=[x,y]→R x y a):tW X l σ H fun x H1=>tW X r σ H1 fun y a=>R x y a:=ay h fun x H1 q=>ay q fun y a z=>z x y rfl
theorem GR {l r t:Expr} {R:V→V→V→Hp→Prop} (h:bQ X [l,r,t] σ H fun vs a=>∀ x y z,vs=[x,y,z]→R x y z a):tW X l σ H fun x H1=>tW X r σ H1 fun y a=>tW X t σ a fun z b=>R x y z b:=ay h fun x H1 q=>ay q fun y a q=>ay q fun z b q=>q x y z rfl
theorem yN {op:Op} {o:Operator} (h:opB op o=true):opO op=o:=of_decide_eq_true h
theorem nu {op:Cop} {o:CmpOp} (h:ER op o=true):xA op=o:=of_decide_eq_true h
theorem uz {o:CmpOp} {r:Expr} (h:cX r=false):behindInMarks o r=false:=by
 cases r<;>first | rfl | simp [cX] at h
theorem SAs.two (ih:SAs C n) (ok:XOk C X c) {a b:E} {d x2:Expr} {as:List A} {R:V→V→Hp→Prop} {m:Nat} (hm:mEs m c [a,b] [d,x2]=true) (s:SOk X.K F H σ δ W) (he:aN C n [a,b] δ=some (as,δ'))
  (k:∀ v w F' H' W' Wt,aB X.K F H W F' H' σ δ' W' Wt→fD X.K F' H' σ [v,w] as Wt→R v w H'):tW X d σ H fun x H1=>tW X x2 σ H1 fun y e=>R x y e :=
 AB (ih ok hm s he fun vs F' H' W' Wt p h=>by rintro x y rfl;exact k _ _ _ _ _ _ p h)
theorem G4 (ih:SAs C n) (ok:XOk C X c) {op:Op} {b e:E} {x:Expr} (hm:mE (m+1) c (.bin op b e) x=true) (s:SOk X.K F H σ δ W) (he:evE C (n+1) (.bin op b e) δ=some (a,δ')) (k:ah X F H W σ δ' a Q):tW X x σ H Q:=by
 unfold mE at hm
 simp only at hm
 split at hm
 ·rw [Bool.and_eq_true] at hm
  unfold evE at he
  simp only at he
  split at he
  ·rename_i as δ1 b
   split at he
   ·rename_i d0 d1 e
    split at he
    ·rename_i d i
     cases he
     cases yN hm.1
     refine av (pe_op mw ao ao) (SAs.two ih ok hm.2 s b fun v w F' H' W' Wt p h=>?_)
     obtain ⟨x,y,ex,j,l⟩:=(h.looks p.ok e).two
     cases ex
     exact yq p.ok.sub i j l (k.goes p)
    ·split at he
     ·rename_i d2 d3 δ2 t
      split at he
      ·rename_i d u
       cases he
       cases yN hm.1
       refine av (pe_op mw ao ao) (SAs.two ih ok hm.2 s b fun v w F' H' W' Wt p h=>?_)
       obtain ⟨z,q,o⟩:=p.bL h t
       obtain ⟨B,g,r⟩:=q.gL o
       simp only [frzs] at r
       cases r with
       | cons r1 f =>
        cases f with
        | cons f _=>exact yq g.ok.sub u ⟨No,.frz r1⟩ ⟨No,.frz f⟩ (k.goes g)
      ·cases he
     ·cases he
   ·cases he
  ·cases he
 ·cases hm
theorem bD.snoc:∀ {p:List Nat} {v0 v v1:V} {a:Addr} {vs:List V} {j:Nat},bD H v0 p v→v=.ref a→H a=some (.lst vs)→vs[j]?=some v1→bD H v0 (p++[j]) v1
 | [],v0,v,v1,a,vs,j,q,e,h,g=>by
  cases q
  exact ⟨a,vs,v1,e,h,g,rfl⟩
 | k::p,v0,v,v1,a,vs,j,⟨b,vs',v',c,h',d,q⟩,e,h,g=>⟨b,vs',v',c,h',d,bD.snoc q e h g⟩
theorem Ow.GX {K:Frag} {p:Addr} {vs:List V} {ds:List D} {U:Fp} (s:Same F H) (h:H p=none) (o:OwL K F H vs ds U) (lt:∀ b,U b→H b≠none):Ow K F (upd H p (.lst vs)) (.ref p) (.lst true ds) (Un2 U (At p)):=by
 have np:∀ b,U b→b≠p:=fun b q e=>lt b q (by rw [e];exact h)
 refine .own (U:=U) upd_same ?_ (.inr rfl) (o.keep (fun _ _ q=>q) fun b q z a f=>⟨by rw [upd_ne (np b q)];exact a,f⟩) (fun q=>np p q rfl) fun b q=>.inl q
 cases e:F p with
 | none=>rfl
 | some o=>rw [s _ _ e] at h;cases h
theorem jV (ok:XOk C X c) {e:E} {x:Expr} (d:e=.non∨(∃ b,e=.bl b)∨(∃ i,e=.int i)∨∃ t,e=.str t) (hm:mE (m+1) c e x=true) (s:SOk X.K F H σ δ W) (he:evE C (n+1) e δ=some (a,δ')) (k:ah X F H W σ δ' a Q):tW X x σ H Q:=by
 unfold mE at hm
 unfold evE at he
 rcases d with rfl | ⟨b,rfl⟩ | ⟨i,rfl⟩ | ⟨t,rfl⟩
 ·simp only at hm he
  split at hm
  ·cases he
   exact av pe_non (k.atom (.refl s) .non)
  ·cases hm
 ·simp only at hm he
  split at hm
  ·cases he
   cases (beq_iff_eq.mp hm)
   exact av pe_bl (k.atom (.refl s) (.bl _))
  ·cases hm
 ·simp only at hm he
  split at hm
  ·cases he
   cases (of_decide_eq_true hm)
   exact av pe_int (k.atom (.refl s) (.int _))
  ·cases hm
 ·simp only at hm he
  split at hm
  ·cases he
   cases (au hm)
   exact av pe_str (k.atom (.refl s) (.str _))
  ·cases hm
theorem G2 (ok:XOk C X c) {q:Kc} {x:Expr} (hm:mE (m+1) c (.con q) x=true) (s:SOk X.K F H σ δ W) (he:evE C (n+1) (.con q) δ=some (a,δ')) (k:ah X F H W σ δ' a Q):tW X x σ H Q:=by
 unfold mE at hm
 unfold evE at he
 simp only at hm he
 split at hm
 ·rename_i b _
  cases he
  simp only [Bool.and_eq_true,decide_eq_true_eq] at hm
  obtain ⟨⟨⟨d,e⟩,f⟩,g⟩:=hm
  have h:∃ u v,X.mg b=some u∧RelV v u∧∀ F:Hp,Rp X.K F v q.toD:=by
   have:=ok.con _ _ f
   cases q with
   | dct ps=>cases g
   | _=>exact this
  obtain ⟨u,v,mg,i,j⟩:=h
  exact av (pe_glob (ok.gl d) mg i (aX e).1) (k.atom (.refl s) (j F))
 ·cases hm
theorem zC (f:SE C n) (ok:XOk C X c) {ne:Bool} {ps:List (Str × Int)} {e:E} {x:Expr} (hm:mE (m+1) c (.kin ne ps e) x=true) (s:SOk X.K F H σ δ W) (he:evE C (n+1) (.kin ne ps e) δ=some (a,δ')) :
  ∃ l p r pos t,x=.Compare l [p] [r] pos∧cX r=false∧a=.tmp (.bl t)∧∃ R:R2,OpR X (compareOp p) R ∧
   ∀ {Q:VK},(∀ F' H' W',aB X.K F H W F' H' σ δ' W' No→Q (.bl t) H')→tW X l σ H fun x H1=>tW X r σ H1 fun y J=>R x y J Q:=by
 unfold mE at hm
 simp only at hm
 split at hm
 ·rename_i l p0 y q pos
  simp only [Bool.and_eq_true] at hm
  obtain ⟨⟨⟨⟨b,g⟩,j⟩,L⟩,o⟩:=hm
  have b:=of_decide_eq_true b
  obtain ⟨d,es,nn,mg,u,M⟩:Fv X.K X.w X.mg y ps:=ok.con _ _ (of_decide_eq_true L)
  unfold evE at he
  simp only at he
  split at he
  ·rename_i a0 δ1 B
   split at he
   ·rename_i z G
    cases he
    obtain ⟨r,I,hm⟩:=M z
    have eq:r.isSome=(ps.lookup z).isSome:=by
     cases h:ps.lookup z with
     | some i=>rw [h] at hm;obtain ⟨t,rfl⟩:=hm;rfl
     | none=>rw [h] at hm;subst hm;rfl
    cases ne with
    | true =>
     simp only [if_true] at b
     subst b
     refine ⟨l,_,_,pos,_,rfl,rfl,rfl,_,op_notIn_kd u,fun {Q} k=>f ok o s B fun v F' H' W' Wt p h=>?_⟩
     cases (h.look p.ok G).str
     refine av (pe_glob (v:=.ref d) (ok.gl g) mg rfl (aX j).1) ⟨z,r,rfl,rfl,I,?_⟩
     rw [eq]
     have:=k _ _ _ p.drop
     simpa using this
    | false =>
     simp only [Bool.false_eq_true,if_false] at b
     subst b
     refine ⟨l,_,_,pos,_,rfl,rfl,rfl,_,op_in_kd u,fun {Q} k=>f ok o s B fun v F' H' W' Wt p h=>?_⟩
     cases (h.look p.ok G).str
     refine av (pe_glob (v:=.ref d) (ok.gl g) mg rfl (aX j).1) ⟨z,r,rfl,rfl,I,?_⟩
     rw [eq]
     have:=k _ _ _ p.drop
     simpa using this
   ·cases he
  ·cases he
 ·cases hm
theorem BG (b:SE C n) (ok:XOk C X c) {ne:Bool} {ps:List (Str × Int)} {e:E} {x:Expr} (hm:mE (m+1) c (.kin ne ps e) x=true) (s:SOk X.K F H σ δ W) (he:evE C (n+1) (.kin ne ps e) δ=some (a,δ')) (k:ah X F H W σ δ' a Q):tW X x σ H Q:=by
 obtain ⟨l,p,r,pos,t,rfl,d,rfl,R,op,go⟩:=zC b ok hm s he
 exact av (pe_cmpR op ao ao (uz d)) (go fun F' H' W' p=>k.atom p (.bl t))
theorem Dc (a:SE C n) (ok:XOk C X c) {ne:Bool} {ps:List (Str × Int)} {e:E} {x:Expr} {b:Bool} {Q:Bool→Hp→Prop} (hm:mE (m+1) c (.kin ne ps e) x=true) (s:SOk X.K F H σ δ W) (he:evE C (n+1) (.kin ne ps e) δ=some (.tmp (.bl b),δ')) (k:Tells X F H W σ δ' b Q):tWT X x σ H Q:=by
 obtain ⟨l,p,r,pos,t,rfl,d,f,R,op,go⟩:=zC a ok hm s he
 cases f
 exact g7 (pt_cmpR op ao ao (uz d)) (go fun F' H' W' p=>⟨b,rfl,k _ _ _ p⟩)
theorem Gb (b:SE C n) (ok:XOk C X c) {ps:List (Str × Int)} {e:E} {x:Expr} (hm:mE (m+1) c (.kix ps e) x=true) (s:SOk X.K F H σ δ W) (he:evE C (n+1) (.kix ps e) δ=some (a,δ')) (k:ah X F H W σ δ' a Q):tW X x σ H Q:=by
 unfold mE at hm
 simp only at hm
 split at hm
 ·rename_i y q i pos
  simp only [Bool.and_eq_true,Bool.not_eq_true'] at hm
  obtain ⟨⟨⟨⟨g,l⟩,o⟩,u⟩,B⟩:=hm
  obtain ⟨d,es,nn,mg,f,G⟩:Fv X.K X.w X.mg y ps:=ok.con _ _ (of_decide_eq_true o)
  unfold evE at he
  simp only at he
  split at he
  ·rename_i a0 δ1 I
   split at he
   ·rename_i z J
    split at he
    ·rename_i j L
     cases he
     obtain ⟨r,M,hm⟩:=G z
     rw [L] at hm
     obtain ⟨t,rfl⟩:=hm
     refine av (pe_ix ix_kdict ao ao (j4 B)) (av (pe_glob (v:=.ref d) (ok.gl g) mg rfl (aX l).1) (b ok u s I fun v F' H' W' Wt p h=>?_))
     cases (h.look p.ok J).str
     exact ⟨d,z,.int j,rfl,rfl,⟨es,nn,_,f.at_,f.lit,M,⟨t,rfl⟩⟩,k.atom p.drop (.int j)⟩
    ·cases he
   ·cases he
  ·cases he
 ·cases hm
theorem GN (ok:XOk C X c) {i:Nat} {x:Expr} (hm:mE (m+1) c (.var i) x=true) (s:SOk X.K F H σ δ W) (he:evE C (n+1) (.var i) δ=some (a,δ')) (k:ah X F H W σ δ' a Q):tW X x σ H Q:=by
 unfold mE at hm
 simp only at hm
 split at hm
 ·simp only [Bool.and_eq_true] at hm
  obtain ⟨⟨b,e⟩,h⟩:=hm
  obtain ⟨d1,d2⟩:=aX h
  unfold evE at he
  simp only at he
  split at he
  ·rename_i d e0
   obtain ⟨v,U,R,g,o,_⟩:=s.st.zip (aL e0)
   refine av (pe_var (ok.nm b) (ok.vis e) d1 d2) ⟨v,g,?_⟩
   split at he
   ·rename_i f
    cases he
    exact k.atom (.refl s) (o.fz f)
   ·cases he
    exact k v F H W No (.refl s) (.bor g rfl)
  ·cases he
 ·cases hm
theorem Hk (ih:SE C n) (ok:XOk C X c) {b:E} {x:Expr} (hm:mE (m+1) c (.neg b) x=true) (s:SOk X.K F H σ δ W) (he:evE C (n+1) (.neg b) δ=some (a,δ')) (k:ah X F H W σ δ' a Q):tW X x σ H Q:=by
 unfold mE at hm
 simp only at hm
 split at hm
 ·unfold evE at he
  simp only at he
  split at he
  ·rename_i i δ1 b
   cases he
   refine av (pe_un un_neg ao) (ih ok hm s b fun v F' H' W' Wt p h=>?_)
   cases (h.look p.ok rfl).int
   exact ⟨i,rfl,k.atom p (.int _)⟩
  ·cases he
 ·cases hm
theorem Ad (ih:SAs C n) (ok:XOk C X c) {op:Cop} {b d:E} {x:Expr} (hm:mE (m+1) c (.cmp op b d) x=true) (s:SOk X.K F H σ δ W) (he:evE C (n+1) (.cmp op b d) δ=some (a,δ')) :
  ∃ l r pos t,x=.Compare l [xA op] [r] pos∧cX r=false∧a=.tmp (.bl t)∧∀ {R:V→V→Hp→Prop},(∀ v w F' H' W',aB X.K F H W F' H' σ δ' W' No→(∀ {Q:VK},Q (.bl t) H'→rW X (compareOp (xA op)) v w H' Q)→R v w H')→tW X l σ H fun x H1=>tW X r σ H1 fun y e=>R x y e:=by
 unfold mE at hm
 simp only at hm
 split at hm
 ·simp only [Bool.and_eq_true,Bool.not_eq_true'] at hm
  obtain ⟨⟨f,g⟩,i⟩:=hm
  unfold evE at he
  simp only at he
  split at he
  ·rename_i as δ1 b
   split at he
   ·rename_i d0 d1 d
    split at he
    ·rename_i t j
     cases he
     cases nu f
     refine ⟨_,_,_,t,rfl,i,rfl,fun {R} k=>SAs.two ih ok g s b fun v w F' H' W' Wt p h=>?_⟩
     obtain ⟨x,y,ex,o,u⟩:=(h.looks p.ok d).two
     cases ex
     exact k _ _ _ _ _ p.drop fun q=>pS ok.units p.ok.sub j o u q
    ·cases he
   ·cases he
  ·cases he
 ·cases hm
theorem Cq (ih:SAs C n) (ok:XOk C X c) {op:Cop} {b d:E} {x:Expr} (hm:mE (m+1) c (.cmp op b d) x=true) (s:SOk X.K F H σ δ W) (he:evE C (n+1) (.cmp op b d) δ=some (a,δ')) (k:ah X F H W σ δ' a Q):tW X x σ H Q:=by
 obtain ⟨l,r,pos,t,rfl,e,rfl,go⟩:=Ad ih ok hm s he
 exact av (pe_cmpR mw ao ao (uz e)) (go fun v w F' H' W' p q=>q (k.atom p (.bl t)))
theorem CO (ih:SAs C n) (ok:XOk C X c) {op:Cop} {a d:E} {x:Expr} {b:Bool} {Q:Bool→Hp→Prop} (hm:mE (m+1) c (.cmp op a d) x=true) (s:SOk X.K F H σ δ W) (he:evE C (n+1) (.cmp op a d) δ=some (.tmp (.bl b),δ')) (k:Tells X F H W σ δ' b Q):tWT X x σ H Q:=by
 obtain ⟨l,r,pos,t,rfl,e,f,go⟩:=Ad ih ok hm s he
 cases f
 exact g7 (pt_cmpR mw ao ao (uz e)) (go fun v w F' H' W' p q=>q ⟨b,rfl,k _ _ _ p⟩)
theorem nD (ih:SAs C n) (g:SE C n) (ok:XOk C X c) {o1 o2:Cop} {e d f:E} {x:Expr} (hm:mE (m+1) c (.chain o1 o2 e d f) x=true) (s:SOk X.K F H σ δ W) (he:evE C (n+1) (.chain o1 o2 e d f) δ=some (a,δ')) :
  ∃ l y r pos t,x=.Compare l [xA o1,xA o2] [y,r] pos∧cX r=false∧a=.tmp (.bl t)∧∀ {Q:VK},(∀ F' H' W',aB X.K F H W F' H' σ δ' W' No→Q (.bl t) H')→tChain (rW X (compareOp (xA o1))) (rW X (compareOp (xA o2))) (tW X l) (tW X y) (tW X r) σ H Q:=by
 unfold mE at hm
 simp only at hm
 split at hm
 ·simp only [Bool.and_eq_true,Bool.not_eq_true'] at hm
  obtain ⟨⟨⟨⟨G,I⟩,u⟩,J⟩,B⟩:=hm
  unfold evE at he
  simp only at he
  cases nu G
  cases nu I
  split at he
  ·rename_i d0 d1 δ1 e
   split at he
   ·rename_i d
    cases he
    refine ⟨_,_,_,_,false,rfl,B,rfl,fun {Q} k=>SAs.two ih ok u s e fun v w F' H' W' Wt p h=>?_⟩
    obtain ⟨x,y,ex,i,j⟩:=(h.looks p.ok rfl).two
    cases ex
    exact pS ok.units p.ok.sub d i j ⟨false,rfl,by rw [if_neg Bool.false_ne_true];exact k _ _ _ p.drop⟩
   ·rename_i d
    split at he
    ·rename_i d2 δ2 f
     split at he
     ·rename_i t L
      cases he
      refine ⟨_,_,_,_,t,rfl,B,rfl,fun {Q} k=>SAs.two ih ok u s e fun v w F' H' W' Wt p h=>?_⟩
      obtain ⟨x,y,ex,i,j⟩:=(h.looks p.ok rfl).two
      cases ex
      refine pS ok.units p.ok.sub d i j ⟨true,rfl,?_⟩
      rw [if_pos rfl]
      refine g ok J p.ok f fun z P R W2 V q M=>?_
      cases h with
      | cons a1 a2 a3 a4 a5 =>
       cases a2 with
       | cons N Y Z O b5 =>
        cases N with
        | tmp o =>
         have o2:=o.ext q.ext fun b z=>p.dj b (a5 b (O b z))
         exact pS ok.units q.ok.sub L ⟨_,o2⟩ (M.look q.ok rfl) (k _ _ _ (p.aA q).drop)
     ·cases he
    ·cases he
   ·cases he
  ·cases he
 ·cases hm
theorem Cg {o1 o2:CmpOp} {y r:Expr} (h:cX r=false):lastMarks [o1,o2] [y,r]=false:=uz (o:=o2) h
theorem wq (ih:SAs C n) (b:SE C n) (ok:XOk C X c) {o1 o2:Cop} {d e f:E} {x:Expr} (hm:mE (m+1) c (.chain o1 o2 d e f) x=true) (s:SOk X.K F H σ δ W) (he:evE C (n+1) (.chain o1 o2 d e f) δ=some (a,δ')) (k:ah X F H W σ δ' a Q):tW X x σ H Q:=by
 obtain ⟨l,y,r,pos,t,rfl,g,rfl,go⟩:=nD ih b ok hm s he
 exact av (pe_chain mw mw ao ao ao (Cg g)) (go fun F' H' W' p=>k.atom p (.bl t))
theorem wg (ih:SAs C n) (a:SE C n) (ok:XOk C X c) {o1 o2:Cop} {d e f:E} {x:Expr} {b:Bool} {Q:Bool→Hp→Prop} (hm:mE (m+1) c (.chain o1 o2 d e f) x=true) (s:SOk X.K F H σ δ W) (he:evE C (n+1) (.chain o1 o2 d e f) δ=some (.tmp (.bl b),δ')) (k:Tells X F H W σ δ' b Q):tWT X x σ H Q:=by
 obtain ⟨l,y,r,pos,t,rfl,g,h,go⟩:=nD ih a ok hm s he
 cases h
 exact g7 (pt_chain mw mw ao ao ao (Cg g)) (go fun F' H' W' p=>⟨b,rfl,k _ _ _ p⟩)
theorem BH (ih:SE C n) (ok:XOk C X c) {e:E} {x:Expr} (hm:mE (m+1) c (.bnot e) x=true) (s:SOk X.K F H σ δ W) (he:evE C (n+1) (.bnot e) δ=some (a,δ')) (k:ah X F H W σ δ' a Q):tW X x σ H Q:=by
 unfold mE at hm
 simp only at hm
 split at hm
 ·unfold evE at he
  simp only at he
  split at he
  ·rename_i y δ1 e
   split at he
   ·rename_i d f
    split at he
    ·rename_i b g
     cases he
     exact av (pe_notT ao) (ih ok hm s e fun v F' H' W' Wt p h=>⟨b,iW p.ok.sub (h.look p.ok f) g,k.atom p (.bl _)⟩)
    ·cases he
   ·cases he
  ·cases he
 ·cases hm
theorem GW (d:ST C n) (ih:SE C n) (ok:XOk C X c) {b g i:E} {x:Expr} (hm:mE (m+1) c (.ite b g i) x=true) (s:SOk X.K F H σ δ W) (he:evE C (n+1) (.ite b g i) δ=some (a,δ')) (k:ah X F H W σ δ' a Q):tW X x σ H Q:=by
 unfold mE at hm
 simp only at hm
 split at hm
 ·simp only [Bool.and_eq_true] at hm
  obtain ⟨⟨j,l⟩,o⟩:=hm
  unfold evE at he
  simp only at he
  split at he
  ·rename_i δ1 b
   refine av (pe_ifExp fL ao ao) (d ok j s b fun F' H' W' p=>?_)
   rw [if_pos rfl]
   exact ih ok l p.ok he fun v e f W2 Wt q h=>k v e f W2 Wt (p.aA q) h
  ·rename_i δ1 b
   refine av (pe_ifExp fL ao ao) (d ok j s b fun F' H' W' p=>?_)
   rw [if_neg Bool.false_ne_true]
   exact ih ok o p.ok he fun v e f W2 Wt q h=>k v e f W2 Wt (p.aA q) h
  ·cases he
 ·cases hm
theorem GU (ih:SAs C n) (ok:XOk C X c) {es:List E} {x:Expr} (hm:mE (m+1) c (.tup es) x=true) (s:SOk X.K F H σ δ W) (he:evE C (n+1) (.tup es) δ=some (a,δ')) (k:ah X F H W σ δ' a Q):tW X x σ H Q:=by
 unfold mE at hm
 simp only at hm
 split at hm
 ·rw [Bool.and_eq_true] at hm
  unfold evE at he
  simp only at he
  split at he
  ·rename_i as δ1 d
   split at he
   ·rename_i ds δ2 e
    split at he
    ·rename_i f
     cases he
     refine av (pe_tup (aw hm.2)) (ih ok hm.1 s d fun vs F' H' W' Wt p h=>?_)
     obtain ⟨i,p2,o⟩:=p.bL h e
     obtain ⟨j,p3,r⟩:=p2.gL o
     have g:=of_decide_eq_true f
     have:=aJ
     refine ⟨by rw [o.length];omega,fun q b=>?_⟩
     exact k _ _ _ _ _ (p3.vp (New.tuple p3.ok.sub b)) (.tmp (Ow.tuple p3.ok.sub b r))
    ·cases he
   ·cases he
  ·cases he
 ·cases hm
theorem FU (ih:SAs C n) (ok:XOk C X c) {es:List E} {x:Expr} (hm:mE (m+1) c (.lst es) x=true) (s:SOk X.K F H σ δ W) (he:evE C (n+1) (.lst es) δ=some (a,δ')) (k:ah X F H W σ δ' a Q):tW X x σ H Q:=by
 unfold mE at hm
 simp only at hm
 split at hm
 ·rw [Bool.and_eq_true] at hm
  unfold evE at he
  simp only at he
  split at he
  ·rename_i as δ1 d
   split at he
   ·rename_i ds δ2 e
    split at he
    ·rename_i f
     cases he
     refine av (pe_lst (aw hm.2)) (ih ok hm.1 s d fun vs F' H' W' Wt p h=>?_)
     obtain ⟨i,p2,o⟩:=p.bL h e
     have g:=of_decide_eq_true f
     have:=aJ
     refine ⟨by rw [o.length];omega,fun q b=>?_⟩
     exact k _ _ _ _ _ (p2.tX (New.list p2.ok.sub b)).2 (.tmp (Ow.GX p2.ok.sub b o p2.lt))
    ·cases he
   ·cases he
  ·cases he
 ·cases hm
theorem G8 (ih:SAs C n) (ok:XOk C X c) {b e:E} {x:Expr} (hm:mE (m+1) c (.sub b e) x=true) (s:SOk X.K F H σ δ W) (he:evE C (n+1) (.sub b e) δ=some (a,δ')) (k:ah X F H W σ δ' a Q):tW X x σ H Q:=by
 unfold mE at hm
 simp only at hm
 split at hm
 ·simp only [Bool.and_eq_true,Bool.not_eq_true'] at hm
  unfold evE at he
  simp only at he
  split at he
  ·rename_i y i δ1 b
   split at he
   ·rename_i d e
    refine av (pe_ix ix_seq ao ao (j4 hm.2)) (SAs.two ih ok hm.1 s b fun v w F' H' W' Wt p h=>?_)
    cases h with
    | cons a1 a2 a3 a4 a5 =>
     cases a2 with
     | cons u N O P R =>
      cases (u.look p.ok rfl).int
      have l:=a1.look p.ok e
      split at he
      ·rename_i o xs
       split at he
       ·rename_i j ej
        split at he
        ·rename_i z q
         obtain ⟨ad,vs,v1,rfl,t,B,g,hk⟩:=l.kid p.ok.sub q
         refine qe (x:=v1) t (by rw [B];exact ej) g ?_
         split at he
         ·rename_i f
          cases he
          obtain ⟨V,hk⟩:=hk
          exact k.atom p.drop (hk.fz f)
         ·split at he
          ·cases he
           cases a1 with
           | bor G I=>exact k _ _ _ _ _ p.drop (.bor G (I.snoc rfl t g))
          ·cases he
        ·cases he
       ·cases he
      ·rename_i xs
       split at he
       ·rename_i j ej
        split at he
        ·rename_i z q
         cases he
         obtain ⟨ad,vs,rfl,sq,r⟩:=l.tup
         obtain ⟨v1,g,rz⟩:=r.get q
         exact qV (x:=v1) (af p.ok.sub sq) (by rw [r.length];exact ej) g (k.atom p.drop rz)
        ·cases he
       ·cases he
      ·split at he
       ·rename_i z J
        split at he
        ·rename_i j ej
         split at he
         ·rename_i L M
          cases he
          cases l.str
          exact .inr (.inr ⟨z,_,L,rfl,rfl,Nat.le_trans (of_decide_eq_true J) aJ,uU ej M,k.atom p.drop (.str _)⟩)
         ·cases he
        ·cases he
       ·cases he
      ·cases he
   ·cases he
  ·cases he
 ·cases hm
end
end Ev
namespace Ev
open PySem PySem.Spec PyProof.Rows L2
theorem An {K:Frag} {cn:Str} {C a:Addr} (h:nsIn K mainGlobals cn=some (some (.ref C))) (h':nsIn K mainGlobals cn=some (some (.ref a))):a=C:=by
 rw [h] at h'
 cases h'
 rfl
section
variable {C:Ctx} {X:Cx} {c:Cxt} {n m:Nat} {σ:L2.St} {δ δ':Dl} {F H:Hp} {W:Fp} {a:A} {Q:VK}
end
end Ev
namespace Ev
open PySem PySem.Spec PyProof.Rows L2
section
variable {C:Ctx} {X:Cx} {c:Cxt} {n m:Nat} {σ:L2.St} {δ δ':Dl} {F H:Hp} {W:Fp} {a:A} {Q:VK}
theorem ah.after {F1 H1:Hp} {W1 W2:Fp} {δ1:Dl} (k:ah X F H W σ δ' a Q) (p:aB X.K F H W F1 H1 σ δ1 W1 W2):ah X F1 H1 W1 σ δ' a Q:=fun v b c W2 Wt q h=>k v b c W2 Wt (p.aA q) h
theorem s_v (ih:SE C n):SV C (n+1):=by
 intro X c ok m e x σ δ F H W d δ' Q hm s he k
 unfold evV at he
 split at he
 ·rename_i a δ1 b
  refine ih ok hm s b fun v F' H' W' Wt p h=>?_
  obtain ⟨f,p2,o⟩:=p.toV h he
  exact k _ _ _ _ _ p2 o
 ·cases he
theorem nf:∀ {m:Nat} {xs:List Expr},mEs m c [] xs=true→xs=[]
 | 0,xs,h=>by simp [mEs] at h
 | m+1,[],_=>rfl
 | m+1,_::_,h=>by simp [mEs] at h
theorem kZ:∀ {m:Nat} {xs:List Expr},mTs m c [] xs=true→xs=[]
 | 0,xs,h=>by simp [mTs] at h
 | m+1,[],_=>rfl
 | m+1,_::_,h=>by simp [mTs] at h
theorem wN:∀ {n:Nat} {δ δ':Dl} {as:List A},aN C n [] δ=some (as,δ')→as=[]∧δ'=δ
 | 0,δ,δ',as,h=>by simp [aN] at h
 | n+1,δ,δ',as,h=>by simp only [aN] at h;cases h;exact ⟨rfl,rfl⟩
def Gy (X:Cx) (H:Hp) (v:V) (a:A):Prop:=∀ cn xs,a=.tmp (.obj cn xs)→∃ (x C dx:Addr) (vs:List V),v=.ref x∧nsIn X.K mainGlobals cn=some (some (.ref C))∧SlX.Slt H x C dx (vs.map some)
def vo (X:Cx):List Expr→List A→TA
 | [],_=>fun _ H Q=>Q [] H
 | x::xs,a::as=>fun σ H Q=>tW X x σ H fun v H1=>((∀ i,a=.tmp (.int i)→v=.int i)∧Gy X H1 v a)∧vo X xs as σ H1 fun vs H2=>Q (v::vs) H2
 | _::_,[]=>fun _ _ _=>False
def SAI (C:Ctx) (n:Nat):Prop:=∀ {X:Cx} {c:Cxt},XOk C X c→∀ {m:Nat} {es:List E} {xs:List Expr} {σ:L2.St} {δ:Dl} {F H:Hp} {W:Fp} {as:List A} {δ':Dl} {Q:List V→Hp→Prop},mEs m c es xs=true→SOk X.K F H σ δ W→aN C n es δ=some (as,δ')→jW X F H W σ δ' as Q→vo X xs as σ H Q
theorem n6:∀ {xs:List Expr} {as:List A} {H:Hp} {Q:List V→Hp→Prop},vo X xs as σ H Q→bQ X xs σ H Q
 | [],_,_,_,h=>h
 | _::_,_::_,_,_,h=>ay h fun _ _ q=>n6 q.2
 | _::_,[],_,_,h=>h.elim
theorem SAI.as (h:SAI C n):SAs C n:=by
 intro X c ok m es xs σ δ F H W as δ' Q hm s he k
 exact n6 (h ok hm s he k)
theorem Gu (j:SE C n) (ih:SAI C n):SAI C (n+1):=by
 intro X c ok m es xs σ δ F H W as δ' Q hm s he k
 unfold aN at he
 unfold mEs at hm
 split at hm
 ·cases hm
 rename_i m1
 split at hm
 ·split at hm
  ·simp only at he
   cases he
   exact k [] F H W No (.refl s) .nil
  ·cases hm
 ·rename_i e es
  split at hm
  ·rename_i x xs
   rw [Bool.and_eq_true] at hm
   simp only at he
   split at he
   ·rename_i a δ1 u
    split at he
    ·rename_i a2 δ2 f
     split at he
     ·rename_i as2 δ3 t
      cases he
      refine j ok hm.1 s u fun v F1 H1 W1 Wt p h=>?_
      have fin:∀ {g:Hp},aB X.K F H W g H1 σ δ2 W1 Wt→AOk X.K g H1 σ v a2 Wt→oD a2=true→((∀ i,a2=.tmp (.int i)→v=.int i)∧Gy X H1 v a2)∧vo X xs as2 σ H1 fun xs w=>Q (v::xs) w:=fun {g} p2 l np=>by
       refine ⟨⟨fun i ei=>?_,fun cn xs ei=>?_⟩,?_⟩
       ·subst ei
        exact (l.look p2.ok rfl).int
       ·subst ei
        obtain ⟨P,R,V,Y,B,G,I,_,_⟩:=(l.look p2.ok rfl).obj
        exact ⟨_,_,_,_,B,G,ck p2.ok.sub I⟩
       refine ih ok hm.2 p2.ok t fun vs J L M Wu q N=>?_
       obtain ⟨dj,p3⟩:=p2.dF q
       exact k (v::vs) J L M _ p3 (.cons (l.ext (δ':=δ) (Wu:=No) q.ext p2.dj np) N (fun b z y=>dj b z (.inl y)) (fun b z=>.inl z) fun b z=>.inr z)
      unfold settle at f
      split at f
      ·rename_i Z k0 p0
       split at f
       ·rename_i emp
        cases f
        cases es with
        | cons e' es'=>simp at emp
        | nil =>
         cases nf hm.2
         obtain ⟨rfl,rfl⟩:=wN t
         exact ⟨⟨fun i ei=>by simp at ei,fun cn xs ei=>by simp at ei⟩,k [v] F1 H1 W1 Wt p (.cons (W2:=No) h .nil (fun _ _ q=>q) (fun _ q=>q) fun _ q=>q.elim)⟩
       ·split at f
        ·rename_i d δ9 O
         cases f
         obtain ⟨g,p2,o⟩:=p.toV h O
         exact fin p2 (.tmp o) rfl
        ·cases f
      ·rename_i r
       cases f
       refine fin p h ?_
       cases a with
       | tmp d=>rfl
       | bor i q =>
        cases q with
        | nil=>rfl
        | cons k0 q=>exact absurd rfl (r i k0 q)
     ·cases he
    ·cases he
   ·cases he
  ·cases hm
theorem Gn (b:SE C n) (ih:Hz C n):Hz C (n+1):=by
 intro X c ok m es xs pos σ δ F H W a δ' Q hm s he k
 unfold jJ at he
 unfold mEs at hm
 split at hm
 ·cases hm
 rename_i m1
 split at hm
 ·cases he
 ·rename_i e es
  split at hm
  ·rename_i x xs
   rw [Bool.and_eq_true] at hm
   cases es with
   | nil =>
    simp only at he
    cases nf hm.2
    exact av (pe_one ao) (b ok hm.1 s he k)
   | cons i es =>
    cases xs with
    | nil =>
     have q:=hm.2
     unfold mEs at q
     split at q
     ·cases q
     ·simp at q
    | cons x2 xs =>
     simp only at he
     split at he
     ·rename_i a1 δ1 f
      split at he
      ·rename_i d g
       split at he
       ·rename_i et
        refine av (pe_andT ao ao) (b ok hm.1 s f fun v F1 H1 W1 Wt p h=>⟨true,iW p.ok.sub (h.look p.ok g) et,?_⟩)
        rw [if_pos rfl]
        exact ih ok hm.2 p.ok he (k.after p)
       ·rename_i et
        cases he
        refine av (pe_andT ao (ao (e:=.BoolOp .And (x2::xs) pos))) (b ok hm.1 s f fun v F1 H1 W1 Wt p h=>⟨false,iW p.ok.sub (h.look p.ok g) et,?_⟩)
        rw [if_neg Bool.false_ne_true]
        exact k _ _ _ _ _ p h
       ·cases he
      ·cases he
     ·cases he
  ·cases hm
theorem Io (b:SE C n) (ih:SOr C n):SOr C (n+1):=by
 intro X c ok m es xs pos σ δ F H W a δ' Q hm s he k
 unfold Aq at he
 unfold mEs at hm
 split at hm
 ·cases hm
 rename_i m1
 split at hm
 ·cases he
 ·rename_i e es
  split at hm
  ·rename_i x xs
   rw [Bool.and_eq_true] at hm
   cases es with
   | nil =>
    simp only at he
    cases nf hm.2
    exact av (pe_one ao) (b ok hm.1 s he k)
   | cons i es =>
    cases xs with
    | nil =>
     have q:=hm.2
     unfold mEs at q
     split at q
     ·cases q
     ·simp at q
    | cons x2 xs =>
     simp only at he
     split at he
     ·rename_i a1 δ1 f
      split at he
      ·rename_i d g
       split at he
       ·rename_i et
        refine av (pe_orT ao ao) (b ok hm.1 s f fun v F1 H1 W1 Wt p h=>⟨false,iW p.ok.sub (h.look p.ok g) et,?_⟩)
        rw [if_neg Bool.false_ne_true]
        exact ih ok hm.2 p.ok he (k.after p)
       ·rename_i et
        cases he
        refine av (pe_orT ao (ao (e:=.BoolOp .Or (x2::xs) pos))) (b ok hm.1 s f fun v F1 H1 W1 Wt p h=>⟨true,iW p.ok.sub (h.look p.ok g) et,?_⟩)
        rw [if_pos rfl]
        exact k _ _ _ _ _ p h
       ·cases he
      ·cases he
     ·cases he
  ·cases hm
theorem DZ (a:ST C n) (ih:xE C n):xE C (n+1):=by
 intro X c ok m es xs pos σ δ F H W b δ' Q hm s he k
 unfold mB at he
 unfold mTs at hm
 split at hm
 ·cases hm
 rename_i m1
 split at hm
 ·cases he
 ·rename_i e es
  split at hm
  ·rename_i x xs
   rw [Bool.and_eq_true] at hm
   cases es with
   | nil =>
    simp only at he
    cases kZ hm.2
    exact jg (pw_and1 fL) (a ok hm.1 s he k)
   | cons f es =>
    cases xs with
    | nil =>
     have q:=hm.2
     unfold mTs at q
     split at q
     ·cases q
     ·simp at q
    | cons x2 xs =>
     simp only at he
     split at he
     ·rename_i δ1 d
      refine jg (pw_and fL pw_tWW) (a ok hm.1 s d fun F1 H1 W1 p=>?_)
      rw [if_pos rfl]
      exact ih ok hm.2 p.ok he fun g h W2 q=>k _ _ _ (p.aA q)
     ·rename_i δ1 d
      cases he
      refine jg (pw_and fL (pw_tWW (x:=.BoolOp .And (x2::xs) pos))) (a ok hm.1 s d fun F1 H1 W1 p=>?_)
      rw [if_neg Bool.false_ne_true]
      exact k _ _ _ p
     ·cases he
  ·cases hm
theorem Fd (a:ST C n) (ih:EJ C n):EJ C (n+1):=by
 intro X c ok m es xs pos σ δ F H W b δ' Q hm s he k
 unfold kD at he
 unfold mTs at hm
 split at hm
 ·cases hm
 rename_i m1
 split at hm
 ·cases he
 ·rename_i e es
  split at hm
  ·rename_i x xs
   rw [Bool.and_eq_true] at hm
   cases es with
   | nil =>
    simp only at he
    cases kZ hm.2
    exact jg (pw_or1 fL) (a ok hm.1 s he k)
   | cons f es =>
    cases xs with
    | nil =>
     have q:=hm.2
     unfold mTs at q
     split at q
     ·cases q
     ·simp at q
    | cons x2 xs =>
     simp only at he
     split at he
     ·rename_i δ1 d
      refine jg (pw_or fL pw_tWW) (a ok hm.1 s d fun F1 H1 W1 p=>?_)
      rw [if_neg Bool.false_ne_true]
      exact ih ok hm.2 p.ok he fun g h W2 q=>k _ _ _ (p.aA q)
     ·rename_i δ1 d
      cases he
      refine jg (pw_or fL (pw_tWW (x:=.BoolOp .Or (x2::xs) pos))) (a ok hm.1 s d fun F1 H1 W1 p=>?_)
      rw [if_pos rfl]
      exact k _ _ _ p
     ·cases he
  ·cases hm
theorem uZ {x:Expr} (h:plainT x=true) (env:Env):∀ whole,isTrue x env whole=(do let v ← whole;standAt x.pos;holding [v] (truthy v)):=fun whole=>by
 cases x with
 | UnaryOp op y p=>cases op<;>first | rfl | simp [plainT] at h
 | BoolOp _ _ _=>simp [plainT] at h
 | IfExp _ _ _ _=>simp [plainT] at h
 | Compare _ _ _ _=>simp [plainT] at h
 | _=>rfl
theorem Cs {e:E} {x:Expr} (hm:mE (m+1) c e x=true) (d:plainT x=false):(∃ es,e=.band es)∨(∃ es,e=.bor es)∨(∃ a,e=.bnot a)∨(∃ p q r,e=.ite p q r)∨(∃ l os rs p,x=.Compare l os rs p):=by
  cases e with
  | band es=>exact .inl ⟨_,rfl⟩
  | bor es=>exact .inr (.inl ⟨_,rfl⟩)
  | bnot a=>exact .inr (.inr (.inl ⟨_,rfl⟩))
  | ite p q r=>exact .inr (.inr (.inr (.inl ⟨_,_,_,rfl⟩)))
  | bi b es =>
    unfold mE at hm
    simp only at hm
    split at hm<;>(split at hm<;>first | (simp [plainT] at d;done) | cases hm)
  | ob o cn nm f es =>
    cases o<;>(unfold mE at hm;simp only at hm)<;>first | cases hm | (split at hm<;>first | (simp [plainT] at d;done) | cases hm | exact .inr (.inr (.inr (.inr ⟨_,_,_,_,rfl⟩))))
  | mthM v cn nm f es =>
    unfold mE at hm
    simp only at hm
    split at hm
    · simp [plainT] at d
    · simp [plainT] at d
    · cases hm
  | disS l pre st post =>
    cases l<;>(unfold mE at hm;simp only at hm;split at hm)
    · simp [plainT] at d
    · cases hm
    · simp [plainT] at d
    · cases hm
  | fld a cn nm i =>
    unfold mE at hm
    simp only at hm
    split at hm
    · simp [plainT] at d
    · simp [plainT] at d
    · cases hm
  | _ =>
    unfold mE at hm
    simp only at hm
    first
      | cases hm
      | (split at hm
         · first
             | exact .inr (.inr (.inr (.inr ⟨_,_,_,_,rfl⟩)))
             | (simp [plainT] at d;done)
         · cases hm)
def SCT (C:Ctx) (n:Nat):Prop:=∀ {X:Cx} {c:Cxt},XOk C X c→∀ {m:Nat} {e:E} {l:Expr} {os:List CmpOp} {rs:List Expr} {pos:Pos} {σ:L2.St} {δ:Dl} {F H:Hp} {W:Fp} {a:A} {δ':Dl},mE m c e (.Compare l os rs pos)=true→SOk X.K F H σ δ W→evE C n e δ=some (a,δ') →
 ∃ t,a=.tmp (.bl t)∧∀ {Q:Bool→Hp→Prop},Tells X F H W σ δ' t Q→tWT X (.Compare l os rs pos) σ H Q
theorem IL (d:SAs C n) (g:SE C n):SCT C (n+1):=by
 intro X c ok m e l os rs pos σ δ F H W a δ' hm s he
 cases m with
 | zero=>simp [mE] at hm
 | succ m =>
 cases e with
 | cmp op h i =>
  obtain ⟨_,_,_,t,ex,_,rfl,_⟩:=Ad d ok hm s he
  exact ⟨t,rfl,fun {Q} k=>CO d ok hm s he k⟩
 | chain o1 o2 h i j =>
  obtain ⟨_,_,_,_,t,ex,_,rfl,_⟩:=nD d g ok hm s he
  exact ⟨t,rfl,fun {Q} k=>wg d g ok hm s he k⟩
 | kin ne ps h =>
  obtain ⟨_,_,_,_,t,_,_,rfl,_⟩:=zC g ok hm s he
  exact ⟨t,rfl,fun {Q} k=>Dc g ok hm s he k⟩
 | bi b es=>cases b<;>simp [mE] at hm
 | ob o cn nm f es =>
  cases o with
  | eqO ne=>simp [mE] at hm
  | cmpO op=>simp [mE] at hm
  | contO ne=>simp [mE] at hm
  | inMix ne=>simp [mE] at hm
  | _=>simp [mE] at hm
 | disS l pre st post=>cases l<;>simp [mE] at hm
 | _=>simp [mE] at hm
theorem s_t (f:SE C n) (g:ST C n) (i:xE C n) (j:EJ C n) (l:SCT C n):ST C (n+1):=by
 intro X c ok m e x σ δ F H W b δ' Q hm s he k
 unfold mT at hm
 split at hm
 ·cases hm
 rename_i m1
 split at hm
 ·split at hm
  ·simp only [evT] at he
   exact g7 (PW.pt pw_tWW) (i ok hm s he k)
  ·cases hm
 ·split at hm
  ·simp only [evT] at he
   exact g7 (PW.pt pw_tWW) (j ok hm s he k)
  ·cases hm
 ·split at hm
  ·simp only [evT] at he
   split at he
   ·rename_i z δ1 a
    cases he
    exact g7 (pt_not fL) (g ok hm s a fun F' H' W' p=>k _ _ _ p)
   ·cases he
  ·cases hm
 ·cases hm
 ·rename_i o q r B
  unfold evT at he
  split at he
  ·exact absurd rfl (o _)
  ·exact absurd rfl (q _)
  ·exact absurd rfl (r _)
  ·split at he
   ·rename_i a1 δ1 a
    split at he
    ·rename_i d u
     split at he
     ·rename_i z w
      cases he
      cases y:plainT x with
      | true =>
       exact g7 (pt_truth ao (uZ y X.env)) (f ok hm s a fun v F' H' W' Wt p h=>⟨b,iW p.ok.sub (h.look p.ok u) w,k _ _ _ p.drop⟩)
      | false =>
       cases m1 with
       | zero=>simp [mE] at hm
       | succ m1 =>
        rcases Cs hm y with ⟨_,rfl⟩ | ⟨_,rfl⟩ | ⟨_,rfl⟩ | ⟨_,_,_,rfl⟩ | ⟨_,_,_,_,rfl⟩
        ·exact absurd rfl (o _)
        ·exact absurd rfl (q _)
        ·exact absurd rfl (r _)
        ·exact absurd rfl (B _ _ _)
        ·obtain ⟨t,rfl,go⟩:=l ok hm s a
         cases u
         cases w
         exact go k
     ·cases he
    ·cases he
   ·cases he
theorem kJ:∀ {n:Nat} {es:List E} {δ δ':Dl} {as:List A},aN C n es δ=some (as,δ')→as.length=es.length
 | 0,es,δ,δ',as,h=>by simp [aN] at h
 | n+1,[],δ,δ',as,h=>by simp only [aN] at h;cases h;rfl
 | n+1,e::es,δ,δ',as,h=>by
  simp only [aN] at h
  split at h
  ·split at h
   ·split at h
    ·rename_i a
     cases h
     rw [List.length_cons,List.length_cons,kJ a]
    ·cases h
   ·cases h
  ·cases h
theorem kH:∀ {as:List A} {δ δ':Dl} {ds:List D},Ev.bL δ as=some (ds,δ')→ds.length=as.length
 | [],δ,δ',ds,h=>by simp only [Ev.bL] at h;cases h;rfl
 | a::as,δ,δ',ds,h=>by
  unfold Ev.bL at h
  split at h
  ·split at h
   ·rename_i b
    cases h
    rw [List.length_cons,List.length_cons,kH b]
   ·cases h
  ·cases h
theorem nQ:∀ {m:Nat} {es:List E} {xs:List Expr},mEs m c es xs=true→es.length=xs.length
 | 0,es,xs,h=>by simp [mEs] at h
 | m+1,[],[],_=>rfl
 | m+1,[],_::_,h=>by simp [mEs] at h
 | m+1,_::_,[],h=>by simp [mEs] at h
 | m+1,e::es,x::xs,h=>by
  simp only [mEs,Bool.and_eq_true] at h
  rw [List.length_cons,List.length_cons,nQ h.2]
theorem Jg (ih:SAs C n):SIt C (n+1):=by
 intro X c ok m t k es x σ δ F H W ds δ' R hm s he q
 unfold dB at he
 split at he
 ·rename_i as δ1 I
  split at he
  ·rename_i L δ2 M
   split at he
   ·rename_i items b
    cases he
    have go:∀ {k':ItK} {ys:List Expr} {m1:Nat},itD k' (frzs L)=some ds→mEs m1 c es ys=true→MI X t k' ys x→tWI X t x σ H R:=fun {k' ys m1} b h Q=>by
     refine FA Q b (by rw [dq,kH M,kJ I,nQ h]) (ih ok h s I fun vs F' H' W' Wt p ha=>?_)
     obtain ⟨V,p2,o⟩:=p.bL ha M
     obtain ⟨N,p3,r⟩:=p2.gL o
     exact ⟨N,p3.ok.sub,r,fun J w=>q _ _ _ J p3 w⟩
    unfold mI at hm
    split at hm
    ·cases hm
    rename_i m1
    split at hm
    ·simp only [Bool.and_eq_true,Bool.not_eq_true'] at hm
     exact go (k':=.val) b hm.1 (.val hm.2)
    ·rename_i cn f
     simp only [Bool.and_eq_true,Bool.not_eq_true'] at hm
     obtain ⟨⟨i,j⟩,d⟩:=hm
     have d:=of_decide_eq_true d
     simp only [itC] at b
     split at b
     ·rename_i cn' xs Y
      split at b
      ·rename_i O
       cases b
       rw [Bool.and_eq_true] at O
       obtain ⟨u,B⟩:=O
       have u:=of_decide_eq_true u
       subst u
       obtain ⟨Ca,Z,hn | ⟨OR,room,_⟩⟩:=ok.vn f _ d
       ·rw [hn] at B
        cases B
       obtain ⟨fI,fi,fl,fdI,fdl,_,_,_,_,_,IS,_,_,fdi,FI,bI⟩:=OR.ex
       have FR:FnR X.prog X.w X.K X.mg X.base CX0 1 fi (Ob.vA X.K Ca):=by have:=FI.raw bI (.nil:Vals [] []);simpa only [List.append_nil] using this
       refine cY (Ob.Gm IS FR (room.mono (by omega)) ao) ?_
       have g:bQ X [x] σ H (fun vs H1=>∃ v,vs=[v]∧∃ a dx t ws,v=.ref a∧SlX.Slt H1 a Ca dx [some (.ref t)]∧SqT X.K H1 t ws∧R (Itt X.K t) H1):=by
        refine ih ok i s I fun vs F' H' W' Wt p ha=>?_
        obtain ⟨V,p2,o⟩:=p.bL ha M
        obtain ⟨N,p3,r⟩:=p2.gL o
        rw [Y] at r
        cases r with
        | cons r0 rt =>
         cases rt
         obtain ⟨a,Cb,dx,us,rfl,hn,hs,_,l⟩:=Vw.obj (H:=H') ⟨No,.frz r0⟩
         cases An hn Z.nsC
         cases l with
         | cons l0 lt =>
          cases lt
          cases l0 with
          | tup P hl=>exact ⟨_,rfl,a,dx,_,_,rfl,ck p3.ok.sub hs,af p3.ok.sub P,q _ _ _ _ p3 (yf P hl)⟩
       exact ay g fun v H1 z=>by
        obtain ⟨v1,e,z⟩:=z
        cases e
        exact z
      ·cases b
     ·exact go (k':=.val) b i (.val j)
    ·split at hm
     ·simp only [Bool.and_eq_true] at hm
      obtain ⟨⟨⟨i,j⟩,d⟩,y⟩:=hm
      cases au i
      exact go (k':=.range) b d (.range (ok.gl j) (ok.blt _ (by decide)) y)
     ·cases hm
    ·split at hm
     ·simp only [Bool.and_eq_true] at hm
      obtain ⟨⟨⟨⟨i,j⟩,d⟩,y⟩,G⟩:=hm
      cases au i
      exact go (k':=.enum) b d (.enum G (ok.gl j) (ok.blt _ (by decide)) y)
     ·cases hm
    ·split at hm
     ·simp only [Bool.and_eq_true] at hm
      obtain ⟨⟨⟨⟨i,j⟩,d⟩,y⟩,G⟩:=hm
      cases au i
      exact go (k':=.zip) b d (.zip G (ok.gl j) (ok.blt _ (by decide)) y)
     ·simp only [Bool.and_eq_true] at hm
      obtain ⟨⟨⟨⟨i,j⟩,d⟩,y⟩,G⟩:=hm
      cases au i
      exact go (k':=.zip) b d (.zip3 G (ok.gl j) (ok.blt _ (by decide)) y)
     ·cases hm
   ·cases he
  ·cases he
 ·cases he
end
end Ev
namespace Ev
open PySem PySem.Spec PyProof.Rows L2
section
variable {C:Ctx} {X:Cx} {c:Cxt} {n m:Nat} {σ:L2.St} {δ δ':Dl} {F H:Hp} {W:Fp} {a:A} {Q:VK}
theorem xk {as:List A} {l h:Option Int} (e:partsOf (none:Option E).isSome (none:Option E).isSome as=some (l,h)):as=[]∧l=none∧h=none:=by
 simp only [Option.isSome_none] at e
 unfold partsOf at e
 split at e<;>first | (cases e;exact ⟨rfl,rfl,rfl⟩) | simp_all
theorem wu {lo:E} {as:List A} {l h:Option Int} (e:partsOf (some lo:Option E).isSome (none:Option E).isSome as=some (l,h)):∃ i,as=[.tmp (.int i)]∧l=some i∧h=none:=by
 simp only [Option.isSome_none,Option.isSome_some] at e
 unfold partsOf at e
 split at e<;>first | (cases e;exact ⟨_,rfl,rfl,rfl⟩) | simp_all
theorem wy {hi:E} {as:List A} {l h:Option Int} (e:partsOf (none:Option E).isSome (some hi:Option E).isSome as=some (l,h)):∃ i,as=[.tmp (.int i)]∧l=none∧h=some i:=by
 simp only [Option.isSome_none,Option.isSome_some] at e
 unfold partsOf at e
 split at e<;>first | (cases e;exact ⟨_,rfl,rfl,rfl⟩) | simp_all
theorem xw {lo hi:E} {as:List A} {l h:Option Int} (e:partsOf (some lo:Option E).isSome (some hi:Option E).isSome as=some (l,h)):∃ i j,as=[.tmp (.int i),.tmp (.int j)]∧l=some i∧h=some j:=by
 simp only [Option.isSome_some] at e
 unfold partsOf at e
 split at e<;>first | (cases e;exact ⟨_,_,rfl,rfl,rfl⟩) | simp_all
theorem zd (ih:SAI C n) (ok:XOk C X c) {b:E} {lo hi:Option E} {x:Expr} (hm:mE (m+1) c (.slice b lo hi) x=true) (s:SOk X.K F H σ δ W) (he:evE C (n+1) (.slice b lo hi) δ=some (a,δ')) (k:ah X F H W σ δ' a Q):tW X x σ H Q:=by
 unfold mE at hm
 simp only at hm
 split at hm
 ·rename_i l u v p2 pos
  simp only [Bool.and_eq_true,beq_iff_eq] at hm
  obtain ⟨⟨N,I⟩,e⟩:=hm
  unfold evE at he
  simp only at he
  split at he
  ·rename_i y as δ1 b
   split at he
   ·rename_i d J h' O f
    have P:jW X F H W σ δ1 (y::as) (fun vs B=>∀ x xs,vs=x::xs→EI X.K x J h' B Q):=by
     split at he
     ·rename_i r G
      cases he
      intro vs F' H' W' Wt p h
      cases h with
      | cons a1 a2 a3 a4 a5 =>
       rintro x xs ex
       cases ex
       exact DX p.ok.sub G (a1.look p.ok O) (k.goes p)
     ·split at he
      ·rename_i d2 dr δ2 R
       split at he
       ·rename_i r G
        cases he
        intro vs F' H' W' Wt p h
        rintro x xs rfl
        obtain ⟨V,q,o⟩:=p.bL h R
        obtain ⟨Y,L,r⟩:=q.gL o
        simp only [frzs] at r
        cases r with
        | cons r1 Z=>exact DX L.ok.sub G ⟨No,.frz r1⟩ (k.goes L)
       ·cases he
      ·cases he
    have g:=ih ok N s b (Q:=fun vs B=>∀ x xs,vs=x::xs→EI X.K x J h' B Q) P
    cases lo with
    | none =>
     cases u with
     | some _=>simp at I
     | none =>
     cases hi with
     | none =>
      cases v with
      | some _=>simp at e
      | none =>
      obtain ⟨rfl,rfl,rfl⟩:=xk f
      exact av (pe_slice oZ ao po_none po_none) (ay g fun x H1 q=>q.2 x [] rfl)
     | some hi =>
      cases v with
      | none=>simp at e
      | some v =>
      obtain ⟨i,rfl,rfl,rfl⟩:=wy f
      exact av (pe_slice oZ ao po_none (po_some ao)) (ay g fun x H1 q=>ay q.2 fun y M z=>⟨i,z.1.1 i rfl,z.2 x [y] rfl⟩)
    | some lo =>
     cases u with
     | none=>simp at I
     | some u =>
     cases hi with
     | none =>
      cases v with
      | some _=>simp at e
      | none =>
      obtain ⟨i,rfl,rfl,rfl⟩:=wu f
      exact av (pe_slice oZ ao (po_some ao) po_none) (ay g fun x H1 q=>ay q.2 fun y M z=>⟨i,z.1.1 i rfl,z.2 x [y] rfl⟩)
     | some hi =>
      cases v with
      | none=>simp at e
      | some v =>
      obtain ⟨i,j,rfl,rfl,rfl⟩:=xw f
      exact av (pe_slice oZ ao (po_some ao) (po_some ao)) (ay g fun x H1 q=>ay q.2 fun y M z=>⟨i,z.1.1 i rfl,ay z.2 fun w B t=>⟨j,t.1.1 j rfl,t.2 x [y,w] rfl⟩⟩)
   ·cases he
  ·cases he
 ·cases hm
theorem bC {f:Nat} {as:List A} {r:A × Dl} (e:br C f as δ=some r):∃ ds r outs,C.call f ds=some (r,outs):=by
 unfold br at e
 split at e
 ·split at e
  ·split at e
   ·rename_i a
    exact ⟨_,_,_,a⟩
   ·cases e
  ·cases e
 ·cases e
theorem Df (ih:SAs C n) (ok:XOk C X c) {f:Nat} {es:List E} {x:Expr} (hm:mE (m+1) c (.call f es) x=true) (s:SOk X.K F H σ δ W) (he:evE C (n+1) (.call f es) δ=some (a,δ')) (k:ah X F H W σ δ' a Q):tW X x σ H Q:=by
 unfold mE at hm
 simp only at hm
 split at hm
 ·rename_i g p0 xs pos
  rw [Bool.or_eq_true] at hm
  rcases hm with hm | hm
  rotate_left
  ·rw [Bool.and_eq_true,Bool.and_eq_true,Bool.and_eq_true] at hm
   obtain ⟨⟨⟨P,hg⟩,i⟩,hm⟩:=hm
   split at hm
   ·rename_i o Y m0 Z y ys q3
    simp only [Bool.and_eq_true] at hm
    obtain ⟨⟨⟨⟨⟨⟨⟨R,j⟩,l⟩,t⟩,u⟩,w⟩,b⟩,hlen⟩:=hm
    cases au P
    cases au t
    unfold evE at he
    simp only at he
    split at he
    ·rename_i as δ1 z
     obtain ⟨ds,r,outs,ec⟩:=bC he
     rcases ok.vm f o (of_decide_eq_true R) with hn | ⟨Ca,kc,it,C0,ways,O,room,B,G⟩
     ·rw [hn] at ec
      cases ec
     ·refine Ob.uQ G O (ok.calm i) room (ok.gl hg) (ok.blt _ (by decide)) (ok.gl j) (aX l).1 b u (of_decide_eq_true hlen).2 (ih ok w s z fun vs F' H' W' Wt p h=>?_)
      have cc:=(cP p h he fun v I J W2 Wu q L=>k v I J W2 Wu q L).2
      rwa [B] at cc
    ·cases he
   ·cases hm
  simp only [Bool.and_eq_true] at hm
  obtain ⟨⟨⟨⟨V,M⟩,N⟩,w⟩,b⟩:=hm
  unfold evE at he
  simp only at he
  split at he
  ·rename_i as δ1 z
   obtain ⟨ds,r,outs,ec⟩:=bC he
   obtain ⟨ad,fd,ps,sp,kk,mg,kp,room,d,bd,_,imp⟩:=ok.call.fn f g (of_decide_eq_true V) N _ _ _ ec
   have e:=(aX N).1
   have go:=ih ok w s z (Q:=fun vs H1=>sp (vs++[]) H1 Q E0) fun vs F' H' W' Wt p h=>by
    show sp (vs++[]) H' Q E0
    rw [List.append_nil]
    exact imp _ _ _ _ (cP p h he fun v I J W2 Wu q L=>k v I J W2 Wu q L).2
   cases xs with
   | nil=>exact av (pe_call0 d room (ok.gl M) mg kp bd .nil pass0 e) go
   | cons y ys=>exact av (pe_call d room (ok.gl M) mg kp bd .nil pass0 (aw b) e (aj _ b) (aq _ _ (ak b))) go
  ·cases he
 ·cases hm
theorem zL (b:Bi) (a:b.pl=true):biS b∈vy∧biS b≠"__name__" ∧ (biS b==("__debug__" : Str))=false∧((∃ id,biV b=.builtin id∧bootBuiltins (biS b)=some (.builtin id))∨∃ id,biV b=.type id∧bootBuiltins (biS b)=some (.type id)):=by
 cases b with
 | len=>exact ⟨by decide,by decide +kernel,by decide +kernel,.inl ⟨_,rfl,by decide +kernel⟩⟩
 | abs=>exact ⟨by decide,by decide +kernel,by decide +kernel,.inl ⟨_,rfl,by decide +kernel⟩⟩
 | min2=>exact ⟨by decide,by decide +kernel,by decide +kernel,.inl ⟨_,rfl,by decide +kernel⟩⟩
 | max2=>exact ⟨by decide,by decide +kernel,by decide +kernel,.inl ⟨_,rfl,by decide +kernel⟩⟩
 | min1=>exact ⟨by decide,by decide +kernel,by decide +kernel,.inl ⟨_,rfl,by decide +kernel⟩⟩
 | max1=>exact ⟨by decide,by decide +kernel,by decide +kernel,.inl ⟨_,rfl,by decide +kernel⟩⟩
 | sum1=>exact ⟨by decide,by decide +kernel,by decide +kernel,.inl ⟨_,rfl,by decide +kernel⟩⟩
 | int1=>exact ⟨by decide,by decide +kernel,by decide +kernel,.inr ⟨_,rfl,by decide +kernel⟩⟩
 | list1=>exact ⟨by decide,by decide +kernel,by decide +kernel,.inr ⟨_,rfl,by decide +kernel⟩⟩
 | tuple1=>exact ⟨by decide,by decide +kernel,by decide +kernel,.inr ⟨_,rfl,by decide +kernel⟩⟩
 | sorted1=>exact ⟨by decide,by decide +kernel,by decide +kernel,.inl ⟨_,rfl,by decide +kernel⟩⟩
 | all1=>exact ⟨by decide,by decide +kernel,by decide +kernel,.inl ⟨_,rfl,by decide +kernel⟩⟩
 | any1=>exact ⟨by decide,by decide +kernel,by decide +kernel,.inl ⟨_,rfl,by decide +kernel⟩⟩
 | divmod=>exact ⟨by decide,by decide +kernel,by decide +kernel,.inl ⟨_,rfl,by decide +kernel⟩⟩
 | lrange=>exact nomatch a
 | trange=>exact nomatch a
 | maxd=>exact nomatch a
 | sset=>exact nomatch a
 | lset=>exact nomatch a
 | step=>exact nomatch a
 | lenr=>exact nomatch a
 | str1=>exact ⟨by decide,by decide +kernel,by decide +kernel,.inr ⟨_,rfl,by decide +kernel⟩⟩
 | join _=>exact nomatch a
 | splt _=>exact nomatch a
 | repl _=>exact nomatch a
inductive RgA:List V→Int→Int→Int→Prop
 | one {j:Int}:RgA [.int j] 0 j 1
 | two {i j:Int}:RgA [.int i,.int j] i j 1
 | three {i j k:Int}:k≠0→k.natAbs<1073741824→RgA [.int i,.int j,.int k] i j k
theorem iG {pins:List (Addr × Obj)} {s:Shared} {y:Expr} {ys:List Expr} {p pos:Pos} {Q:Int→Int→Int→Hp→Prop} (hg:Gl X "range") (hm:X.mg "range" = none) (hn:noStar (y::ys)=true) (I:Inv X pins σ H s)
  (h:bQ X (y::ys) σ H fun vs H1=>∃ a b c,RgA vs a b c∧Q a b c H1) :
  wpAny (model X.prog X.w) X.A (eval (.Call (.Name "range" p) (y::ys) [] pos) X.env) (fun x j=>∃ r a b c t u v H',x=.ref r∧IsRange j.heap r a b c t u v∧Inv X pins σ H' j∧Q a b c H') X.xe s:=by
 refine Call_ (ld_blt I hg hm PyProof.Rows.boot_range (PyProof.Rows.callWith_type1 (thn ((aw hn).run pos pins s σ H _ I h) fun us s1 ⟨vs,H1,f,r1,k⟩=>?_) (aj _ hn) (aq _ _ (ak hn))))
 obtain ⟨a,b,c,l,q⟩:=k
 cases l with
 | one =>
  cases r1 with
  | cons r d =>
   cases d
   obtain ⟨t,rfl⟩:=r
   exact call_range_1 ⟨_,0,b,1,_,_,_,H1,rfl,IsRange.new _ _ _ _ _ _ _,f.kept fun b u e=>Heap.get?_push_of_some _ e,q⟩
 | two =>
  cases r1 with
  | cons r d =>
   cases d with
   | cons g d =>
    cases d
    obtain ⟨t,rfl⟩:=r
    obtain ⟨t',rfl⟩:=g
    exact call_range_2 ⟨_,a,b,1,_,_,_,H1,rfl,IsRange.new _ _ _ _ _ _ _,f.kept fun b u e=>Heap.get?_push_of_some _ e,q⟩
 | three c0 c1 =>
  cases r1 with
  | cons r d =>
   cases d with
   | cons g d =>
    cases d with
    | cons i d =>
     cases d
     obtain ⟨t,rfl⟩:=r
     obtain ⟨t',rfl⟩:=g
     obtain ⟨m,rfl⟩:=i
     exact call_range_3 c0 ⟨_,a,b,c,_,_,_,H1,rfl,IsRange.new _ _ _ _ _ _ _,f.kept fun b u e=>Heap.get?_push_of_some _ e,q⟩ (.inl (PyProof.noPylong_small (by omega)))
def p8 (a c:Int) (n:Nat):List V:=(List.range n).map fun i=>V.int (a+(i:Nat)*c)
theorem oK {a c:Int} {n:Nat} {acc:Array Value} (h:ItemsOf (fun i v=>∃ t,v=.int (a+i*c) t) acc n):Vals (p8 a c n) acc.toList:=by
 have e:acc.toList.length=n:=by rw [Array.length_toList];exact h.1
 unfold p8
 rw [← e]
 refine vals_of_get acc.toList _ fun j u b=>?_
 obtain ⟨t,rfl⟩:=h.2 j u (by rw [← b,Array.getElem?_toList])
 exact ⟨t,rfl⟩
theorem nJ {K:Frag}:∀ (n:Nat) (a c:Int),RpL K F (p8 a c n) (aC a c n)
 | 0,a,c=>.nil
 | n+1,a,c=>by
  have e:p8 a c (n+1)=V.int a::p8 (a+c) c n:=by
   unfold p8
   rw [List.range_succ_eq_map,List.map_cons,List.map_map]
   congr 1
   ·simp
   ·refine List.map_congr_left fun i _=>?_
    show V.int (a+((i+1:Nat):Int)*c)=V.int (a+c+(i:Nat)*c)
    rw [Int.natCast_succ,Int.add_mul]
    congr 1
    omega
  rw [e]
  exact .cons (.int _) (nJ n (a+c) c)
theorem oM (a c:Int) (n:Nat):(p8 a c n).length=n:=by unfold p8;rw [List.length_map,List.length_range]
theorem jR {K:Frag} {ds items:List D} {vs:List V} (e:aQ ds=some items) (d:VwL K F H vs ds) (q:items.length≤cap):∃ a b c,RgA vs a b c∧Builtin.Range.small a b c=true∧Builtin.Range.rangeSize a b c=(items.length:Nat)∧items=aC a c items.length:=by
 unfold aQ at e
 split at e
 ·rename_i j
  split at e
  ·rename_i cc
   cases e
   obtain ⟨x,rfl,f⟩:=d.one
   cases f.int
   obtain ⟨g,h⟩:=bU cc
   refine ⟨0,j,1,.one,small_one (by decide) (by decide) g h,?_,by rw [aM]⟩
   rw [aM,rangeSize_one]
   split<;>omega
  ·cases e
 ·rename_i i j
  split at e
  ·rename_i cc
   cases e
   obtain ⟨x,y,rfl,f,l⟩:=d.two
   cases f.int
   cases l.int
   simp only [Bool.and_eq_true] at cc
   obtain ⟨g,h⟩:=bU cc.1
   obtain ⟨m,n⟩:=bU cc.2
   refine ⟨i,j,1,.two,small_one g h m n,?_,by rw [aM]⟩
   rw [aM,rangeSize_one]
   split<;>omega
  ·cases e
 ·rename_i i j k
  split at e
  ·rename_i cc
   cases e
   cases d with
   | cons o t =>
    obtain ⟨y,z,rfl,l,p⟩:=t.two
    cases o.int
    cases l.int
    cases p.int
    simp only [Bool.and_eq_true,decide_eq_true_eq] at cc
    refine ⟨i,j,k,.three cc.1.2 (by omega),my (by simp only [Bool.and_eq_true];exact cc.1.1) cc.1.2,?_,by rw [aM]⟩
    rw [aM]
    have nn:0≤Builtin.Range.rangeSize i j k:=by
     unfold Builtin.Range.rangeSize
     split
     ·split
      ·have:0≤(j-i-1) / k:=Int.ediv_nonneg (by omega) (by omega)
       omega
      ·exact Int.le_refl 0
     ·split
      ·have:0≤(i-j-1) / (-k):=Int.ediv_nonneg (by omega) (by omega)
       omega
      ·exact Int.le_refl 0
    unfold oR
    omega
  ·cases e
 ·cases e
end
end Ev
namespace Ev
open PySem PySem.Spec PyProof.Rows L2
section
variable {K:Frag} {F H:Hp} {σ:L2.St}
end
section
variable {X:Cx}
theorem sg:∀ {kws:List Keyword},PK X kws (bQ X (CS kws))
 | []=>pk_nil
 | ⟨_,_,_⟩::kws=>pk_cons ao sg
theorem gW:∀ {xs ys:List Expr} {σ:L2.St} {H:Hp} {Q:List V→Hp→Prop},bQ X (xs++ys) σ H Q→bQ X xs σ H fun vs H1=>vs.length=xs.length∧bQ X ys σ H1 fun zs a=>zs.length=ys.length∧Q (vs++zs) a
 | [],ys,σ,H,Q,h=>by
  have len:∀ {ys:List Expr} {σ:L2.St} {H:Hp} {Q:List V→Hp→Prop},bQ X ys σ H Q→bQ X ys σ H fun zs a=>zs.length=ys.length∧Q zs a:=by
   intro ys
   induction ys with
   | nil=>intro σ H Q h;exact ⟨rfl,h⟩
   | cons y ys ih=>intro σ H Q h;exact ay h fun v H1 q=>ax (ih q) fun zs a z=>⟨by rw [List.length_cons,List.length_cons,z.1],z.2⟩
  exact ⟨rfl,len h⟩
 | x::xs,ys,σ,H,Q,h=>ay h fun v H1 q=>ax (gW q) fun vs a z=>⟨by rw [List.length_cons,List.length_cons,z.1],z.2⟩
end
section
variable {C:Ctx} {n m:Nat} {X:Cx} {c:Cxt} {F H:Hp} {W:Fp} {σ:L2.St} {δ δ':Dl} {a:A} {Q:VK}
end
end Ev
namespace Ev
open PySem PySem.Spec PyProof.Rows L2
def sV (K:Frag):List V→List V→Hp→VK→Prop:=fun vs zs H Q=>∃ (a:Addr) (ns:List Int) (z:Int),vs=[V.ref a]∧zs=[.int z]∧SqL K H a (ns.map V.int)∧(ns=[]→Q (.int z) H)∧∀ n ms,ns=n::ms→Q (.int (ms.foldl max n)) H
section
variable {X:Cx}
open PySem.W in
theorem uH (c:X.calm=true) (m:X.A.units+60<cLine):CallRK X (.builtin "max") [Str.ofString "default"] (sV X.K):=by
 intro pins s σ H vs zs us ws Q I r rz h
 obtain ⟨a,ns,z,rfl,rfl,hs,d,f⟩:=h
 obtain rfl:=Vals.ref1 r
 obtain ⟨g,rfl,j⟩:=vals1 rz
 obtain ⟨its,k,l,_⟩:=I.list hs
 have rd:=ints_readAll s.heap k.ints
 have dp:=fQ ns
 show wpAny _ _ (call (.builtin "max") [.ref a] [(Str.ofString "default",g)]) _ _ _
 refine max_list_default (I.ok.hd c) l.isList (by simpa using rd) (i5 ns) (by omega) (fun e h' tk hk=>?_) (fun y ys i v h' tk bs e hi b hk=>?_)
 ·have e0:ns=[]:=by cases ns with
   | nil=>rfl
   | cons=>simp at e
  exact ⟨.int z,H,I.kept hk,j,d e0⟩
 ·cases ns with
  | nil=>simp at e
  | cons n ms =>
   simp only [List.map_cons,List.cons.injEq] at e
   obtain ⟨rfl,rfl⟩:=e
   rw [maxD_ints] at b
   cases b with
   | int=>exact ⟨.int _,H,I.kept hk,⟨_,rfl⟩,f n ms rfl⟩
end
end Ev
namespace Ev
open PySem PySem.Spec PyProof.Rows L2 StX
section
variable {C:Ctx} {X:Cx} {c:Cxt} {n m:Nat} {σ:L2.St} {δ δ':Dl} {F H:Hp} {W:Fp} {a:A} {Q:VK}
noncomputable def xJ (X:Cx):List Expr→Expr→List Expr→TA
 | [],y,qs=>tStar X.K (tW X y) (bQ X qs)
 | p::ps,y,qs=>fun σ H Q=>tW X p σ H fun v H1=>xJ X ps y qs σ H1 fun vs H2=>Q (v::vs) H2
theorem qo {e:Expr} {es:List Expr} (env:Env) (h:noStar [e]=true):starEach (e::es) env=(false,eval e env)::starEach es env:=by
 cases e<;>first | rfl | simp [noStar] at h
theorem nL {e:Expr} {es:List Expr} (h:noStar (e::es)=true):noStar [e]=true:=by
 cases e<;>first | rfl | simp [noStar] at h
theorem j7:∀ {ps:List Expr} {y:Expr} {a:List Expr} {p:Pos},noStar ps=true→noStar a=true→PA X (ps++.Starred y p::a) (xJ X ps y a)
 | [],y,a,p,_,b=>pa_star ao (aw b)
 | e::ps,y,a,p,c,b=>pa_cons ao (j7 (ak c) b) (qo X.env (nL c))
theorem oJ:∀ {ps:List Expr} {y:Expr} {b:List Expr} {σ:L2.St} {H:Hp} {Q:List V→Hp→Prop},
  bQ X ps σ H (fun us H1=>tW X y σ H1 fun v a=>∃ p xs,v=V.ref p∧(SqT X.K a p xs∨SqL X.K a p xs)∧bQ X b σ a fun ws c=>Q (us++xs++ws) c)→xJ X ps y b σ H Q
 | [],y,b,σ,H,Q,h=>ay h fun v a ⟨p,xs,e,sq,q⟩=>⟨p,xs,e,sq,ax q fun ws c z=>by simpa using z⟩
 | e::ps,y,b,σ,H,Q,h=>ay h fun v H1 q=>oJ (ax q fun us a z=>ay z fun w c ⟨p,xs,e,sq,q⟩=>⟨p,xs,e,sq,ax q fun ws d z=>by simpa using z⟩)
def SVs (C:Ctx) (n:Nat):Prop:=∀ {X:Cx} {c:Cxt},XOk C X c→∀ {m:Nat} {es:List E} {xs:List Expr} {σ:L2.St} {δ:Dl} {F H:Hp} {W:Fp} {ds:List D} {δ':Dl} {Q:List V→Hp→Prop},mEs m c es xs=true→SOk X.K F H σ δ W→Ea C n es δ=some (ds,δ') →
 (∀ vs F' H' W',aB X.K F H W F' H' σ δ' W' No→RpL X.K F' vs (frzs ds)→Q vs H')→bQ X xs σ H Q
theorem Ic (ih:SAs C n):SVs C (n+1):=by
 intro X c ok m es xs σ δ F H W ds δ' Q hm s he k
 unfold Ea at he
 split at he
 ·rename_i as δ1 a
  refine ih ok hm s a fun vs F' H' W' Wt p h=>?_
  obtain ⟨b,p2,o⟩:=p.bL h he
  obtain ⟨d,p3,r⟩:=p2.gL o
  exact k _ _ _ _ p3 r
 ·cases he
theorem rY {d:D} {xs:List D} (h:items d.frz=some xs):d.frz=.tup xs∨d.frz=.lst false xs:=by
 cases d with
 | tup ys=>simp [D.frz,items] at h ⊢;exact h
 | lst o ys=>simp [D.frz,items,bV] at h ⊢;exact h
 | _=>simp [D.frz,items] at h
theorem Dq {K:Frag} {F H:Hp} (s:Same F H) {v:V} {d:D} {xs:List D} (r:Rp K F v d) (h:d=.tup xs∨d=.lst false xs):∃ p vs,v=.ref p∧(SqT K H p vs∨SqL K H p vs)∧RpL K F vs xs:=by
 rcases h with rfl | rfl
 ·cases r with
  | tup h l=>exact ⟨_,_,rfl,.inl (af s h),l⟩
 ·cases r with
  | lst h l=>exact ⟨_,_,rfl,.inr (SqL.of (s _ _ h)),l⟩
theorem tG {pre post:List E} {st:E} {xs:List Expr} (hm:CG m c pre st post xs=true):∃ m1 ps y p a,xs=ps++.Starred y p::a∧mEs m1 c pre ps=true∧noStar ps=true∧mE m1 c st y=true∧mEs m1 c post a=true∧noStar a=true:=by
 cases m with
 | zero=>simp [CG] at hm
 | succ m =>
  unfold CG at hm
  split at hm
  ·rename_i y p a e
   simp only [Bool.and_eq_true] at hm
   obtain ⟨⟨⟨⟨b,d⟩,f⟩,g⟩,h⟩:=hm
   refine ⟨m,xs.take pre.length,y,p,a,?_,b,d,f,g,h⟩
   rw [← e,List.take_append_drop]
  ·cases hm
theorem hU (e:SV C n) (b:SVs C n) (ok:XOk C X c) {l:Bool} {pre post:List E} {st:E} {ps g:List Expr} {y:Expr} {m1:Nat} (h:mEs m1 c pre ps=true) (i:mE m1 c st y=true) (j:mEs m1 c post g=true) (s:SOk X.K F H σ δ W) (he:evE C (n+1) (.disS l pre st post) δ=some (a,δ')) {R:List V→Hp→Prop}
  (k:∀ vs ds F' H' W',a=.tmp (HV l ds)→aB X.K F H W F' H' σ δ' W' No→RpL X.K F' vs ds→ds.length≤cap→R vs H'):xJ X ps y g σ H R:=by
 unfold evE at he
 simp only at he
 split at he
 ·rename_i ds δ1 m
  split at he
  ·rename_i d δ2 o
   split at he
   ·rename_i xs q
    split at he
    ·rename_i bs δ3 r
     split at he
     ·rename_i f
      cases he
      have f:=of_decide_eq_true f
      refine oJ (b ok h s m fun us F1 H1 W1 p1 r1=>?_)
      refine e ok i p1.ok o fun v x z W2 Wt p2 o2=>?_
      obtain ⟨B,p3,t⟩:=p2.dz o2
      obtain ⟨p,vs,rfl,sq,u⟩:=Dq p3.ok.sub t (rY q)
      refine ⟨p,vs,rfl,sq,?_⟩
      refine b ok j p3.ok r fun ws G I J p4 w=>?_
      have P:=(p1.aA p3).aA p4
      refine k _ _ _ _ _ rfl P (((r1.mono (p3.ext.fsub.trans p4.ext.fsub)).append (u.mono p4.ext.fsub)).append w) ?_
      rw [List.length_append,List.length_append,dq,dq]
      exact f
     ·cases he
    ·cases he
   ·cases he
  ·cases he
 ·cases he
theorem Cm (b:SV C n) (d:SVs C n) (ok:XOk C X c) {l:Bool} {pre post:List E} {st:E} {x:Expr} (hm:mE (m+1) c (.disS l pre st post) x=true) (s:SOk X.K F H σ δ W) (he:evE C (n+1) (.disS l pre st post) δ=some (a,δ')) (k:ah X F H W σ δ' a Q):tW X x σ H Q:=by
 have:=aJ
 unfold mE at hm
 simp only at hm
 split at hm
 ·split at hm
  ·obtain ⟨m1,ps,y,p,t,rfl,f,g,h,i,j⟩:=tG hm
   refine av (pe_lst (j7 g j)) (hU b d ok f h i s he fun vs ds F' H' W' o P r u=>?_)
   subst o
   refine ⟨by rw [r.length];omega,fun q e=>?_⟩
   have fz:fzs ds=true:=r.fz
   exact k _ _ _ _ _ (P.vp (New.list P.ok.sub e)) (.tmp (Ow.list P.ok.sub e r))
  ·cases hm
 ·split at hm
  ·obtain ⟨m1,ps,y,p,t,rfl,f,g,h,i,j⟩:=tG hm
   refine av (pe_tup (j7 g j)) (hU b d ok f h i s he fun vs ds F' H' W' o P r u=>?_)
   subst o
   refine ⟨by rw [r.length];omega,fun q e=>?_⟩
   exact k _ _ _ _ _ (P.vp (New.tuple P.ok.sub e)) (.tmp (Ow.tuple P.ok.sub e r))
  ·cases hm
end
end Ev
namespace Ev
open PySem PySem.Spec PyProof.Rows L2
section
variable {P:Program} {w:World} {A:Around} {E:Value→Shared→Prop} {s:Shared}
theorem iS {l:Addr} {items:Array Value} (ns:List Int) {Q:Value→Shared→Prop} (hh:A.handled=none) (hl:s.heap.IsList l items) (hit:IntsAre items.toList ns) (hb:ns.length+1<scanBound)
  (h:∀ (h':Heap) (tk c:Nat),SetR w h' s.heap.objs.size (fun j=>decide (j∈ns)) c→c≤ns.length→(∀ b o,s.heap.get? b=some o→h'.get? b=some o)→Q (.ref s.heap.objs.size) { s with heap:=h',toks:=tk }) :
  wpAny (model P w) A (call (.type "set") [.ref l]) Q E s:=by
 have a:items.size=ns.length:=by
  have q:=IntsAre.length hit
  rw [Array.length_toList] at q
  exact q
 obtain ⟨c,tl,Z⟩:=F.called_set.mro
 have I:=F.called_set.made
 have aa:=F.called_set.sub
 refine wpAny_call (codeAny_of_tree ?_)
 show wpAny _ _ (callAny (.type "set") _) _ _ _
 refine wpAny_pure ⟨Code.quiet_builtin _ (by decide +kernel),codeAny_builtin F.entry_type_call ?_⟩
 rw [Around.under_plain (weight_type_call_type "set" [.ref l] []) rfl]
 have h1:=F.called_set.notType
 have h2:=F.called_set.canCreate
 have ae:=F.typeCall_set_1 (.ref l)
 repeat (any_goals (first | assumption | wp_step))
 refine codeAny_mono (code_set_led1 (.ref l) (E:=E) (Q₁:=fun obj s₁=>obj=.ref s.heap.objs.size∧s₁={ s with heap:=s.heap.push { cls:=.type "set",dict:=none,data:=.set #[] 0 (.fresh 0 0 (!w.params.followText "set-order")) } }) ⟨rfl,rfl⟩) fun r s₁ J=>?_
 cases r with
 | error e=>exact J
 | ok fl =>
  cases fl with
  | ret obj =>
   obtain ⟨rfl,rfl⟩:=J
   have hS:(s.heap.push { cls:=.type "set",dict:=none,data:=.set #[] 0 (.fresh 0 0 (!w.params.followText "set-order")) }).get? s.heap.objs.size=some { cls:=.type "set",dict:=none,data:=.set #[] 0 (.fresh 0 0 (!w.params.followText "set-order")) }:=Heap.get?_push_size _ rfl
   have hT:Shared.TypeIs { s with heap:=s.heap.push { cls:=.type "set",dict:=none,data:=.set #[] 0 (.fresh 0 0 (!w.params.followText "set-order")) } } (.ref s.heap.objs.size) "set" := ⟨_,hS,rfl⟩
   have af:=F.called_set.init.lookup
   have ag:=F.called_set.init.bind (.ref s.heap.objs.size)
   repeat (any_goals (first | assumption | wp_step))
   refine codeAny_mono (codeAny_call_builtin (R:=wants (fun r s₂=>r=.none∧∃ h' tk c,s₂={ s with heap:=h',toks:=tk }∧SetR w h' s.heap.objs.size (fun j=>decide (j∈ns)) c∧c≤ns.length ∧
     (∀ b o,s.heap.get? b=some o→h'.get? b=some o)) E) F.called_set.init.plain F.entry_set_init (check_set_init_1 hT ?_)) fun r₂ s₂ hr₂=>?_
   ·obtain ⟨ol,n,p,nl,u⟩:=hl
    obtain ⟨ab,g,K,d⟩:=ol
    simp only at p u
    subst p;subst u
    have x:(s.heap.push { cls:=.type "set",dict:=none,data:=.set #[] 0 (.fresh 0 0 (!w.params.followText "set-order")) }).get? l=some { cls:=.type "list",dict:=g,data:=.seq items nl,slots:=d }:=Heap.get?_push_of_some _ n
    have ac:=PySem.F.sub_list_set
    have ad:=PySem.F.sub_list_frozenset
    have ai:(Value.type "list" == Value.type "dict")=false:=by decide
    have y:(s.heap.push { cls:=.type "set",dict:=none,data:=.set #[] 0 (.fresh 0 0 (!w.params.followText "set-order")) }).IsList l items:=⟨_,x,rfl,nl,rfl⟩
    unfold Builtin.«set.__init__» noKeywords Builtin.Frozenset.updateFrom
    generalize hPI:pyIter=PI
    wp_walk
    subst hPI
    refine wpAny_pyIter_list y ?_
    refine wpAny_bind (wpAny_runValue ?_)
    have z:l<s.heap.objs.size:=Heap.lt_size n
    have L:A.in1.in1.in1.handled=none:=by simp [hh]
    have al:(s.heap.push { cls:=.type "set",dict:=none,data:=.set #[] 0 (.fresh 0 0 (!w.params.followText "set-order")) }).objs.size=s.heap.objs.size+1:=Heap.size_push ..
    have B:l≠(s.heap.push { cls:=.type "set",dict:=none,data:=.set #[] 0 (.fresh 0 0 (!w.params.followText "set-order")) }).objs.size:=by
     rw [Heap.size_push];exact Nat.ne_of_lt (Nat.lt_succ_of_lt z)
    have M:s.heap.objs.size ∉ [(s.heap.push { cls:=.type "set",dict:=none,data:=.set #[] 0 (.fresh 0 0 (!w.params.followText "set-order")) }).objs.size,l]:=by
     rw [Heap.size_push];simp only [List.mem_cons,List.mem_singleton,List.not_mem_nil,or_false,not_or]
     exact ⟨Nat.ne_of_lt (Nat.lt_succ_self _),Nat.ne_of_gt z⟩
    have C:∀ (i:Nat) (v:Value),items[i]?=some v→∃ k t,ns[i]?=some k∧v=.int k t:=fun i v hv=>by
     have hi:i<ns.length:=by rw [← a];exact (Array.getElem?_eq_some_iff.mp hv).1
     obtain ⟨t,e⟩:=PyProof.Rows.IntsAre.int_at hit i v (by rw [Array.getElem?_toList];exact hv)
     refine ⟨ns[i],t,List.getElem?_eq_getElem hi,?_⟩
     rw [e,List.getD_eq_getElem?_getD,List.getElem?_eq_getElem hi]<;>rfl
    refine set_update_ints ((Walks.list L _ l B items).toS) s.heap.objs.size
     M ns a hb C (items.size-0) 0 _ (by omega) (Nat.zero_le _)
     ⟨⟨_,Heap.get?_push_size _ rfl,rfl,rfl⟩,(y.push _)⟩ ?hS0 ?hR
    case hS0 =>
     have G:((s.heap.push { cls:=.type "set",dict:=none,data:=.set #[] 0 (.fresh 0 0 (!w.params.followText "set-order")) }).push { cls:=.type "list_iterator",data:=.fields #[.ref l,.int 0 0] }).get? s.heap.objs.size
       = some { cls:=.type "set",dict:=none,data:=.set #[] 0 (.fresh 0 0 (!w.params.followText "set-order")) }:=Heap.get?_push_of_some _ hS
     exact ⟨0,Nat.le_refl 0,setR_new_at G⟩
    case hR =>
     intro s' c' hm f m
     obtain ⟨h',g2,d',N,O⟩:=s'
     have eg:g2=s.gens:=hm.gens
     have ed:d'=s.drawn:=hm.drawn
     have eo:O=s.os:=hm.os
     subst eg;subst ed;subst eo
     show wpAny _ _ _ _ _ _
     refine wpAny_pure ?_
     show wpAny _ _ (ret Value.none) _ _ _
     rw [a] at f
     refine wpAny_pure ⟨rfl,h',N,c',rfl,m,f,fun b o e=>?_⟩
     have H:b<s.heap.objs.size:=Heap.lt_size e
     have V:b≠s.heap.objs.size:=Nat.ne_of_lt H
     have X:b≠(s.heap.push { cls:=.type "set",dict:=none,data:=.set #[] 0 (.fresh 0 0 (!w.params.followText "set-order")) }).objs.size:=by
      rw [Heap.size_push];exact Nat.ne_of_lt (Nat.lt_succ_of_lt H)
     exact hm.heap b o (by simp only [List.mem_cons,List.mem_singleton,List.not_mem_nil,or_false,not_or];exact ⟨V,X⟩) (Heap.get?_push_of_some _ (Heap.get?_push_of_some _ e))
   ·cases r₂ with
    | error e=>exact hr₂
    | ok fl₂ =>
     cases fl₂ with
     | ret r =>
      obtain ⟨rfl,h',tk,c',rfl,m,f,Y⟩:=hr₂
      repeat (any_goals (first | assumption | wp_step))
      exact h _ _ _ m f Y
     | _=>exact hr₂.elim
  | _=>exact J.elim
end
section
variable {X:Cx}
def vk (K:Frag) (w:World):List V→Hp→VK→Prop:=fun xs H Q=>∃ (l:Addr) (ns:List Int),xs=[V.ref l]∧SqL K H l (ns.map V.int)∧ns.length<64 ∧
 ∀ a c,H a=none→c≤ns.length→Q (.ref a) (upd H a (SetO w a (fun j=>decide (j∈ns)) c))
theorem rC (b:X.calm=true):CallR X (.type "set") (vk X.K X.w):=by
 intro pins s σ H xs us Q I r h
 obtain ⟨l,ns,rfl,d,hf,q⟩:=h
 rw [Vals.ref1 r]
 obtain ⟨its,e,pl,f⟩:=I.list d
 have hn:H s.heap.objs.size=none:=I.hok.fresh (Nat.le_refl _)
 refine iS (P:=X.prog) (w:=X.w) ns (I.ok.hd b) pl.isList (by simpa using e.ints) (by unfold scanBound;omega) fun h' tk c R a k=>?_
 exact ⟨.ref s.heap.objs.size,upd H s.heap.objs.size (SetO X.w s.heap.objs.size _ c),I.laid (t':=tk) k (Nat.le_refl _) (setO_new R),rfl,q _ c hn a⟩
end
end Ev
namespace Ev
open PySem PySem.Spec PyProof.Rows L2
section
variable {K:Type} [DecidableEq K]
theorem hG (l:List K) (v k:K):(oneMore l v).any (fun y=>decide (y=k))=(l.any (fun y=>decide (y=k))||decide (k=v)):=by
 unfold oneMore
 split
 ·rename_i h
  by_cases e:k=v
  ·subst e
   rw [h]
   rfl
  ·rw [decide_eq_false e,Bool.or_false]
 ·rw [List.any_append]
  congr 1
  simp only [List.any_cons,List.any_nil,Bool.or_false]
  exact decide_eq_decide.mpr ⟨Eq.symm,Eq.symm⟩
theorem eC (l:List K) (v:K):(oneMore l v).length=if l.any (fun y=>decide (y=v)) then l.length else l.length+1:=by
 unfold oneMore
 split<;>simp
theorem dC (l:List K) (k:K):bF (l++[k])=oneMore (bF l) k:=by
 unfold bF
 rw [List.foldl_append]
 rfl
theorem oA:∀ (l acc:List K),(l.foldl oneMore acc).length≤acc.length+l.length
 | [],acc=>Nat.le_refl _
 | k::l,acc=>by
  have h:=oA l (oneMore acc k)
  rw [eC] at h
  simp only [List.foldl_cons,List.length_cons]
  split at h<;>omega
theorem dg (l:List K):(bF l).length≤l.length:=by
 have:=oA l []
 unfold bF
 simpa using this
end
section
variable {prog:Program} {w:World} {A:Around} {R:Result→Shared→Prop} {I:Addr} {fp wr:List Addr} {G:Array GenState→Array GenState→Prop} {n:Nat} {Pv:Nat→Value→Prop} {St:Nat→Shared→Prop}
variable {K:Type} [DecidableEq K] {knd:KeyKind prog w K}
theorem upd_loop (j:WalksS prog w A.in1 I fp wr G n Pv St) (S:Addr) (l:S ∉ fp) (ks:List K) (hn:ks.length=n)
  (m:∀ (i:Nat) (v:Value),Pv i v→∃ k,ks[i]?=some k∧knd.is k v=true∧v.scannable=true) (g:n+1<scanBound) :
  ∀ (k i:Nat) (s:Shared),n-i=k→i≤n→St i s →
   s.heap.SetOf knd S (fun k'=>(bF (ks.take i)).any (fun y=>decide (y=k'))) (bF (ks.take i)).length →
   (∀ a,Moved (S::wr) G s a→a.heap.SetOf knd S (fun k'=>(bF ks).any (fun y=>decide (y=k'))) (bF ks).length→R (.ok (.ret .none)) a) →
   codeAny (model prog w) A (.builtin "set.update.loop" ⟨[.ref S,.ref I],[]⟩) R s:=by
 have p:S ∉ wr:=fun h=>l (j.sub _ h)
 have c:∀ b∈wr,b∈S::wr:=fun b g=>List.mem_cons_of_mem _ g
 intro k
 induction k with
 | zero =>
  intro i s hk hi d H hR
  have J:i=n:=by omega
  subst J
  rw [List.take_of_length_le (by omega)] at H
  refine codeAny_builtin F.entry_set_update_loop ?_
  rw [Around.under_plainId F.plain_set_update_loop _]
  show wpAny _ A.in1 (pyNext (.ref I) >>= _) _ _ s
  refine wpAny_bind (j.done s _ _ d fun a hm=>?_)
  show wpAny _ A.in1 (ret Value.none) _ _ a
  exact wpAny_pure (hR a (hm.mono c) (by
   obtain ⟨o,es,ep,t,L,rest⟩:=H
   exact ⟨o,es,ep,t,hm.heap S _ p L,rest⟩))
 | succ k ih =>
  intro i s hk hi d H hR
  have q:i<n:=by omega
  refine codeAny_builtin F.entry_set_update_loop ?_
  rw [Around.under_plainId F.plain_set_update_loop _]
  show wpAny _ A.in1 (pyNext (.ref I) >>= _) _ _ s
  refine wpAny_bind (j.item i s _ _ q d fun v a V r hm=>?_)
  obtain ⟨key,u,x,M⟩:=m i v V
  have N:a.heap.SetOf knd S (fun k'=>(bF (ks.take i)).any (fun y=>decide (y=k'))) (bF (ks.take i)).length:=by
   obtain ⟨o,es,ep,tb,L,rest⟩:=H
   exact ⟨o,es,ep,tb,hm.heap S _ p L,rest⟩
  have tk:ks.take (i+1)=ks.take i++[key]:=by
   rw [List.take_add_one,u]
   rfl
  show wpAny _ A.in1 (holding [v] (setAdd S v) >>= _) _ _ a
  refine wpAny_bind (wpAny_holding ?_)
  unfold setAdd
  refine wpAny_holding ?_
  refine wpAny_bind (knd.pyHash (k:=key) x ?_)
  have f:(bF (ks.take i)).length+1<scanBound:=by
   have:=dg (ks.take i)
   rw [List.length_take] at this
   omega
  refine wpAny_setAddHashed_of (knd:=knd) (s:={ a with toks:=a.toks+1 }) x M N f fun h' z O=>?_
  have P:h'.SetOf knd S (fun k'=>(bF (ks.take (i+1))).any (fun y=>decide (y=k'))) (bF (ks.take (i+1))).length :=
   SetOf_congr O (fun k'=>by rw [tk,dC,hG]) (by rw [tk,dC,eC])
  refine wpAny_pure ⟨plainId_quiet F.plain_set_update_loop _,ih (i+1) _ (by omega) q (j.frame _ a _ _ r (Nat.le_succ _) fun b g o e=>?_) P fun Q B C=>?_⟩
  ·rw [z.2 b (fun h:b=S=>l (by rw [← h];exact g))];exact e
  ·refine hR Q (Moved.trans j.gtrans ((hm.mono c).then_heap (Nat.le_succ _) fun b o g e=>?_) B) C
   rw [z.2 b (fun h:b=S=>g (by rw [h];exact List.mem_cons_self))];exact e
end
section
variable {prog:Program} {w:World} {A:Around} {E:Value→Shared→Prop} {s:Shared} {K:Type} [DecidableEq K] {knd:KeyKind prog w K}
theorem eU {l:Addr} {items:Array Value} (ks:List K) {Q:Value→Shared→Prop} (hh:A.handled=none) (hl:s.heap.IsList l items) (hlen:ks.length=items.size)
  (g:∀ (i:Nat) (v:Value),items[i]?=some v→∃ k,ks[i]?=some k∧knd.is k v=true∧v.scannable=true) (z:items.size+1<scanBound)
  (h:∀ (h':Heap) (tk:Nat),h'.SetOf knd s.heap.objs.size (fun k'=>(bF ks).any (fun y=>decide (y=k'))) (bF ks).length →
   (∀ b o,b<s.heap.objs.size→s.heap.get? b=some o→h'.get? b=some o)→Q (.ref s.heap.objs.size) { s with heap:=h',toks:=tk }) :
  wpAny (model prog w) A (call (.type "set") [.ref l]) Q E s:=by
 obtain ⟨c,tl,P⟩:=F.called_set.mro
 have B:=F.called_set.made
 have V:=F.called_set.sub
 refine wpAny_call (codeAny_of_tree ?_)
 show wpAny _ _ (callAny (.type "set") _) _ _ _
 refine wpAny_pure ⟨Code.quiet_builtin _ (by decide +kernel),codeAny_builtin F.entry_type_call ?_⟩
 rw [Around.under_plain (weight_type_call_type "set" [.ref l] []) rfl]
 have h1:=F.called_set.notType
 have h2:=F.called_set.canCreate
 have ac:=F.typeCall_set_1 (.ref l)
 repeat (any_goals (first | assumption | wp_step))
 refine codeAny_mono (code_set_new_1 (.ref l) (E:=E) (Q₁:=fun obj X=>∃ led:Bool,obj=.ref s.heap.objs.size∧X={ s with heap:=s.heap.push { cls:=.type "set",dict:=none,data:=.set #[] 0 (.fresh 0 0 led) } }) fun led=>⟨led,rfl,rfl⟩) fun r X C=>?_
 cases r with
 | error e=>exact C
 | ok fl =>
  cases fl with
  | ret obj =>
   obtain ⟨led,rfl,rfl⟩:=C
   have Y:(s.heap.push { cls:=.type "set",dict:=none,data:=.set #[] 0 (.fresh 0 0 led) }).get? s.heap.objs.size=some { cls:=.type "set",dict:=none,data:=.set #[] 0 (.fresh 0 0 led) }:=Heap.get?_push_size _ rfl
   have hT:Shared.TypeIs { s with heap:=s.heap.push { cls:=.type "set",dict:=none,data:=.set #[] 0 (.fresh 0 0 led) } } (.ref s.heap.objs.size) "set" := ⟨_,Y,rfl⟩
   have ad:=F.called_set.init.lookup
   have ae:=F.called_set.init.bind (.ref s.heap.objs.size)
   repeat (any_goals (first | assumption | wp_step))
   refine codeAny_mono (codeAny_call_builtin (R:=wants (fun r s₂=>r=.none∧∃ h' tk,s₂={ s with heap:=h',toks:=tk } ∧
     h'.SetOf knd s.heap.objs.size (fun k'=>(bF ks).any (fun y=>decide (y=k'))) (bF ks).length ∧
     (∀ b o,b<s.heap.objs.size→s.heap.get? b=some o→h'.get? b=some o)) E) F.called_set.init.plain F.entry_set_init (check_set_init_1 hT ?_)) fun r₂ s₂ hr₂=>?_
   ·obtain ⟨ol,j,m,nl,n⟩:=hl
    obtain ⟨Z,d,G,a⟩:=ol
    simp only at m n
    subst m;subst n
    have p:(s.heap.push { cls:=.type "set",dict:=none,data:=.set #[] 0 (.fresh 0 0 led) }).get? l=some { cls:=.type "list",dict:=d,data:=.seq items nl,slots:=a }:=Heap.get?_push_of_some _ j
    have aa:=PySem.F.sub_list_set
    have ab:=PySem.F.sub_list_frozenset
    have af:(Value.type "list" == Value.type "dict")=false:=by decide
    have q:(s.heap.push { cls:=.type "set",dict:=none,data:=.set #[] 0 (.fresh 0 0 led) }).IsList l items:=⟨_,p,rfl,nl,rfl⟩
    unfold Builtin.«set.__init__» noKeywords Builtin.Frozenset.updateFrom
    generalize hPI:pyIter=PI
    wp_walk
    subst hPI
    refine wpAny_pyIter_list q ?_
    refine wpAny_bind (wpAny_runValue ?_)
    have t:l<s.heap.objs.size:=Heap.lt_size j
    have H:A.in1.in1.in1.handled=none:=by simp [hh]
    have u:l≠(s.heap.push { cls:=.type "set",dict:=none,data:=.set #[] 0 (.fresh 0 0 led) }).objs.size:=by
     rw [Heap.size_push];exact Nat.ne_of_lt (Nat.lt_succ_of_lt t)
    have I:s.heap.objs.size ∉ [(s.heap.push { cls:=.type "set",dict:=none,data:=.set #[] 0 (.fresh 0 0 led) }).objs.size,l]:=by
     rw [Heap.size_push];simp only [List.mem_cons,List.mem_singleton,List.not_mem_nil,or_false,not_or]
     exact ⟨Nat.ne_of_lt (Nat.lt_succ_self _),Nat.ne_of_gt t⟩
    refine upd_loop (knd:=knd) ((Walks.list H _ l u items).toS) s.heap.objs.size
     I ks hlen g z (items.size-0) 0 _ (by omega) (Nat.zero_le _)
     ⟨⟨_,Heap.get?_push_size _ rfl,rfl,rfl⟩,(q.push _)⟩ ?hS0 ?hR
    case hS0 =>
     have x:((s.heap.push { cls:=.type "set",dict:=none,data:=.set #[] 0 (.fresh 0 0 led) }).push { cls:=.type "list_iterator",data:=.fields #[.ref l,.int 0 0] }).get? s.heap.objs.size
       = some { cls:=.type "set",dict:=none,data:=.set #[] 0 (.fresh 0 0 led) }:=Heap.get?_push_of_some _ Y
     exact SetOf_congr ((setObjOf_fresh (knd:=knd) led).setOf x (by unfold scanBound;omega)) (fun _=>rfl) rfl
    case hR =>
     intro s' hm f
     obtain ⟨h',g',d',J,L⟩:=s'
     have eg:g'=s.gens:=hm.gens
     have ed:d'=s.drawn:=hm.drawn
     have eo:L=s.os:=hm.os
     subst eg;subst ed;subst eo
     show wpAny _ _ _ _ _ _
     refine wpAny_pure ?_
     show wpAny _ _ (ret Value.none) _ _ _
     refine wpAny_pure ⟨rfl,h',J,rfl,f,fun b o z e=>?_⟩
     have M:b≠s.heap.objs.size:=Nat.ne_of_lt z
     have N:b≠(s.heap.push { cls:=.type "set",dict:=none,data:=.set #[] 0 (.fresh 0 0 led) }).objs.size:=by
      rw [Heap.size_push];exact Nat.ne_of_lt (Nat.lt_succ_of_lt z)
     exact hm.heap b o (by simp only [List.mem_cons,List.mem_singleton,List.not_mem_nil,or_false,not_or];exact ⟨M,N⟩) (Heap.get?_push_of_some _ (Heap.get?_push_of_some _ e))
   ·cases r₂ with
    | error e=>exact hr₂
    | ok fl₂ =>
     cases fl₂ with
     | ret r =>
      obtain ⟨rfl,h',tk,rfl,f,O⟩:=hr₂
      repeat (any_goals (first | assumption | wp_step))
      exact h _ _ f O
     | _=>exact hr₂.elim
  | _=>exact C.elim
end
theorem j8:∀ {xs:List V} {us:List Value},Vals xs us→∀ (i:Nat) (v:Value),us[i]?=some v→∃ x,xs[i]?=some x∧RelV x v
 | _,_,.nil,i,v,h=>by simp at h
 | _,_,.cons r t,0,v,h=>by
  simp only [List.getElem?_cons_zero,Option.some.injEq] at h ⊢
  subst h
  exact ⟨_,rfl,r⟩
 | _,_,.cons r t,i+1,v,h=>by
  simp only [List.getElem?_cons_succ] at h ⊢
  exact j8 t i v h
def wJ (K:Frag) (ta:TE):TE:=fun σ H Q=>ta σ H fun x H1=>∃ l,x=V.ref l∧((∃ ns:List Int,SqL K H1 l (ns.map V.int)∧ns.length<64∧Q (.int (bF ns).length) H1)∨∃ ss:List Str,SqL K H1 l (ss.map V.str)∧ss.length<64∧Q (.int (bF ss).length) H1)
theorem qk {X:Cx} {a:Expr} {ta:TE} {p p2 q pos:Pos} (F:X.calm=true) (hg:Gl X "len") (hm:X.mg "len" = none) (j:Gl X "set") (m:X.mg "set" = none) (ha:PE X a ta)
  (na:starEach [a] X.env=(false,eval a X.env)::starEach [] X.env:=by rfl):PE X (.Call (.Name "len" p) [.Call (.Name "set" p2) [a] [] q] [] pos) (wJ X.K ta):=by
 refine ⟨fun pins s σ H Q I h=>?_⟩
 refine Call_ (ld_blt I hg hm PySem.boot_len ?_)
 refine PyProof.Rows.callWith_builtin1 (PyProof.Rows.args_cons ?_ rfl) rfl rfl
 refine Call_ (ld_blt I j m PyProof.Rows.boot_set ?_)
 refine PyProof.Rows.callWith_type1 (PyProof.Rows.args_cons (thn (ha.run pins s σ H _ I h) fun v s1 ⟨x,H1,f,r1,d⟩=>PyProof.Rows.args_nil ?_) na) na rfl
 obtain ⟨l,rfl,d⟩:=d
 cases r1
 rcases d with ⟨ns,n,G,d⟩ | ⟨ss,n,G,d⟩
 ·obtain ⟨its,r,pl,J⟩:=f.list n
  have g:ns.length=its.toArray.size:=by rw [List.size_toArray,← r.length,List.length_map]
  refine eU (knd:=intKind X.prog X.w) ns (f.ok.hd F) pl.isList g (fun i v u=>?_) (by rw [← g];unfold scanBound;omega) fun h' tk y hk=>?_
  ·obtain ⟨x,c,z⟩:=j8 r i v (by simpa using u)
   rw [List.getElem?_map] at c
   cases hn:ns[i]? with
   | none=>rw [hn] at c;cases c
   | some k =>
    rw [hn] at c
    cases c
    obtain ⟨t,rfl⟩:=z
    exact ⟨k,rfl,intKind_is _ _ _ _,rfl⟩
  ·refine PyProof.Rows.args_nil ?_
   obtain ⟨o,es,ep,t,B,hex,hd,_,_,_,hf,hn⟩:=y
   have C:Inv X pins σ H1 { s1 with heap:=h',toks:=tk }:=f.kept fun b o e=>hk b o (Heap.lt_size e) e
   have L:=dg ns
   exact call_len_set B hex hd hf (by rw [hn]<;>omega) ⟨.int (bF ns).length,H1,C.tok _,⟨_,by rw [hn]⟩,d⟩
 ·obtain ⟨its,r,pl,J⟩:=f.list n
  have g:ss.length=its.toArray.size:=by rw [List.size_toArray,← r.length,List.length_map]
  refine eU (knd:=strKind X.prog X.w) ss (f.ok.hd F) pl.isList g (fun i v u=>?_) (by rw [← g];unfold scanBound;omega) fun h' tk y hk=>?_
  ·obtain ⟨x,c,z⟩:=j8 r i v (by simpa using u)
   rw [List.getElem?_map] at c
   cases hn:ss[i]? with
   | none=>rw [hn] at c;cases c
   | some k =>
    rw [hn] at c
    cases c
    obtain ⟨t,rfl⟩:=z
    exact ⟨k,rfl,strKind_is _ _ _ _,rfl⟩
  ·refine PyProof.Rows.args_nil ?_
   obtain ⟨o,es,ep,t,B,hex,hd,_,_,_,hf,hn⟩:=y
   have C:Inv X pins σ H1 { s1 with heap:=h',toks:=tk }:=f.kept fun b o e=>hk b o (Heap.lt_size e) e
   have L:=dg ss
   exact call_len_set B hex hd hf (by rw [hn]<;>omega) ⟨.int (bF ss).length,H1,C.tok _,⟨_,by rw [hn]⟩,d⟩
end Ev
namespace Ev.Sb
open PySem PySem.Spec PyProof.Rows L2 Ev
section
variable {P:Program} {w:World} {A:Around} {E:Value→Shared→Prop} {s:Shared} {K:Type} [DecidableEq K] (knd:KeyKind P w K)
def iR (h:Heap) (a:Addr) (S:K→Bool) (n:Nat):Prop :=
 ∃ o es ep t,h.get? a=some o∧o.ExactSet∧o.data=.set es ep t∧ElemsOf knd es.toList∧(∀ k,S k=true ↔ ∃ e∈es.toList,knd.is k e.2=true) ∧
  es.size<scanBound∧t.fits es.size=true∧es.size=n∧Ris t.place.toList∧(w.params.followText "set-order" = true∨t.led=true)
variable {knd}
theorem iR.at {h h':Heap} {a:Addr} {S:K→Bool} {n:Nat} (R:iR knd h a S n) (k:∀ o,h.get? a=some o→h'.get? a=some o):iR knd h' a S n:=by
 obtain ⟨o,es,ep,t,b,r⟩:=R
 exact ⟨o,es,ep,t,k o b,r⟩
theorem iR.congr {h:Heap} {a:Addr} {S b:K→Bool} {n c:Nat} (R:iR knd h a S n) (e:∀ k,b k=S k) (en:c=n):iR knd h a b c:=by
 have q:b=S:=funext e
 rw [q,en];exact R
theorem eT {g:Bool→Sem Unit} (hg:∀ (b:Bool) (u:Shared) (Q':Unit→Shared→Prop),Q' () u→wpAny (model P w) A (g b) Q' E u) {a:Addr}
  {o:Obj} {es:Array (Int × Value)} {ep:Nat} {t:SetTable} (v:s.heap.get? a=some o) (hex:o.ExactSet) (hd:o.data=.set es ep t)
  {c:Array (Int × Value)} {t2:SetTable} {x:K→Bool} (g1:ElemsOf knd c.toList) (m1:∀ k,x k=true ↔ ∃ e∈c.toList,knd.is k e.2=true)
  (f:c.size<scanBound) (p:t2.fits c.size=true) (B:Ris t2.place.toList) (y:w.params.followText "set-order" = true∨t2.led=true) {d:Bool} {R:Option Bool→Shared→Prop}
  (hR:∀ h',Heap.SameBut a s.heap h'→iR knd h' a x c.size→R (some true) { s with heap:=h' }) :
  wpAny (model P w) A (do
    storeSet a c t2
    if (!d&&t2.tooFull)=true then do
      g (relayAll t2 c (SetTable.grown c.size)).2.2
      storeSet a (relayAll t2 c (SetTable.grown c.size)).1 (relayAll t2 c (SetTable.grown c.size)).2.1
      pure (some true)
     else pure (some true)) R E s:=by
 refine wpAny_bind (wpAny_storeSet_of v hd ?_ (fits_of_scanBound f))
 have h:=store_at (es':=c) (t':=t2) v hd
 have m:=Heap.SameBut.update s.heap a (Obj.putSet c t2)
 split
 ·have pm:=relayAll_perm t2 c (SetTable.grown c.size)
  have i:=relayAll_fits t2 c (SetTable.grown c.size)
  have j:=relayAll_ris t2 c (SetTable.grown c.size)
  have l:=relayAll_led t2 c (SetTable.grown c.size)
  generalize relayAll t2 c (SetTable.grown c.size)=Z at pm i j l ⊢
  obtain ⟨es2,t3,gave⟩:=Z
  dsimp only at pm i j l ⊢
  have hsz:es2.size=c.size:=by rw [← Array.length_toList,pm.length_eq,Array.length_toList]
  have n:es2.size<scanBound:=by rw [hsz];exact f
  refine wpAny_bind (hg _ _ _ ?_)
  refine wpAny_bind (wpAny_storeSet_of h rfl ?_ (fits_of_scanBound n))
  have r:=store_at (es':=es2) (t':=t3) h rfl
  refine wpAny_pure (hR _ (m.trans (Heap.SameBut.update _ a _)) ?_)
  exact ⟨_,es2,_,t3,r,hex,rfl,g1.perm pm,fun k=>(m1 k).trans ⟨fun ⟨e,he,q⟩=>⟨e,pm.mem_iff.mpr he,q⟩,fun ⟨e,he,q⟩=>⟨e,pm.mem_iff.mp he,q⟩⟩,n,i,hsz,j,
   y.imp id fun z=>by rw [l];exact z⟩
 ·exact wpAny_pure (hR _ m ⟨_,c,_,t2,h,hex,rfl,g1,m1,f,p,rfl,B,y⟩)
theorem wC {a:Addr} {S:K→Bool} {n:Nat} {k:K} {x:Value} {Q:Bool→Shared→Prop} (f:knd.is k x=true) (u:x.scannable=true) (R:iR knd s.heap a S n) (room:n+1<scanBound)
  (H:∀ h',Heap.SameBut a s.heap h'→iR knd h' a (fun k'=>S k'||decide (k'=k)) (if S k=true then n else n+1)→Q (!S k) { s with heap:=h' }) :
  wpAny (model P w) A (setAddHashed a x (knd.hash k)) Q E s:=by
 obtain ⟨o,es,ep,t,B,hex,hd,p,hm,I,hf,hn,J,L⟩:=R
 unfold setAddHashed setAddHashedIn
 refine wpAny_holding (wpAny_bind (wpAny_setState_of B hd hf ?_))
 dsimp only
 rw [byScan_of u I p]
 simp only [↓reduceIte]
 unfold setAddByScan
 refine wpAny_bind ?_
 refine wpAny_bind (wpAny_rule ?_)
 refine wpAny_bind (wpAny_setScan_of f B hd hf p ?_)
 cases hfi:List.findIdx? (fun e=>knd.is k e.2) es.toList with
 | some j =>
  dsimp only
  obtain ⟨M,N,_⟩:=List.findIdx?_eq_some_iff_getElem.mp hfi
  have g:S k=true:=(hm k).2 ⟨es.toList[j],List.getElem_mem M,N⟩
  refine wpAny_pure (wpAny_pure ?_)
  have q:=H s.heap (Heap.SameBut.refl a s.heap) ⟨o,es,ep,t,B,hex,hd,p,fun i=>by
   rw [Bool.or_eq_true,decide_eq_true_eq,← hm i]
   exact ⟨fun z=>z.elim id (fun e=>e▸g),.inl⟩,I,hf,by rw [if_pos g];exact hn,J,L⟩
  rw [g] at q
  exact q
 | none =>
  dsimp only
  have g:S k=false:=by
   cases hk:S k with
   | false=>rfl
   | true =>
    obtain ⟨e,he,O⟩:=(hm k).mp hk
    have c:=List.findIdx?_eq_none_iff.mp hfi e he
    rw [O] at c
    cases c
  have G:∀ (b:Bool) {C:Shared} {Q':Unit→Shared→Prop},Q' () C→wpAny (model P w) A (match b with | true=>rule "set.scan.the-table-gave-way" | false=>pure ()) Q' E C :=
   fun b C Q' q=>by cases b<;>first | exact wpAny_pure q | exact wpAny_rule q
  have pm:=layNew_perm t es (knd.hash k) x
  have d:=layNew_fits t es (knd.hash k) x
  have h:=layNew_ris t es (knd.hash k) x J
  have v:=layNew_led t es (knd.hash k) x
  generalize layNew t es (knd.hash k) x=Z at pm d h v ⊢
  obtain ⟨l,t1,y,gave⟩:=Z
  dsimp only at pm d h v ⊢
  rw [Array.toList_push] at pm
  have g1:ElemsOf knd l.toList:=(p.push f u).perm pm
  have m1:∀ k',(S k'||decide (k'=k))=true ↔ ∃ e∈l.toList,knd.is k' e.2=true:=mem_push_iff f hm pm
  have hsz:l.size=n+1:=by rw [← Array.length_toList,pm.length_eq,List.length_append,Array.length_toList,hn];rfl
  have F:l.size<scanBound:=by rw [hsz];exact room
  have m:w.params.followText "set-order" = true∨t1.led=true:=L.imp id fun z=>by rw [v];exact z
  have fin:∀ h',Heap.SameBut a s.heap h'→iR knd h' a (fun j=>S j||decide (j=k)) l.size→Q true { s with heap:=h' }:=fun h' sb r=>by
   have q:=H h' sb
   rw [g] at q
   rw [hsz] at r
   exact q r
  refine wpAny_bind (G _ ?_)
  split
  ·refine wpAny_bind ?_
   rw [hashByValue_scannable 8 u]
   refine wpAny_pure ?_
   refine eT ?_ B hex hd g1 m1 F ?_ ?_ ?_ ?_
   ·intro b C Q' q;cases b<;>first | exact wpAny_pure q | exact wpAny_rule q
   ·first | (split<;>first | exact d | exact SetTable.fits_plain_off d) | exact d
   ·first | (split<;>exact h) | exact h
   ·first | (split<;>exact m) | exact m
   ·intro h' sb r;dsimp only;exact wpAny_pure (fin h' sb r)
  ·refine wpAny_bind (wpAny_pure ?_)
   simp only [↓reduceIte]
   refine eT ?_ B hex hd g1 m1 F d h m ?_
   ·intro b C Q' q;cases b<;>first | exact wpAny_pure q | exact wpAny_rule q
   ·intro h' sb r;dsimp only;exact wpAny_pure (fin h' sb r)
theorem w7 {h:Heap} {a:Addr} (b:h.get? a=some { cls:=.type "set",dict:=none,data:=.set #[] 0 (.fresh 0 0 (!w.params.followText "set-order")) }):iR knd h a (fun _=>false) 0 :=
 ⟨_,#[],0,_,b,⟨rfl,rfl,rfl⟩,rfl,(fun e he=>by simp at he),(fun k=>by simp),(by decide),(by rfl),rfl,List.Pairwise.nil,by
  show _∨(!w.params.followText "set-order")=true
  cases w.params.followText "set-order"
  ·exact .inr rfl
  ·exact .inl rfl⟩
end
section
variable {prog:Program} {w:World} {A:Around} {R:Result→Shared→Prop} {I:Addr} {fp wr:List Addr} {G:Array GenState→Array GenState→Prop} {n:Nat} {Pv:Nat→Value→Prop} {St:Nat→Shared→Prop}
variable {K:Type} [DecidableEq K] {knd:KeyKind prog w K}
theorem rZ (j:WalksS prog w A.in1 I fp wr G n Pv St) (S:Addr) (l:S ∉ fp) (ks:List K) (hn:ks.length=n)
  (m:∀ (i:Nat) (v:Value),Pv i v→∃ k,ks[i]?=some k∧knd.is k v=true∧v.scannable=true) (g:n+1<scanBound) :
  ∀ (k i:Nat) (s:Shared),n-i=k→i≤n→St i s →
   iR knd s.heap S (fun k'=>(bF (ks.take i)).any (fun y=>decide (y=k'))) (bF (ks.take i)).length →
   (∀ a,Moved (S::wr) G s a→iR knd a.heap S (fun k'=>(bF ks).any (fun y=>decide (y=k'))) (bF ks).length→R (.ok (.ret .none)) a) →
   codeAny (model prog w) A (.builtin "set.update.loop" ⟨[.ref S,.ref I],[]⟩) R s:=by
 have p:S ∉ wr:=fun h=>l (j.sub _ h)
 have c:∀ b∈wr,b∈S::wr:=fun b g=>List.mem_cons_of_mem _ g
 intro k
 induction k with
 | zero =>
  intro i s hk hi d H hR
  have J:i=n:=by omega
  subst J
  rw [List.take_of_length_le (by omega)] at H
  refine codeAny_builtin F.entry_set_update_loop ?_
  rw [Around.under_plainId F.plain_set_update_loop _]
  show wpAny _ A.in1 (pyNext (.ref I) >>= _) _ _ s
  refine wpAny_bind (j.done s _ _ d fun a hm=>?_)
  show wpAny _ A.in1 (ret Value.none) _ _ a
  exact wpAny_pure (hR a (hm.mono c) (by
   obtain ⟨o,es,ep,t,L,rest⟩:=H
   exact ⟨o,es,ep,t,hm.heap S _ p L,rest⟩))
 | succ k ih =>
  intro i s hk hi d H hR
  have q:i<n:=by omega
  refine codeAny_builtin F.entry_set_update_loop ?_
  rw [Around.under_plainId F.plain_set_update_loop _]
  show wpAny _ A.in1 (pyNext (.ref I) >>= _) _ _ s
  refine wpAny_bind (j.item i s _ _ q d fun v a V r hm=>?_)
  obtain ⟨key,u,x,M⟩:=m i v V
  have N:iR knd a.heap S (fun k'=>(bF (ks.take i)).any (fun y=>decide (y=k'))) (bF (ks.take i)).length:=by
   obtain ⟨o,es,ep,tb,L,rest⟩:=H
   exact ⟨o,es,ep,tb,hm.heap S _ p L,rest⟩
  have tk:ks.take (i+1)=ks.take i++[key]:=by
   rw [List.take_add_one,u]
   rfl
  show wpAny _ A.in1 (holding [v] (setAdd S v) >>= _) _ _ a
  refine wpAny_bind (wpAny_holding ?_)
  unfold setAdd
  refine wpAny_holding ?_
  refine wpAny_bind (knd.pyHash (k:=key) x ?_)
  have f:(bF (ks.take i)).length+1<scanBound:=by
   have:=dg (ks.take i)
   rw [List.length_take] at this
   omega
  refine wC (knd:=knd) (s:={ a with toks:=a.toks+1 }) x M N f fun h' z O=>?_
  have P:iR knd h' S (fun k'=>(bF (ks.take (i+1))).any (fun y=>decide (y=k'))) (bF (ks.take (i+1))).length :=
   O.congr (fun k'=>by rw [tk,dC,hG]) (by rw [tk,dC,eC])
  refine wpAny_pure ⟨plainId_quiet F.plain_set_update_loop _,ih (i+1) _ (by omega) q (j.frame _ a _ _ r (Nat.le_succ _) fun b g o e=>?_) P fun Q B C=>?_⟩
  ·rw [z.2 b (fun h:b=S=>l (by rw [← h];exact g))];exact e
  ·refine hR Q (Moved.trans j.gtrans ((hm.mono c).then_heap (Nat.le_succ _) fun b o g e=>?_) B) C
   rw [z.2 b (fun h:b=S=>g (by rw [h];exact List.mem_cons_self))];exact e
end
section
variable {prog:Program} {w:World} {A:Around} {E:Value→Shared→Prop} {s:Shared} {K:Type} [DecidableEq K] {knd:KeyKind prog w K}
theorem iO {l:Addr} {items:Array Value} (ks:List K) {Q:Value→Shared→Prop} (hh:A.handled=none) (hl:s.heap.IsList l items) (hlen:ks.length=items.size)
  (g:∀ (i:Nat) (v:Value),items[i]?=some v→∃ k,ks[i]?=some k∧knd.is k v=true∧v.scannable=true) (z:items.size+1<scanBound)
  (h:∀ (h':Heap) (tk:Nat),iR knd h' s.heap.objs.size (fun k'=>(bF ks).any (fun y=>decide (y=k'))) (bF ks).length →
   (∀ b o,b<s.heap.objs.size→s.heap.get? b=some o→h'.get? b=some o)→Q (.ref s.heap.objs.size) { s with heap:=h',toks:=tk }) :
  wpAny (model prog w) A (call (.type "set") [.ref l]) Q E s:=by
 obtain ⟨c,tl,P⟩:=F.called_set.mro
 have B:=F.called_set.made
 have V:=F.called_set.sub
 refine wpAny_call (codeAny_of_tree ?_)
 show wpAny _ _ (callAny (.type "set") _) _ _ _
 refine wpAny_pure ⟨Code.quiet_builtin _ (by decide +kernel),codeAny_builtin F.entry_type_call ?_⟩
 rw [Around.under_plain (weight_type_call_type "set" [.ref l] []) rfl]
 have h1:=F.called_set.notType
 have h2:=F.called_set.canCreate
 have ac:=F.typeCall_set_1 (.ref l)
 repeat (any_goals (first | assumption | wp_step))
 refine codeAny_mono (code_set_led1 (.ref l) (E:=E) (Q₁:=fun obj X=>obj=.ref s.heap.objs.size∧X={ s with heap:=s.heap.push { cls:=.type "set",dict:=none,data:=.set #[] 0 (.fresh 0 0 (!w.params.followText "set-order")) } }) ⟨rfl,rfl⟩) fun r X C=>?_
 cases r with
 | error e=>exact C
 | ok fl =>
  cases fl with
  | ret obj =>
   obtain ⟨rfl,rfl⟩:=C
   have Y:(s.heap.push { cls:=.type "set",dict:=none,data:=.set #[] 0 (.fresh 0 0 (!w.params.followText "set-order")) }).get? s.heap.objs.size=some { cls:=.type "set",dict:=none,data:=.set #[] 0 (.fresh 0 0 (!w.params.followText "set-order")) }:=Heap.get?_push_size _ rfl
   have hT:Shared.TypeIs { s with heap:=s.heap.push { cls:=.type "set",dict:=none,data:=.set #[] 0 (.fresh 0 0 (!w.params.followText "set-order")) } } (.ref s.heap.objs.size) "set" := ⟨_,Y,rfl⟩
   have ad:=F.called_set.init.lookup
   have ae:=F.called_set.init.bind (.ref s.heap.objs.size)
   repeat (any_goals (first | assumption | wp_step))
   refine codeAny_mono (codeAny_call_builtin (R:=wants (fun r s₂=>r=.none∧∃ h' tk,s₂={ s with heap:=h',toks:=tk } ∧
     iR knd h' s.heap.objs.size (fun k'=>(bF ks).any (fun y=>decide (y=k'))) (bF ks).length ∧
     (∀ b o,b<s.heap.objs.size→s.heap.get? b=some o→h'.get? b=some o)) E) F.called_set.init.plain F.entry_set_init (check_set_init_1 hT ?_)) fun r₂ s₂ hr₂=>?_
   ·obtain ⟨ol,j,m,nl,n⟩:=hl
    obtain ⟨Z,d,G,a⟩:=ol
    simp only at m n
    subst m;subst n
    have p:(s.heap.push { cls:=.type "set",dict:=none,data:=.set #[] 0 (.fresh 0 0 (!w.params.followText "set-order")) }).get? l=some { cls:=.type "list",dict:=d,data:=.seq items nl,slots:=a }:=Heap.get?_push_of_some _ j
    have aa:=PySem.F.sub_list_set
    have ab:=PySem.F.sub_list_frozenset
    have af:(Value.type "list" == Value.type "dict")=false:=by decide
    have q:(s.heap.push { cls:=.type "set",dict:=none,data:=.set #[] 0 (.fresh 0 0 (!w.params.followText "set-order")) }).IsList l items:=⟨_,p,rfl,nl,rfl⟩
    unfold Builtin.«set.__init__» noKeywords Builtin.Frozenset.updateFrom
    generalize hPI:pyIter=PI
    wp_walk
    subst hPI
    refine wpAny_pyIter_list q ?_
    refine wpAny_bind (wpAny_runValue ?_)
    have t:l<s.heap.objs.size:=Heap.lt_size j
    have H:A.in1.in1.in1.handled=none:=by simp [hh]
    have u:l≠(s.heap.push { cls:=.type "set",dict:=none,data:=.set #[] 0 (.fresh 0 0 (!w.params.followText "set-order")) }).objs.size:=by
     rw [Heap.size_push];exact Nat.ne_of_lt (Nat.lt_succ_of_lt t)
    have I:s.heap.objs.size ∉ [(s.heap.push { cls:=.type "set",dict:=none,data:=.set #[] 0 (.fresh 0 0 (!w.params.followText "set-order")) }).objs.size,l]:=by
     rw [Heap.size_push];simp only [List.mem_cons,List.mem_singleton,List.not_mem_nil,or_false,not_or]
     exact ⟨Nat.ne_of_lt (Nat.lt_succ_self _),Nat.ne_of_gt t⟩
    refine rZ (knd:=knd) ((Walks.list H _ l u items).toS) s.heap.objs.size
     I ks hlen g z (items.size-0) 0 _ (by omega) (Nat.zero_le _)
     ⟨⟨_,Heap.get?_push_size _ rfl,rfl,rfl⟩,(q.push _)⟩ ?hS0 ?hR
    case hS0 =>
     have x:((s.heap.push { cls:=.type "set",dict:=none,data:=.set #[] 0 (.fresh 0 0 (!w.params.followText "set-order")) }).push { cls:=.type "list_iterator",data:=.fields #[.ref l,.int 0 0] }).get? s.heap.objs.size
       = some { cls:=.type "set",dict:=none,data:=.set #[] 0 (.fresh 0 0 (!w.params.followText "set-order")) }:=Heap.get?_push_of_some _ Y
     exact (w7 x).congr (fun _=>rfl) rfl
    case hR =>
     intro s' hm f
     obtain ⟨h',g',d',J,L⟩:=s'
     have eg:g'=s.gens:=hm.gens
     have ed:d'=s.drawn:=hm.drawn
     have eo:L=s.os:=hm.os
     subst eg;subst ed;subst eo
     show wpAny _ _ _ _ _ _
     refine wpAny_pure ?_
     show wpAny _ _ (ret Value.none) _ _ _
     refine wpAny_pure ⟨rfl,h',J,rfl,f,fun b o z e=>?_⟩
     have M:b≠s.heap.objs.size:=Nat.ne_of_lt z
     have N:b≠(s.heap.push { cls:=.type "set",dict:=none,data:=.set #[] 0 (.fresh 0 0 (!w.params.followText "set-order")) }).objs.size:=by
      rw [Heap.size_push];exact Nat.ne_of_lt (Nat.lt_succ_of_lt z)
     exact hm.heap b o (by simp only [List.mem_cons,List.mem_singleton,List.not_mem_nil,or_false,not_or];exact ⟨M,N⟩) (Heap.get?_push_of_some _ (Heap.get?_push_of_some _ e))
   ·cases r₂ with
    | error e=>exact hr₂
    | ok fl₂ =>
     cases fl₂ with
     | ret r =>
      obtain ⟨rfl,h',tk,rfl,f,O⟩:=hr₂
      repeat (any_goals (first | assumption | wp_step))
      exact h _ _ f O
     | _=>exact hr₂.elim
  | _=>exact C.elim
end
end Ev.Sb
namespace Ev.Sb
open PySem PySem.Spec PyProof.Rows L2 Ev
theorem tJ:∀ (L zs:List Str),L.Nodup→(∀ x∈L,x∈zs)→zs.length=L.length→zs.Perm L
 | [],zs,_,_,h=>by
  rw [List.length_eq_zero_iff.mp h]
 | x::L,zs,nd,sub,h=>by
  obtain ⟨c,d⟩:=List.nodup_cons.mp nd
  have a:=sub x (by simp)
  refine (List.perm_cons_erase a).trans (List.Perm.cons x (tJ L _ d (fun y b=>?_) ?_))
  ·have ne:y≠x:=fun e=>c (e▸b)
   exact (List.mem_erase_of_ne ne).mpr (sub y (by simp [b]))
  ·rw [List.length_erase_of_mem a,h]
   rfl
theorem jI {K:Type} [DecidableEq K] {l:List K} (k:K) (h:l.Nodup):(oneMore l k).Nodup:=by
 unfold oneMore
 split
 ·exact h
 ·rename_i c
  refine List.nodup_append.mpr ⟨h,by simp,fun a ha b d e=>c ?_⟩
  rw [List.mem_singleton.mp d] at e
  subst e
  exact List.any_eq_true.mpr ⟨a,ha,by simp⟩
theorem qJ {K:Type} [DecidableEq K] (l:List K):(bF l).Nodup:=by
 have go:∀ (l acc:List K),acc.Nodup→(l.foldl oneMore acc).Nodup:=fun l=>by
  induction l with
  | nil=>intro acc h;exact h
  | cons a l ih=>intro acc h;exact ih _ (jI a h)
 exact go l [] .nil
section
variable {P:Program} {w:World} {A:Around} {E:Value→Shared→Prop} {s:Shared}
theorem nM {a:Addr} {S:Str→Bool} {L:List Str} {Q:Value→Shared→Prop} (R:iR (PySem.strKind P w) s.heap a S L.length) (nd:L.Nodup) (C:∀ k,S k=true ↔ k∈L) (F:A.handled=none) (n:L.length<64)
  (G:∀ h p (out:Array Value) (c:Nat) (ys:List Str),(∀ b o,s.heap.get? b=some o→h.heap.get? b=some o)→h.gens=s.gens→h.os=s.os→s.heap.objs.size≤p →
   h.heap.get? p=some (seqObj "list" out c)→StrsAre out.toList ys→ys.Perm L→sortedS ys=true→Q (.ref p) h) :
  wpAny (model P w) A (call (.builtin "sorted") [.ref a]) Q E s:=by
 obtain ⟨o,es,ep,t,H,hex,hd,g,hm,I,hf,hn,J,K⟩:=R
 refine Calls.call_function_entry kind_sorted plain_sorted entry_sorted (args_sorted1 _) ?_
 unfold Builtin.«sorted»
 refine wpAny_bind (m:=checkCount "sorted" 1 1 _) (wpAny_pure ?_)
 refine wpAny_bind (collect_set (A:=A.in1) F ⟨o,H,hex.1,hd⟩ hf I J K fun s1 vs k1 M g1 o1 pm=>?_)
 have d:vs.length=L.length:=by rw [pm.length_eq,List.length_map,Array.length_toList];exact hn
 have i:∀ v∈vs,∃ x t,v=Value.str x t:=fun v l=>by
  obtain ⟨e,he,q⟩:=List.mem_map.mp (pm.mem_iff.mp l)
  obtain ⟨⟨k,B,_⟩,_⟩:=g e he
  rw [q] at B
  cases v with
  | str x t=>exact ⟨x,t,rfl⟩
  | _=>simp [PySem.strKind,Value.isStrOf] at B
 have r:StrsAre vs (vs.map strOf):=strsAre_map vs i
 have N:(vs.map strOf).Perm L:=tJ L _ nd (fun x O=>by
  obtain ⟨e,he,q⟩:=(hm x).mp ((C x).mpr O)
  have l:e.2∈vs:=pm.mem_iff.mpr (List.mem_map.mpr ⟨e,he,rfl⟩)
  refine List.mem_map.mpr ⟨e.2,l,?_⟩
  obtain ⟨y,t,V⟩:=i _ l
  rw [V] at q ⊢
  have:(y==x)=true:=by simpa [PySem.strKind,Value.isStrOf] using q
  exact eq_of_beq this) (by rw [List.length_map,d])
 refine wpAny_bind (wpAny_newList ?_ (by rw [d,sizeLine_eq];omega))
 have f:(s1.heap.push (seqObj "list" vs.toArray 0)).get? s1.heap.objs.size=some (seqObj "list" vs.toArray 0):=Heap.get?_push_size _ rfl
 refine wpAny_bind (wpAny_holding (wpAny_call_entry slot_list_sort ⟨_,f,rfl⟩ entry_list_sort
  (list_sort_treeK strKind_oneLt f r.keysOf (fun v₁ v₂ rest e=>keyKind_strs (by rw [← e];exact r)) (by rw [d];exact n) fun z X hs=>⟨_,rfl,?_⟩) (args_list_sort _)))
 obtain ⟨ys,Y,Z,y3⟩:=sorted_out_str r X hs
 obtain ⟨c,hc⟩:=sortedHeap_at (vs:=vs) (out:=(arrOf z).map (·.2)) f
 refine wpAny_pure ⟨_,rfl,G _ s1.heap.objs.size _ c ys (fun b u e=>?_) g1 o1 M hc Y (Z.trans N) y3⟩
 have q:=k1 b u e
 have j:=Heap.lt_size q
 show (sortedHeap (s1.heap.push (seqObj "list" vs.toArray 0)) s1.heap.objs.size vs _).get? b=some u
 rw [sortedHeap_old (Nat.ne_of_lt j) (by rw [size_push'];exact Nat.lt_succ_of_lt j)]
 exact Heap.get?_push_of_some _ q
end
def wV (P:Program) (w:World) (a:Addr) (S:Str→Bool) (n:Nat):HO:=.ext fun h=>iR (PySem.strKind P w) h a S n
theorem xj {w:World} {P:Program} {H:Hp} {h:Heap} {a:Addr} {S:Str→Bool} {n:Nat} (R:iR (PySem.strKind P w) h a S n):ObjOk P w H h a (wV P w a S n):=by
 have ⟨o,_,_,_,b,_⟩:=R
 exact ⟨R,⟨o,b⟩,fun c d p k=>p.at k⟩
section
variable {X:Cx}
def sX (K:Frag) (P:Program) (w:World):List V→Hp→VK→Prop:=fun xs H Q=>∃ (l:Addr) (ss:List Str),xs=[V.ref l]∧SqL K H l (ss.map V.str)∧ss.length<64 ∧
 ∀ a,H a=none→Q (.ref a) (upd H a (wV P w a (fun k'=>(bF ss).any (fun y=>decide (y=k'))) (bF ss).length))
theorem uk (d:X.calm=true):CallR X (.type "set") (sX X.K X.prog X.w):=by
 intro pins s σ H xs us Q I r h
 obtain ⟨l,ss,rfl,f,hf,q⟩:=h
 rw [Vals.ref1 r]
 obtain ⟨its,c,pl,m⟩:=I.list f
 have hn:H s.heap.objs.size=none:=I.hok.fresh (Nat.le_refl _)
 have ln:=c.length
 rw [List.length_map] at ln
 refine iO (knd:=PySem.strKind X.prog X.w) ss (I.ok.hd d) pl.isList (by simpa using ln) (fun i v g=>?_) (by unfold scanBound;simp;omega) fun h' tk R k=>?_
 ·obtain ⟨x,a,j⟩:=j8 c i v (by simpa using g)
  rw [List.getElem?_map] at a
  cases hs:ss[i]? with
  | none=>rw [hs] at a;cases a
  | some z =>
   rw [hs] at a
   cases a
   obtain ⟨t,rfl⟩:=j
   exact ⟨z,rfl,strKind_is X.prog X.w z t,rfl⟩
 ·exact ⟨.ref s.heap.objs.size,upd H s.heap.objs.size (wV X.prog X.w s.heap.objs.size _ _),I.laid (t':=tk) (fun b o e=>k b o (Heap.lt_size e) e) (Nat.le_refl _) (xj R),rfl,q _ hn⟩
def eD (P:Program) (w:World):List V→Hp→VK→Prop:=fun xs H Q=>∃ (a:Addr) (S:Str→Bool) (L:List Str),xs=[V.ref a]∧H a=some (wV P w a S L.length)∧L.Nodup∧(∀ k,S k=true ↔ k∈L)∧L.length<64 ∧
 ∀ (ys:List Str) (p:Addr),ys.Perm L→sortedS ys=true→H p=none→Q (.ref p) (upd H p (.lst (ys.map V.str)))
theorem kG (i:X.calm=true):CallR X (.builtin "sorted") (eD X.prog X.w):=by
 intro pins s σ H vs us Q I r h
 obtain ⟨a,S,L,rfl,ha,nd,j,d,q⟩:=h
 have R:iR (PySem.strKind X.prog X.w) s.heap a S L.length:=(I.hok a _ ha).1
 rw [Vals.ref1 r]
 refine nM R nd j (I.ok.hd i) d fun b p out c ys k g o f hg hi pm l=>?_
 have hlen:(ys.map V.str).length≤sizeLine:=by rw [List.length_map,pm.length_eq,sizeLine_eq];omega
 have hn:H p=none:=I.hok.fresh f
 have J:Inv X pins σ (upd H p (.lst (ys.map V.str))) { s with heap:=b.heap,gens:=b.gens,drawn:=b.drawn,toks:=b.toks } :=
  I.call (ch:=[]) (Un.laid k f hn) (I.hok.laid k f ⟨hlen,out.toList,c,vals_of_strs hi,hg⟩) (by rw [g];exact I.bare) (fun _ z=>nomatch z)
 have e:b={ s with heap:=b.heap,gens:=b.gens,drawn:=b.drawn,toks:=b.toks }:=by
  cases b
  cases s
  cases o
  rfl
 exact ⟨.ref p,_,by rw [e];exact J,rfl,q ys p pm l hn⟩
end
end Ev.Sb
namespace Ev.Sn
open PySem PySem.Spec PyProof.Rows L2
inductive yd:NestedKey→Prop where
 | num (i:Int):yd (.num i)
 | tup {ks:List NestedKey}:(∀ k∈ks,yd k)→yd (.tup ks)
section
variable {P:Program} {w:World} {A:Around} {E:Value→Shared→Prop} {s:Shared}
def vD (P:Program) (w:World) (f:Nat→Value→Sem Bool) (b:Bool) (n:Nat) (s:Shared) (v:Value):Prop:=∀ (A:Around) (E:Value→Shared→Prop) (Q:Bool→Shared→Prop),Q b s→wpAny (model P w) A (f n v) Q E s
theorem qA {n:Nat} {a:Addr} {o:Obj} {vs:Array Value} {m:Nat} (f:s.heap.get? a=some o) (g:o.cls=.type "tuple") (hd:o.data=.seq vs m) (i:∀ v∈vs.toList,vD P w ofAClassStatement false n s v):vD P w ofAClassStatement false (n+1) s (.ref a):=fun A E Q h=>by
 have j:s.TypeIs (.ref a) "tuple" := ⟨o,f,g⟩
 unfold ofAClassStatement
 refine wpAny_bind (wpAny_typeOf j ?_)
 dsimp only
 have e:(("tuple" : String)=="tuple")=true:=by decide
 simp only [e,if_true,Bool.not_true,Bool.false_eq_true,if_false]
 try refine wpAny_bind (wpAny_pure ?_)
 try simp only [Bool.not_true,Bool.false_eq_true,if_false]
 show wpAny _ _ (seqItems? (.ref a) >>= _) _ _ s
 refine wpAny_bind (wpAny_seqItems f hd ?_)
 dsimp only
 refine wpAny_bind ?_
 show wpAny _ _ (forIn vs _ _) _ _ s
 rw [← Array.forIn_toList]
 refine wpAny_forIn_list _ (fun rest r b=>r.1=none∧b=s∧∀ v∈rest,vD P w ofAClassStatement false n s v) _ ?_ ?_ _ _ ⟨rfl,rfl,i⟩
 ·rintro v rest r b ⟨c,rfl,hall⟩
  refine wpAny_bind (hall v List.mem_cons_self _ _ _ ?_)
  simp only [Bool.false_eq_true,if_false]
  exact wpAny_pure ⟨rfl,rfl,fun u d=>hall u (List.mem_cons_of_mem _ d)⟩
 ·rintro ⟨r1,k⟩ b ⟨c,rfl,_⟩
  simp only at c
  subst c
  exact wpAny_pure h
theorem uC {n:Nat} {a:Addr} {o:Obj} {vs:Array Value} {m:Nat} (e:s.heap.get? a=some o) (f:o.cls=.type "tuple") (hd:o.data=.seq vs m) (g:∀ v∈vs.toList,vD P w hashByValue true n s v):vD P w hashByValue true (n+1) s (.ref a):=fun A E Q h=>by
 have i:s.TypeIs (.ref a) "tuple" := ⟨o,e,f⟩
 unfold hashByValue
 refine wpAny_bind (wpAny_specialOf i F.slot_tuple_hash.lookup ?_)
 show wpAny _ _ (seqItems? (.ref a) >>= _) _ _ s
 refine wpAny_bind (wpAny_seqItems e hd ?_)
 refine wpAny_bind ?_
 show wpAny _ _ (forIn vs _ _) _ _ s
 rw [← Array.forIn_toList]
 refine wpAny_forIn_list _ (fun rest r b=>r.1=none∧b=s∧∀ v∈rest,vD P w hashByValue true n s v) _ ?_ ?_ _ _ ⟨rfl,rfl,g⟩
 ·rintro v rest r b ⟨c,rfl,hall⟩
  refine wpAny_bind (hall v List.mem_cons_self _ _ _ ?_)
  simp only [Bool.not_true,Bool.false_eq_true,if_false]
  exact wpAny_pure ⟨rfl,rfl,fun u d=>hall u (List.mem_cons_of_mem _ d)⟩
 ·rintro ⟨r1,j⟩ b ⟨c,rfl,_⟩
  simp only at c
  subst c
  exact wpAny_pure h
theorem eP {n:Nat} {v:Value} (h:∀ a,v≠.ref a):ofAClassStatement n v=pure false:=by
 cases v<;>first
  | (cases n<;>rfl)
  | exact absurd rfl (h _)
mutual
theorem fA:∀ (k:NestedKey) (v:Value) (n:Nat) (s:Shared),NestedIs s.heap k v→k.depth≤n→vD P w ofAClassStatement false n s v
 | .none,_,n,s,x,_=>by cases x;intro A E Q h;rw [eP (by intro a e;cases e)];exact wpAny_pure h
 | .num i,_,n,s,x,_=>by cases x<;>(intro A E Q h;rw [eP (by intro a e;cases e)];exact wpAny_pure h)
 | .text y,_,n,s,x,_=>by cases x;intro A E Q h;rw [eP (by intro a e;cases e)];exact wpAny_pure h
 | .tup ks,_,n,s,x,hn=>by
  cases x with
  | tup hg b hd hk =>
   simp only [NestedKey.depth] at hn
   cases n with
   | zero=>omega
   | succ n=>exact qA hg b hd (gZ ks _ n s hk (by omega))
theorem gZ:∀ (ks:List NestedKey) (vs:List Value) (n:Nat) (s:Shared),NestedAll s.heap ks vs→NestedKey.depthAll ks≤n→∀ v∈vs,vD P w ofAClassStatement false n s v
 | [],_,n,s,x,_,v,a=>by cases x;cases a
 | k::ks,_,n,s,x,hn,v,a=>by
  cases x with
  | cons b x2 =>
   simp only [NestedKey.depthAll] at hn
   rcases List.mem_cons.mp a with e | a
   ·rw [e];exact fA k _ n s b (by omega)
   ·exact gZ ks _ n s x2 (by omega) v a
end
mutual
theorem iI:∀ (k:NestedKey) (v:Value) (n:Nat) (s:Shared),NestedIs s.heap k v→k.depth≤n→yd k→vD P w hashByValue true n s v
 | .none,_,n,s,x,_,z=>nomatch z
 | .num i,_,n,s,x,_,_=>by cases x<;>(intro A E Q h;cases n<;>exact wpAny_pure h)
 | .text y,_,n,s,x,_,z=>nomatch z
 | .tup ks,_,n,s,x,hn,z=>by
  cases x with
  | tup hg a hd hk =>
   simp only [NestedKey.depth] at hn
   cases n with
   | zero=>omega
   | succ n =>
    have b:∀ k∈ks,yd k:=by cases z with | tup q=>exact q
    exact uC hg a hd (ji ks _ n s hk (by omega) b)
theorem ji:∀ (ks:List NestedKey) (vs:List Value) (n:Nat) (s:Shared),NestedAll s.heap ks vs→NestedKey.depthAll ks≤n→(∀ k∈ks,yd k)→∀ v∈vs,vD P w hashByValue true n s v
 | [],_,n,s,x,_,_,v,a=>by cases x;cases a
 | k::ks,_,n,s,x,hn,z,v,a=>by
  cases x with
  | cons b x2 =>
   simp only [NestedKey.depthAll] at hn
   rcases List.mem_cons.mp a with e | a
   ·rw [e];exact iI k _ n s b (by omega) (z _ List.mem_cons_self)
   ·exact ji ks _ n s x2 (by omega) (fun k hk=>z k (List.mem_cons_of_mem _ hk)) v a
end
end
end Ev.Sn
namespace Ev.Sn
open PySem PySem.Spec PyProof.Rows L2
def IsK (h:Heap) (k:NestedKey) (b:Addr):Prop:=NestedIs h k (.ref b)∧k.depth≤8∧yd k
theorem IsK.move {h h':Heap} {k:NestedKey} {b:Addr} (x:IsK h k b) (hk:∀ c o vs n,h.get? c=some o→o.data=.seq vs n→h'.get? c=some o):IsK h' k b:=⟨NestedIs.at hk _ _ x.1,x.2⟩
theorem IsK.keep {h h':Heap} {k:NestedKey} {b:Addr} (x:IsK h k b) (hk:∀ c o,h.get? c=some o→h'.get? c=some o):IsK h' k b:=x.move fun c o _ _ e _=>hk c o e
theorem IsK.other {h h':Heap} {k:NestedKey} {a b:Addr} {o:Obj} {es:Array (Int × Value)} {ep:Nat} {t:SetTable} (x:IsK h k b) (f:h.get? a=some o) (hd:o.data=.set es ep t) (hs:Heap.SameBut a h h'):IsK h' k b :=
 x.move fun c q vs n e d=>(hs.2 c fun ec=>by
  subst ec
  cases f.symm.trans e
  rw [hd] at d
  cases d).trans e
section
variable {α:Type}
theorem uB (f:α→Int × Value) (L:List α) (es:Array (Int × Value)) (order:Array Nat) (c:es.toList=L.map f) (b:order.toList.Perm (List.range L.length)) :
  ∃ L2:List α,(order.filterMap (es[·]?)).toList=L2.map f∧L2.Perm L∧(L2.map fun x=>(f x).1)=order.toList.map fun i=>(es.map (·.1)).getD i 0:=by
 have at_:∀ i:Nat,es[i]?=(L[i]?).map f:=fun i=>by rw [← Array.getElem?_toList,c,List.getElem?_map]
 have all:(List.range L.length).filterMap (fun i=>L[i]?)=L:=by
  have key:∀ n,n≤L.length→(List.range n).filterMap (fun i=>L[i]?)=L.take n:=fun n=>by
   induction n with
   | zero=>exact fun _=>rfl
   | succ n ih =>
    intro hn
    have one:[n].filterMap (fun i=>L[i]?)=L[n]?.toList:=by
     rw [List.filterMap_cons_some (List.getElem?_eq_getElem hn),List.getElem?_eq_getElem hn]
     rfl
    rw [List.range_succ,List.filterMap_append,ih (by omega),one,List.take_add_one]
  rw [key _ (Nat.le_refl _),List.take_length]
 refine ⟨order.toList.filterMap fun i=>L[i]?,?_,?_,?_⟩
 ·rw [Array.toList_filterMap,List.map_filterMap]
  exact congrArg (fun g=>List.filterMap g order.toList) (funext at_)
 ·have:=b.filterMap fun i=>L[i]?
  rw [all] at this
  exact this
 ·have a:∀ i∈order.toList,i<L.length:=fun i hi=>List.mem_range.mp (b.mem_iff.mp hi)
  generalize order.toList=l at a
  induction l with
  | nil=>rfl
  | cons i l ih =>
   have hi:=a i List.mem_cons_self
   have e:(es.map (·.1)).getD i 0=(f L[i]).1:=by
    have d:(es.map (·.1))[i]?=some (f L[i]).1:=by rw [Array.getElem?_map,at_,List.getElem?_eq_getElem hi];rfl
    simp [Array.getD_eq_getD_getElem?,d]
   rw [List.filterMap_cons_some (List.getElem?_eq_getElem hi),List.map_cons,List.map_cons,e,ih fun j h=>a j (List.mem_cons_of_mem _ h)]
end
abbrev nI (m:Nat) (h:Int) (c:Nat):SetTable.Probe:=nth m (runAt m (SetTable.bits h % (m+1)) (SetTable.bits h)) c
theorem lF (m:Nat) (h:Int) (c q:Nat):nth m (nI m h c) q=nI m h (c+q):=(nth_add m c _ q).symm
theorem nj (m:Nat) (h:Int):∀ c,(nI m h c).dummy=none:=by
 have key:∀ (n:Nat) (p:SetTable.Probe),p.dummy=none→(nth m p n).dummy=none:=fun n=>by
  induction n with
  | zero=>exact fun _ z=>z
  | succ n ih =>
   intro p z
   refine ih _ ?_
   unfold adv
   split<;>exact z
 exact fun c=>key c _ rfl
abbrev xy (w:World) (p:Addr × NestedKey):Int × Value:=(p.2.hash w,.ref p.1)
abbrev hsK (w:World) (L:List (Addr × NestedKey)):List Int:=L.map fun p=>(xy w p).1
structure ql (w:World) (h:Heap) (a:Addr) (L:List (Addr × NestedKey)) (es:Array (Int × Value)) (ep:Nat) (t:SetTable):Prop where
 obj:∃ o,h.get? a=some o∧o.ExactSet∧o.data=.set es ep t
 rows:es.toList=L.map (xy w)
 tab:TabOk t (hsK w L)
 nodup:(L.map Prod.snd).Nodup
 keys:∀ p∈L,IsK h p.2 p.1
 pln:t.plain=true
 ledg:w.params.followText "set-order" = true∨t.led=true
 roomy:L.length*5<t.mask*3
section
variable {P:Program} {w:World} {A:Around} {E:Value→Shared→Prop} {s:Shared}
variable {a:Addr} {L:List (Addr × NestedKey)} {es:Array (Int × Value)} {ep:Nat} {t:SetTable}
theorem cz (a:es.toList=L.map (xy w)):es.size=L.length:=by
 rw [← Array.length_toList,a,List.length_map]
theorem iz (a:es.toList=L.map (xy w)) (i:Nat):es[i]?=(L[i]?).map (xy w):=by rw [← Array.getElem?_toList,a,List.getElem?_map]
theorem fits_of {n:Nat} (hs:t.place.size=n) (hd:t.dummies=#[]) (hm:n≤t.mask):t.fits n=true:=by
 unfold SetTable.fits SetTable.fill
 rw [hd,Bool.and_eq_true,beq_iff_eq,decide_eq_true_eq]
 exact ⟨hs,by rw [hs];exact hm⟩
theorem ql.few (R:ql w s.heap a L es ep t):L.length≤76:=by
 have h:=R.roomy
 rcases R.tab.mok with e | e | e<;>omega
theorem ql.zS (R:ql w s.heap a L es ep t):t.place.size=L.length:=by
 have h:=R.tab.sz
 rwa [List.length_map] at h
theorem ql.fits (R:ql w s.heap a L es ep t):t.fits es.size=true:=by
 have h:=R.roomy
 exact fits_of (by rw [cz R.rows];exact R.zS) R.tab.dm (by rw [cz R.rows];omega)
theorem BN {k:NestedKey} {b:Addr} {Q:Bool→Shared→Prop} (hk:IsK s.heap k b) {ys:List Value} (e:∀ y∈ys,∃ j c,y=Value.ref c∧IsK s.heap j c) (h:Q false s):wpAny (model P w) A (searchCouldBeSeen (.ref b) ys) Q E s:=by
 unfold searchCouldBeSeen
 refine wpAny_bind (wpAny_forIn_list _ (fun rest r a=>r.1=none∧a=s∧∀ y∈rest,∃ j c,y=Value.ref c∧IsK s.heap j c) _ ?_ ?_ _ _ ⟨rfl,rfl,e⟩)
 ·rintro y rest r a ⟨_,rfl,all⟩
  obtain ⟨j,c,rfl,d⟩:=all y List.mem_cons_self
  have tl:∀ u∈rest,∃ j c,u=Value.ref c∧IsK a.heap j c:=fun u f=>all u (List.mem_cons_of_mem _ f)
  dsimp only
  by_cases same:(b==c||(carriedByValue (.ref b)&&carriedByValue (.ref c)))=true
  ·exact wp_if_pos same (wpAny_pure ⟨rfl,rfl,tl⟩)
  ·refine wp_if_neg same (wpAny_bind ((nestedKind P w).quiet ⟨hk.1,hk.2.1⟩ ?_))
   simp only [Bool.not_true,Bool.false_eq_true,if_false]
   refine wpAny_bind ((nestedKind P w).quiet ⟨d.1,d.2.1⟩ ?_)
   simp only [Bool.not_true,Bool.false_eq_true,if_false]
   refine wpAny_bind (fA _ _ 8 _ hk.1 hk.2.1 _ _ _ ?_)
   simp only [Bool.false_eq_true,if_false]
   refine wpAny_bind (fA _ _ 8 _ d.1 d.2.1 _ _ _ ?_)
   simp only [Bool.false_eq_true,if_false]
   exact wpAny_pure ⟨rfl,rfl,tl⟩
 ·rintro ⟨r1,i⟩ a ⟨g,rfl,_⟩
  cases (show r1=none from g)
  exact wpAny_pure h
theorem mj (R:ql w s.heap a L es ep t) {x:Addr} {k:NestedKey} (u:IsK s.heap k x) (B:A.units+8<cLine) {N:Nat} (hN:N<10*SetTable.turns t.mask) (free:way t.mask (k.hash w) N ∉ t.place.toList)
  (b:∀ c,c<N→way t.mask (k.hash w) c∈t.place.toList) {Q:SetFound→Shared→Prop} (yes:k∈L.map Prod.snd→Q (.there none) s) (no:k ∉ L.map Prod.snd→Q (.free (way t.mask (k.hash w) N) false) s) :
  ∀ (f c:Nat) (st:Option SetTable.Probe),st.getD (t.probeStart (k.hash w))=nI t.mask (k.hash w) c→c≤N→N-c<f →
   (∀ (i:Nat) p,L[i]?=some p→p.2=k→∃ d,c≤d∧d<N∧t.place.toList[i]?=some (way t.mask (k.hash w) d))→wpAny (model P w) A (setSearchFrom a (.ref x) (k.hash w) true f st) Q E s
 | 0,_,_,_,_,lt,_=>absurd lt (Nat.not_lt_zero _)
 | f+1,c,st,e0,cN,lt,later=>by
  obtain ⟨o,C,hex,hd⟩:=R.obj
  have gw:¬ t.gaveWay=true:=by
   unfold SetTable.gaveWay
   rw [mask_odd R.tab.mok]
   decide
  rw [setSearchFrom_succ]
  refine wpAny_bind (wpAny_setState_of C hd R.fits ?_)
  dsimp only
  refine wp_if_neg gw ?_
  try refine wpAny_bind (wpAny_pure ?_)
  have F:∀ (i:Nat) p,L[i]?=some p→(fun i=>(es[i]?.map (·.1)).getD 0) i=p.2.hash w:=fun i p n=>by
   show (es[i]?.map (·.1)).getD 0=_
   rw [iz R.rows,n]
   rfl
  have l:∀ q,(nth t.mask (nI t.mask (k.hash w) c) q).j=way t.mask (k.hash w) (c+q):=fun q=>congrArg SetTable.Probe.j (lF ..)
  have sub:∀ d,c≤d→c+(d-c)=d:=fun d h=>by omega
  rcases go_spec t R.tab.ris R.tab.dm (fun i=>(es[i]?.map (·.1)).getD 0) (k.hash w) (10*SetTable.turns t.mask) (N-c) _ (nj t.mask (k.hash w) c) (by omega) (fun q H=>by rw [l];exact b _ (by omega)) (by rw [l,sub N cN];exact free) with ⟨q,i,H,hi,M,fresh,m⟩ | ⟨fresh,m⟩
  ·rw [l] at hi
   have pr:t.probe (fun i=>(es[i]?.map (·.1)).getD 0) (k.hash w) (st.getD (t.probeStart (k.hash w)))=some (.candidate (way t.mask (k.hash w) (c+q)) i (nI t.mask (k.hash w) (c+(q+1)))):=by
    rw [e0,← l,← lF]
    exact m
   rw [pr]
   dsimp only
   have I:i<L.length:=by
    have:=(List.getElem?_eq_some_iff.mp hi).1
    rw [Array.length_toList,R.zS] at this
    exact this
   obtain ⟨p,n⟩:∃ p,L[i]?=some p:=⟨_,List.getElem?_eq_getElem I⟩
   have pm:p∈L:=List.mem_of_getElem? n
   have ei:es[i]?=some (xy w p):=by rw [iz R.rows,n];rfl
   have behind:wpAny (model P w) A (searchRest a (.ref x) (k.hash w) true f es t (way t.mask (k.hash w) (c+q)) i (nI t.mask (k.hash w) (c+(q+1)))) Q E s:=by
    unfold searchRest
    rw [ei]
    dsimp only
    refine wpAny_bind (wpAny_holding ((nestedKind P w).eqBool B (x:=p.2) (y:=k) ⟨(R.keys p pm).1,(R.keys p pm).2.1⟩ ⟨u.1,u.2.1⟩ ?_))
    refine wpAny_bind (wpAny_setState_of C hd R.fits ?_)
    dsimp only
    by_cases eq:p.2=k
    ·exact wp_if_pos (by simp [eq]) (wpAny_pure (yes (List.mem_map.mpr ⟨p,pm,eq⟩)))
    ·refine wp_if_neg (by simp [eq]) ?_
     try refine wpAny_bind (wpAny_pure ?_)
     rw [sameMem]
     dsimp only
     have live:t.slot (way t.mask (k.hash w) (c+q))=.live i:=slot_live R.tab.ris hi
     simp only [if_true,live,ei]
     refine wpAny_bind (wpAny_isSame_ref_self (wpAny_bind (wpAny_pure ?_)))
     simp only [if_true]
     refine wp_if_neg (by simp [eq]) (mj R u B hN free b yes no f (c+(q+1)) _ rfl (by omega) (by omega) fun g p0 h0 k0=>?_)
     obtain ⟨d,d1,d2,d3⟩:=later g p0 h0 k0
     refine ⟨d,?_,d2,d3⟩
     rcases Nat.lt_trichotomy d (c+q) with z | z | z
     ·exact absurd ((F g p0 h0).trans (by rw [k0])) (fresh (d-c) g (by omega) (by rw [l,sub d d1];exact d3))
     ·rw [z] at d3
      have l0:=slot_live R.tab.ris d3
      rw [live] at l0
      injection l0 with l0
      rw [← l0,n] at h0
      cases h0
      exact absurd k0 eq
     ·omega
   by_cases G:t.led=true
   ·refine wp_if_neg (by simp [G]) ?_
    try refine wpAny_bind (wpAny_pure ?_)
    exact behind
   ·refine wp_if_pos (by simp [G]) (wpAny_bind (BN u (fun y J=>?_) ?_))
    ·obtain ⟨e,he,rfl⟩:=List.mem_map.mp J
     have r:e∈es.toList:=by
      have:=(show e∈es∧e.1=k.hash w by simpa using he).1
      simpa using this
     rw [R.rows] at r
     obtain ⟨p2,v,rfl⟩:=List.mem_map.mp r
     exact ⟨p2.2,p2.1,rfl,R.keys p2 v⟩
    ·refine wp_if_neg (by decide) ?_
     try refine wpAny_bind (wpAny_pure ?_)
     exact behind
  ·have pr:t.probe (fun i=>(es[i]?.map (·.1)).getD 0) (k.hash w) (st.getD (t.probeStart (k.hash w)))=some (.empty (way t.mask (k.hash w) N) none):=by
    rw [e0,← sub N cN,← l]
    exact m
   rw [pr]
   dsimp only
   refine wpAny_pure (no fun hm=>?_)
   obtain ⟨p0,m0,k0⟩:=List.mem_map.mp hm
   obtain ⟨g,l0,K⟩:=List.getElem_of_mem m0
   have h0:L[g]?=some p0:=by rw [List.getElem?_eq_getElem l0,K]
   obtain ⟨d,d1,d2,d3⟩:=later g p0 h0 k0
   exact absurd ((F g p0 h0).trans (by rw [k0])) (fresh (d-c) g (by omega) (by rw [l,sub d d1];exact d3))
theorem look (R:ql w s.heap a L es ep t) {x:Addr} {k:NestedKey} (h:IsK s.heap k x) (j:A.units+8<cLine) {Q:SetFound→Shared→Prop} (yes:k∈L.map Prod.snd→Q (.there none) s)
  (no:∀ N,k ∉ L.map Prod.snd→way t.mask (k.hash w) N ∉ t.place.toList→(∀ c,c<N→way t.mask (k.hash w) c∈t.place.toList)→Q (.free (way t.mask (k.hash w) N) false) s) :
  wpAny (model P w) A (setSearch a (.ref x) (k.hash w) true) Q E s:=by
 have few:=R.few
 have n:=R.roomy
 obtain ⟨N,l,b,d⟩:=R.tab.first (by rw [List.length_map];omega) (k.hash w)
 have big:N<100000:=by
  have:SetTable.turns t.mask≤142:=by
   unfold SetTable.turns
   rcases R.tab.mok with e | e | e<;>omega
  omega
 unfold setSearch
 refine mj R h j l b d yes (fun hn=>no N hn b d) 100000 0 none rfl (Nat.zero_le _) (by omega) fun i p f hk=>?_
 have il:i<t.place.toList.length:=by
  have:=(List.getElem?_eq_some_iff.mp f).1
  rw [Array.length_toList,R.zS]
  exact this
 have g:=List.getElem?_eq_getElem il
 obtain ⟨c,m,e⟩:=R.tab.before b (i:=i) (by rw [List.getElem?_map,f,← hk];rfl) g
 exact ⟨c,Nat.zero_le _,m,by rw [g,e]⟩
theorem anew {o:Obj} (c:s.heap.get? a=some o) (hex:o.ExactSet) (hd:o.data=.set es ep t) (h:es.toList=L.map (xy w)) (hsz:t.place.size=L.length) (d:t.dummies=#[]) (f:L.length≤t.mask)
  (nd:(L.map Prod.snd).Nodup) (ks:∀ p∈L,IsK s.heap p.2 p.1) (pl:t.plain=true) (ld:w.params.followText "set-order" = true∨t.led=true) {wanted M:Nat} (hw:SetTable.sizeAbove wanted-1=M) (i:MaskOk M)
  (k:SetTable.sizeAbove wanted≤128) (hn:L.length*5<M*3) {Q:Unit→Shared→Prop} (l:∀ h' L' es' g t',Heap.SameBut a s.heap h'→ql w h' a L' es' g t'→L'.Perm L→Q () { s with heap:=h' }) :
  wpAny (model P w) A (setRelay a wanted) Q E s:=by
 have sz:es.size=L.length:=cz h
 have few:L.length≤76:=by rcases i with e | e | e<;>omega
 obtain ⟨t',order,e,j,T,em,m,n,v⟩:=relaid_ok t (hs:=es.map (·.1)) (wanted:=wanted) hw i (by rw [Array.size_map,sz];omega)
 rw [Array.size_map,sz] at j
 obtain ⟨L2,r1,b,r⟩:=uB (xy w) L es order h j
 have u:TabOk t' (hsK w L2):=by
  have:hsK w L2=_:=r
  rw [this]
  exact T
 have s2:(order.filterMap (es[·]?)).size=es.size:=by rw [cz r1,b.length_eq,sz]
 rw [setRelay_eq]
 refine wpAny_bind (wpAny_setState_of c hd (fits_of (by rw [sz];exact hsz) d (by rw [sz];exact f)) ?_)
 dsimp only
 refine wp_if_neg (by rw [sizeLine_eq];omega) ?_
 try refine wpAny_bind (wpAny_pure ?_)
 rw [e]
 dsimp only
 refine wpAny_bind (wp_if_neg (by rw [s2];simp) ?_)
 try refine wpAny_bind (wpAny_pure ?_)
 refine wpAny_pure ?_
 dsimp only
 have sb:Heap.SameBut a s.heap (s.heap.update a (Obj.putSet (order.filterMap (es[·]?)) t')):=Heap.SameBut.update ..
 refine wpAny_storeSet_of c hd (l _ L2 (order.filterMap (es[·]?)) (ep+1) t' sb ?_ b) (by rw [s2,sz,sizeLine_eq];omega)
 exact { obj:=⟨_,store_at c hd,⟨hex.1,hex.2.1,hex.2.2⟩,rfl⟩,rows:=r1,tab:=u,nodup:=(b.map Prod.snd).nodup_iff.mpr nd,keys:=fun p q=>(ks p (b.mem_iff.mp q)).other c hd sb,pln:=n.trans pl,ledg:=by rw [m];exact ld,roomy:=by rw [b.length_eq,em];exact hn }
theorem C4 (R:ql w s.heap a L es ep t) {x:Addr} {k:NestedKey} (f:IsK s.heap k x) (Z:A.units+8<cLine) (room:L.length+1≤76) {Q:Bool→Shared→Prop}
  (C:∀ b h' L' es' F t',Heap.SameBut a s.heap h'→ql w h' a L' es' F t'→(k∈L.map Prod.snd→L'=L)→(k ∉ L.map Prod.snd→L'.Perm ((x,k)::L))→Q b { s with heap:=h' }) :
  wpAny (model P w) A (setAddHashed a (.ref x) (k.hash w)) Q E s:=by
 obtain ⟨o,j,hex,hd⟩:=R.obj
 have sz:=cz R.rows
 have rm:=R.roomy
 unfold setAddHashed
 refine wpAny_holding ?_
 rw [show (100000:Nat)=99999+1 from rfl,setAddHashedIn_succ]
 refine wpAny_bind (wpAny_setState_of j hd R.fits ?_)
 dsimp only
 refine wp_if_neg (by simp [byScan,Value.scannable]) ?_
 try refine wpAny_bind (wpAny_pure ?_)
 refine wpAny_bind (look R f Z (fun hm=>wpAny_pure (C false s.heap L es ep t (Heap.SameBut.refl a s.heap) R (fun _=>rfl) fun z=>absurd hm z)) fun N hm hK hb=>?_)
 dsimp only
 refine wpAny_bind (wpAny_setState_of j hd R.fits ?_)
 dsimp only
 obtain ⟨G,X,u,v,H,Y,_,_,l⟩:=R.tab.put hK hb
 rw [List.length_map] at X l
 have c:(t.put (way t.mask (k.hash w) N)).1.plain=true:=Y.trans R.pln
 generalize t.put (way t.mask (k.hash w) N)=pt at G u v H Y l c ⊢
 obtain ⟨t1,p⟩:=pt
 dsimp only at G u v H l c ⊢
 subst G
 first
  | refine wpAny_bind (wp_if_pos c (iI _ _ 8 _ f.1 f.2.1 f.2.2 _ _ _ ?_))
  | refine wp_if_pos c (wpAny_bind (iI _ _ 8 _ f.1 f.2.1 f.2.2 _ _ _ ?_))
 simp only [if_true]
 generalize SetTable.below t.place (way t.mask (k.hash w) N)=p at X u ⊢
 have pm:=put_perm L p (x,k)
 have r1:(SetTable.insertAt es p (k.hash w,Value.ref x)).toList=(L.take p++(x,k)::L.drop p).map (xy w):=by
  rw [SetTable.toList_insertAt,R.rows,List.map_append,List.map_cons,List.map_take,List.map_drop]
 have y:TabOk t1 (hsK w (L.take p++(x,k)::L.drop p)):=by
  have:hsK w (L.take p++(x,k)::L.drop p)=(hsK w L).take p++k.hash w::(hsK w L).drop p:=by
   unfold hsK
   rw [List.map_append,List.map_cons,List.map_take,List.map_drop]
  rw [this]
  exact u
 generalize L.take p++(x,k)::L.drop p=m at pm r1 y
 have len:m.length=L.length+1:=pm.length_eq
 have n:(m.map Prod.snd).Nodup:=(pm.map Prod.snd).nodup_iff.mpr (List.nodup_cons.mpr ⟨hm,R.nodup⟩)
 generalize SetTable.insertAt es p (k.hash w,Value.ref x)=d at r1 ⊢
 have I:d.size=L.length+1:=(cz r1).trans len
 refine wpAny_bind (wpAny_storeSet_of j hd ?_ (by rw [I,sizeLine_eq];omega))
 have sb:Heap.SameBut a s.heap (s.heap.update a (Obj.putSet d t1)):=Heap.SameBut.update ..
 have g:=store_at (es':=d) (t':=t1) j hd
 generalize s.heap.update a (Obj.putSet d t1)=B at sb g ⊢
 have q:∀ p∈m,IsK B p.2 p.1:=fun p J=>by
  rcases List.mem_cons.mp (pm.mem_iff.mp J) with rfl | J
  ·exact f.other j hd sb
  ·exact (R.keys p J).other j hd sb
 have r:w.params.followText "set-order" = true∨t1.led=true:=by rw [H];exact R.ledg
 by_cases hf:t1.tooFull=true
 ·first
   | refine wpAny_bind (wp_if_pos (by simp [hf]) ?_)
   | refine wp_if_pos (by simp [hf]) (wpAny_bind ?_)
  have full:(L.length+1)*5 ≥ t.mask*3:=by
   have h:=hf
   unfold SetTable.tooFull at h
   rw [decide_eq_true_eq,l,v] at h
   exact h
  rw [sz]
  have two:(t.mask=7∧L.length=4)∨(t.mask=31∧L.length=18):=by
   rcases R.tab.mok with e | e | e
   ·exact .inl ⟨e,by omega⟩
   ·exact .inr ⟨e,by omega⟩
   ·exfalso;omega
  have go:∀ M,SetTable.sizeAbove (SetTable.grown (L.length+1))-1=M→MaskOk M→SetTable.sizeAbove (SetTable.grown (L.length+1))≤128→(L.length+1)*5<M*3 →
    wpAny (model P w) A (setRelay a (SetTable.grown (L.length+1))) (fun _ s'=>wpAny (model P w) A (pure true) Q E s') E { s with heap:=B }:=fun M m1 m2 m3 m4 =>
   anew (s:={ s with heap:=B }) g ⟨hex.1,hex.2.1,hex.2.2⟩ rfl r1 (by have h:=y.sz;rwa [List.length_map] at h) y.dm (by rw [len,v];rcases two with ⟨e,i⟩ | ⟨e,i⟩<;>omega) n q c r m1 m2 m3 (by rw [len];exact m4)
    fun h2 L2 es2 K t2 O R2 V=>wpAny_pure (C true h2 L2 es2 K t2 (sb.trans O) R2 (fun z=>absurd z hm) fun _=>V.trans pm)
  rcases two with ⟨_,i⟩ | ⟨_,i⟩
  ·exact go 31 (by rw [i,size_20]) (.inr (.inl rfl)) (by rw [i,size_20];decide) (by omega)
  ·exact go 127 (by rw [i,size_76]) (.inr (.inr rfl)) (by rw [i,size_76];decide) (by omega)
 ·first
   | refine wp_if_neg (by simp [hf]) ?_
   | refine wpAny_bind (wp_if_neg (by simp [hf]) (wpAny_pure ?_))
  have free:m.length*5<t1.mask*3:=by
   have h:=hf
   unfold SetTable.tooFull at h
   rw [decide_eq_true_eq,l] at h
   rw [len]
   omega
  exact wpAny_pure (C true B m d (ep+1) t1 sb { obj:=⟨_,g,⟨hex.1,hex.2.1,hex.2.2⟩,rfl⟩,rows:=r1,tab:=y,nodup:=n,keys:=q,pln:=c,ledg:=r,roomy:=free } (fun z=>absurd z hm) fun _=>pm)
end
end Ev.Sn
namespace Ev.Sn
open PySem PySem.Spec PyProof.Rows L2
section
variable {K:Type} [DecidableEq K]
theorem uR {l:List K} {k:K} (h:k∈l):oneMore l k=l:=by
 unfold oneMore
 rw [if_pos (List.any_eq_true.mpr ⟨k,h,decide_eq_true rfl⟩)]
theorem ng {l:List K} {k:K} (h:k ∉ l):oneMore l k=l++[k]:=by
 unfold oneMore
 rw [if_neg]
 intro c
 obtain ⟨y,a,e⟩:=List.any_eq_true.mp c
 exact h (of_decide_eq_true e▸a)
theorem AS {d:Type} [DecidableEq d] {f:K→d} (hf:∀ a b,f a=f b→a=b) (l:List K):bF (l.map f)=(bF l).map f:=by
 unfold bF
 have:∀ (l acc:List K),(l.map f).foldl oneMore (acc.map f)=(l.foldl oneMore acc).map f:=fun l=>by
  induction l with
  | nil=>exact fun _=>rfl
  | cons k l ih =>
   intro acc
   have e:oneMore (acc.map f) (f k)=(oneMore acc k).map f:=by
    by_cases h:k∈acc
    ·rw [uR h,uR (List.mem_map.mpr ⟨k,h,rfl⟩)]
    ·rw [ng h,ng (fun c=>by
      obtain ⟨y,g,e⟩:=List.mem_map.mp c
      exact h (hf _ _ e▸g)),List.map_append]
     rfl
   rw [List.map_cons,List.foldl_cons,List.foldl_cons,e,ih]
 exact this l []
end
section
variable {P:Program} {w:World} {A:Around} {E:Value→Shared→Prop} {s:Shared}
structure Laid (w:World) (h0 h:Heap) (S:Addr) (ks:List (Addr × NestedKey)) (i:Nat) (L:List (Addr × NestedKey)) (es:Array (Int × Value)) (ep:Nat) (t:SetTable):Prop where
 set:ql w h S L es ep t
 pm:(L.map Prod.snd).Perm (bF ((ks.take i).map Prod.snd))
 old:∀ p∈L,IsK h0 p.2 p.1
theorem Laid.size {h0 h:Heap} {S:Addr} {ks:List (Addr × NestedKey)} {i:Nat} {L:List (Addr × NestedKey)} {es:Array (Int × Value)} {ep:Nat} {t:SetTable} (R:Laid w h0 h S ks i L es ep t):L.length=(bF ((ks.take i).map Prod.snd)).length:=by
 have:=R.pm.length_eq
 rwa [List.length_map] at this
theorem Laid.move {h0 h h':Heap} {S:Addr} {ks:List (Addr × NestedKey)} {i:Nat} {L:List (Addr × NestedKey)} {es:Array (Int × Value)} {ep:Nat} {t:SetTable} (R:Laid w h0 h S ks i L es ep t) (a:∀ o,h.get? S=some o→h'.get? S=some o) (hk:∀ b o,h0.get? b=some o→h'.get? b=some o):Laid w h0 h' S ks i L es ep t:=by
 obtain ⟨o,c,r⟩:=R.set.obj
 exact ⟨{ R.set with obj:=⟨o,a o c,r⟩,keys:=fun p d=>(R.old p d).keep hk },R.pm,R.old⟩
theorem Jb:w.params.followText "set-order" = true∨(SetTable.fresh 0 0 (!w.params.followText "set-order")).led=true:=by
 show _∨(!w.params.followText "set-order")=true
 cases w.params.followText "set-order" <;> simp
theorem blank {h0 h:Heap} {S:Addr} {ks:List (Addr × NestedKey)} (a:h.get? S=some { cls:=.type "set",dict:=none,data:=.set #[] 0 (.fresh 0 0 (!w.params.followText "set-order")) }):Laid w h0 h S ks 0 [] #[] 0 (.fresh 0 0 (!w.params.followText "set-order")) where
 set:={ obj:=⟨_,a,⟨rfl,rfl,rfl⟩,rfl⟩,rows:=rfl,tab:=⟨List.Pairwise.nil,rfl,rfl,.inl rfl,fun x b=>(by cases b),fun i h j hi=>(by simp at hi)⟩,nodup:=List.nodup_nil,keys:=(fun _ z=>nomatch z),pln:=rfl,ledg:=Jb,roomy:=(show 0*5<7*3 by omega) }
 pm:=.refl _
 old:=fun _ z=>nomatch z
theorem tL {I:Addr} {fp wr:List Addr} {G:Array GenState→Array GenState→Prop} {n:Nat} {Pv:Nat→Value→Prop} {St:Nat→Shared→Prop} {R:Result→Shared→Prop} (m:WalksS P w A.in1 I fp wr G n Pv St) (S:Addr) (r:S ∉ fp)
  (ks:List (Addr × NestedKey)) (hn:n=ks.length) (few:ks.length≤76) (u:∀ i v,Pv i v→∃ p,ks[i]?=some p∧v=.ref p.1) (h0:Heap) (hk:∀ p∈ks,IsK h0 p.2 p.1) (hS0:h0.get? S=none) (J:∀ b∈wr,h0.get? b=none) (X:A.in1.units+8<cLine) :
  ∀ (d i:Nat) (s:Shared),n-i=d→i≤n→St i s→(∀ b o,h0.get? b=some o→s.heap.get? b=some o)→(∃ L es ep t,Laid w h0 s.heap S ks i L es ep t) →
   (∀ a L es ep t,Moved (S::wr) G s a→Laid w h0 a.heap S ks n L es ep t→(∀ b o,h0.get? b=some o→a.heap.get? b=some o)→R (.ok (.ret .none)) a)→codeAny (model P w) A (.builtin "set.update.loop" ⟨[.ref S,.ref I],[]⟩) R s:=by
 have f:S ∉ wr:=fun h=>r (m.sub _ h)
 have more:∀ b∈wr,b∈S::wr:=fun b g=>List.mem_cons_of_mem _ g
 have on:∀ {s a:Shared},Moved wr G s a→(∀ b o,h0.get? b=some o→s.heap.get? b=some o)→∀ b o,h0.get? b=some o→a.heap.get? b=some o:=fun hm up b o e=>hm.heap b o (fun g=>nomatch (J b g).symm.trans e) (up b o e)
 intro d
 induction d with
 | zero =>
  intro i s hd hi st up ⟨L,es,ep,t,lay⟩ done
  obtain rfl:i=n:=by omega
  refine codeAny_builtin F.entry_set_update_loop ?_
  rw [Around.under_plainId F.plain_set_update_loop _]
  show wpAny _ A.in1 (pyNext (.ref I) >>= _) _ _ s
  refine wpAny_bind (m.done s _ _ st fun a hm=>?_)
  show wpAny _ A.in1 (ret Value.none) _ _ a
  exact wpAny_pure (done a L es ep t (hm.mono more) (lay.move (fun o e=>hm.heap S o f e) (on hm up)) (on hm up))
 | succ d ih =>
  intro i s hd hi st up ⟨L,es,ep,t,lay⟩ done
  have lt:i<n:=by omega
  refine codeAny_builtin F.entry_set_update_loop ?_
  rw [Around.under_plainId F.plain_set_update_loop _]
  show wpAny _ A.in1 (pyNext (.ref I) >>= _) _ _ s
  refine wpAny_bind (m.item i s _ _ lt st fun v a hP K hm=>?_)
  obtain ⟨p,Y,rfl⟩:=u i v hP
  have j:=on hm up
  have x:=lay.move (fun o e=>hm.heap S o f e) j
  have Z:=hk p (List.mem_of_getElem? Y)
  have l:IsK a.heap p.2 p.1:=Z.keep j
  have tk:(ks.take (i+1)).map Prod.snd=(ks.take i).map Prod.snd++[p.2]:=by
   rw [List.take_add_one,Y,List.map_append]
   rfl
  have y:L.length+1≤76:=by
   have h1:=lay.size
   have h2:=dg ((ks.take i).map Prod.snd)
   rw [List.length_map,List.length_take] at h2
   omega
  show wpAny _ A.in1 (holding [Value.ref p.1] (setAdd S (.ref p.1)) >>= _) _ _ a
  refine wpAny_bind (wpAny_holding ?_)
  unfold setAdd
  refine wpAny_holding (wpAny_bind ((nestedKind P w).pyHash (k:=p.2) X ⟨l.1,l.2.1⟩ ?_))
  refine C4 (s:={ a with toks:=a.toks+p.2.draws }) x.set l X y fun b h' L' es' M t' sb R2 c1 c2=>?_
  have N:(L'.map Prod.snd).Perm (bF ((ks.take (i+1)).map Prod.snd)):=by
   rw [tk,dC]
   by_cases c:p.2∈L.map Prod.snd
   ·rw [c1 c,uR (lay.pm.mem_iff.mp c)]
    exact lay.pm
   ·rw [ng fun z=>c (lay.pm.mem_iff.mpr z)]
    exact ((c2 c).map Prod.snd).trans ((lay.pm.cons p.2).trans (List.perm_append_singleton p.2 _).symm)
  have B:∀ q∈L',IsK h0 q.2 q.1:=fun q C=>by
   by_cases c:p.2∈L.map Prod.snd
   ·rw [c1 c] at C
    exact lay.old q C
   ·rcases List.mem_cons.mp ((c2 c).mem_iff.mp C) with rfl | C
    ·exact Z
    ·exact lay.old q C
  have O:∀ b o,h0.get? b=some o→h'.get? b=some o:=fun b o e=>(sb.2 b (fun z=>by rw [z,hS0] at e;cases e)).trans (j b o e)
  refine wpAny_pure ⟨plainId_quiet F.plain_set_update_loop _,ih (i+1) _ (by omega) lt (m.frame _ a _ _ K (Nat.le_add_right _ _) fun b g o e=>?_) O ⟨L',es',M,t',R2,N,B⟩ fun s2 L2 es2 Q t2 m2 H V=>?_⟩
  ·rw [sb.2 b fun z:b=S=>r (z▸g)]
   exact e
  ·refine done s2 L2 es2 Q t2 (Moved.trans m.gtrans ((hm.mono more).then_heap (Nat.le_add_right _ _) fun b o g e=>?_) m2) H V
   rw [sb.2 b fun z:b=S=>g (z▸List.mem_cons_self)]
   exact e
abbrev cJ (w:World):Obj:={ cls:=.type "set",dict:=none,data:=.set #[] 0 (.fresh 0 0 (!w.params.followText "set-order")) }
theorem ur {l:Addr} {items:Array Value} (ks:List (Addr × NestedKey)) {Q:Value→Shared→Prop} (hh:A.handled=none) (hl:s.heap.IsList l items) (hit:items.toList=ks.map fun p=>Value.ref p.1)
  (hk:∀ p∈ks,IsK s.heap p.2 p.1) (few:ks.length≤76) (hu:A.units+11<cLine)
  (h:∀ (h':Heap) (tk:Nat) L es ep t,Laid w s.heap h' s.heap.objs.size ks ks.length L es ep t→(∀ b o,s.heap.get? b=some o→h'.get? b=some o)→Q (.ref s.heap.objs.size) { s with heap:=h',toks:=tk }) :
  wpAny (model P w) A (call (.type "set") [.ref l]) Q E s:=by
 have f:items.size=ks.length:=by rw [← Array.length_toList,hit,List.length_map]
 have out:∀ b,s.heap.objs.size≤b→s.heap.get? b=none:=fun b z=>by
  cases q:s.heap.get? b with
  | none=>rfl
  | some o=>exact absurd (Heap.lt_size q) (Nat.not_lt.mpr z)
 obtain ⟨c,tl,M⟩:=F.called_set.mro
 have B:=F.called_set.made
 have N:=F.called_set.sub
 refine wpAny_call (codeAny_of_tree ?_)
 show wpAny _ _ (callAny (.type "set") _) _ _ _
 refine wpAny_pure ⟨Code.quiet_builtin _ (by decide +kernel),codeAny_builtin F.entry_type_call ?_⟩
 rw [Around.under_plain (weight_type_call_type "set" [.ref l] []) rfl]
 have h1:=F.called_set.notType
 have h2:=F.called_set.canCreate
 have aa:=F.typeCall_set_1 (.ref l)
 repeat (any_goals (first | assumption | wp_step))
 refine codeAny_mono (code_set_led1 (.ref l) (E:=E) (Q₁:=fun obj O=>obj=.ref s.heap.objs.size∧O={ s with heap:=s.heap.push (cJ w) }) ⟨rfl,rfl⟩) fun r O C=>?_
 cases r with
 | error e=>exact C
 | ok fl =>
  cases fl with
  | ret obj =>
   obtain ⟨rfl,rfl⟩:=C
   have V:(s.heap.push (cJ w)).get? s.heap.objs.size=some (cJ w):=Heap.get?_push_size _ rfl
   have hT:Shared.TypeIs { s with heap:=s.heap.push (cJ w) } (.ref s.heap.objs.size) "set" := ⟨_,V,rfl⟩
   have ab:=F.called_set.init.lookup
   have ac:=F.called_set.init.bind (.ref s.heap.objs.size)
   repeat (any_goals (first | assumption | wp_step))
   refine codeAny_mono (codeAny_call_builtin (R:=wants (fun r s₂=>r=.none∧∃ h' tk L es ep t,s₂={ s with heap:=h',toks:=tk }∧Laid w s.heap h' s.heap.objs.size ks ks.length L es ep t ∧
     (∀ b o,s.heap.get? b=some o→h'.get? b=some o)) E) F.called_set.init.plain F.entry_set_init (check_set_init_1 hT ?_)) fun r₂ s₂ hr₂=>?_
   ·obtain ⟨ol,g,j,nl,k⟩:=hl
    obtain ⟨X,d,G,a⟩:=ol
    simp only at j k
    subst j;subst k
    have m:(s.heap.push (cJ w)).get? l=some { cls:=.type "list",dict:=d,data:=.seq items nl,slots:=a }:=Heap.get?_push_of_some _ g
    have Y:=F.sub_list_set
    have Z:=F.sub_list_frozenset
    have ad:(Value.type "list" == Value.type "dict")=false:=by decide
    have n:(s.heap.push (cJ w)).IsList l items:=⟨_,m,rfl,nl,rfl⟩
    unfold Builtin.«set.__init__» noKeywords Builtin.Frozenset.updateFrom
    generalize hPI:pyIter=PI
    wp_walk
    subst hPI
    refine wpAny_pyIter_list n ?_
    refine wpAny_bind (wpAny_runValue ?_)
    have u:l<s.heap.objs.size:=Heap.lt_size g
    have H:A.in1.in1.in1.handled=none:=by simp [hh]
    have x:l≠(s.heap.push (cJ w)).objs.size:=by
     rw [Heap.size_push];exact Nat.ne_of_lt (Nat.lt_succ_of_lt u)
    have I:s.heap.objs.size ∉ [(s.heap.push (cJ w)).objs.size,l]:=by
     rw [Heap.size_push];simp only [List.mem_cons,List.mem_singleton,List.not_mem_nil,or_false,not_or]
     exact ⟨Nat.ne_of_lt (Nat.lt_succ_self _),Nat.ne_of_gt u⟩
    have y:∀ (i:Nat) (v:Value),items[i]?=some v→∃ p,ks[i]?=some p∧v=.ref p.1:=fun i v hv=>by
     have q:items.toList[i]?=some v:=by rw [Array.getElem?_toList];exact hv
     rw [hit,List.getElem?_map] at q
     obtain ⟨p,hp,e⟩:=Option.map_eq_some_iff.mp q
     exact ⟨p,hp,e.symm⟩
    refine tL ((Walks.list H _ l x items).toS) s.heap.objs.size
     I ks f few y s.heap hk (out _ (Nat.le_refl _)) (fun b z=>out b (by
      rw [List.mem_singleton.mp z,Heap.size_push]
      exact Nat.le_succ _)) (by show A.units+3+8<cLine;omega) (items.size-0) 0 _ (by omega) (Nat.zero_le _)
     ⟨⟨_,Heap.get?_push_size _ rfl,rfl,rfl⟩,(n.push _)⟩ (fun b o e=>Heap.get?_push_of_some _ (Heap.get?_push_of_some _ e)) ?hS0 ?hR
    case hS0=>exact ⟨[],#[],0,_,blank (Heap.get?_push_of_some _ V)⟩
    case hR =>
     intro s' L es ep t hm lay up
     obtain ⟨h',g2,d',J,K⟩:=s'
     have eg:g2=s.gens:=hm.gens
     have ed:d'=s.drawn:=hm.drawn
     have eo:K=s.os:=hm.os
     subst eg;subst ed;subst eo
     show wpAny _ _ _ _ _ _
     refine wpAny_pure ?_
     show wpAny _ _ (ret Value.none) _ _ _
     rw [f] at lay
     exact wpAny_pure ⟨rfl,h',J,L,es,ep,t,rfl,lay,up⟩
   ·cases r₂ with
    | error e=>exact hr₂
    | ok fl₂ =>
     cases fl₂ with
     | ret r =>
      obtain ⟨rfl,h',tk,L,es,ep,t,rfl,lay,up⟩:=hr₂
      repeat (any_goals (first | assumption | wp_step))
      exact h _ _ _ _ _ _ lay up
     | _=>exact hr₂.elim
  | _=>exact C.elim
end
def zi (r:List Int):NestedKey:=.tup (r.map .num)
def vq (z:List (List Int)):NestedKey:=.tup (z.map zi)
theorem gN:∀ {a b:List Int},a.map NestedKey.num=b.map NestedKey.num→a=b
 | [],[],_=>rfl
 | [],_::_,e=>nomatch e
 | _::_,[],e=>nomatch e
 | x::a,y::b,e=>by
  simp only [List.map_cons,List.cons.injEq,NestedKey.num.injEq] at e
  rw [e.1,gN e.2]
theorem xm (a b:List Int) (e:zi a=zi b):a=b:=by
 unfold zi at e
 rw [NestedKey.tup.injEq] at e
 exact gN e
theorem vY:∀ (a b:List (List Int)),vq a=vq b→a=b:=fun a b e=>by
 unfold vq at e
 rw [NestedKey.tup.injEq] at e
 induction a generalizing b with
 | nil =>
  cases b with
  | nil=>rfl
  | cons _ _=>cases e
 | cons x a ih =>
  cases b with
  | nil=>cases e
  | cons y b =>
   rw [List.map_cons,List.map_cons,List.cons.injEq] at e
   rw [xm _ _ e.1,ih b e.2]
theorem jv:∀ r:List Int,NestedKey.depthAll (r.map .num)≤1
 | []=>by simp [NestedKey.depthAll]
 | x::r=>by
  have:=jv r
  simp only [List.map_cons,NestedKey.depthAll,NestedKey.depth]
  omega
theorem ju:∀ z:List (List Int),NestedKey.depthAll (z.map zi)≤2
 | []=>by simp [NestedKey.depthAll]
 | r::z=>by
  have a:=ju z
  have b:=jv r
  simp only [List.map_cons,NestedKey.depthAll,zi,NestedKey.depth]
  omega
theorem Ci (z:List (List Int)):yd (vq z):=.tup fun k hk=>by
 obtain ⟨r,_,rfl⟩:=List.mem_map.mp hk
 exact .tup fun j a=>by
  obtain ⟨i,_,rfl⟩:=List.mem_map.mp a
  exact .num i
def dY (K:Frag) (H:Hp) (b:Addr) (z:List (List Int)):Prop:=∃ rs:List (Addr × List Int),SqT K H b (rs.map fun p=>V.ref p.1)∧rs.map Prod.snd=z∧∀ p∈rs,SqT K H p.1 (p.2.map V.int)
section
variable {X:Cx} {pins:List (Addr × Obj)} {σ:L2.St} {H:Hp} {s:Shared}
theorem oU {h:Heap}:∀ {r:List Int} {us:List Value},Vals (r.map V.int) us→NestedAll h (r.map .num) us
 | [],_,.nil=>.nil
 | x::r,_,.cons e t=>by
  obtain ⟨tk,rfl⟩:=e
  exact .cons (.int x tk) (oU t)
theorem pZ (I:Inv X pins σ H s):∀ {rs:List (Addr × List Int)} {us:List Value},(∀ p∈rs,SqT X.K H p.1 (p.2.map V.int))→Vals (rs.map fun p=>V.ref p.1) us→NestedAll s.heap ((rs.map Prod.snd).map zi) us
 | [],_,_,.nil=>.nil
 | p::rs,_,q,.cons e t=>by
  cases e
  obtain ⟨its,r,⟨o,a,b,n,hd⟩,_⟩:=I.tuple (q p List.mem_cons_self)
  exact .cons (.tup a b hd (by simpa using oU r)) (pZ I (fun x c=>q x (List.mem_cons_of_mem _ c)) t)
theorem dY.raw (I:Inv X pins σ H s) {b:Addr} {z:List (List Int)} (h:dY X.K H b z):IsK s.heap (vq z) b:=by
 obtain ⟨rs,a,rfl,c⟩:=h
 obtain ⟨its,r,⟨o,d,e,n,hd⟩,_⟩:=I.tuple a
 have:=ju (rs.map Prod.snd)
 exact ⟨.tup d e hd (by simpa using pZ I c r),by simp only [vq,NestedKey.depth];omega,Ci _⟩
def vR (K:Frag) (ta:TE):TE:=fun σ H Q=>ta σ H fun x H1=>∃ (l:Addr) (zs:List (Addr × List (List Int))),x=V.ref l∧SqL K H1 l (zs.map fun p=>V.ref p.1)∧(∀ p∈zs,dY K H1 p.1 p.2)∧zs.length≤76∧Q (.int (bF (zs.map Prod.snd)).length) H1
theorem ph:∀ {zs:List (Addr × List (List Int))} {us:List Value},Vals (zs.map fun p=>V.ref p.1) us→us=zs.map fun p=>Value.ref p.1
 | [],_,.nil=>rfl
 | p::zs,_,.cons e t=>by
  cases e
  rw [ph t]
  rfl
theorem qD {a:Expr} {ta:TE} {p p2 q pos:Pos} (m:X.calm=true) (J:X.A.units+64<cLine) (hg:Gl X "len") (hm:X.mg "len" = none) (f:Gl X "set") (g:X.mg "set" = none) (ha:PE X a ta)
  (na:starEach [a] X.env=(false,eval a X.env)::starEach [] X.env:=by rfl):PE X (.Call (.Name "len" p) [.Call (.Name "set" p2) [a] [] q] [] pos) (vR X.K ta):=by
 refine ⟨fun pins s σ H Q I h=>?_⟩
 refine Call_ (ld_blt I hg hm PySem.boot_len ?_)
 refine PyProof.Rows.callWith_builtin1 (PyProof.Rows.args_cons ?_ rfl) rfl rfl
 refine Call_ (ld_blt I f g PyProof.Rows.boot_set ?_)
 refine PyProof.Rows.callWith_type1 (PyProof.Rows.args_cons (thn (ha.run pins s σ H _ I h) fun v s1 ⟨x,H1,d,r1,i⟩=>PyProof.Rows.args_nil ?_) na) na rfl
 obtain ⟨l,zs,rfl,n,u,few,i⟩:=i
 cases r1
 obtain ⟨its,r,pl,_⟩:=d.list n
 have c:(zs.map fun p=>(p.1,vq p.2)).length=zs.length:=List.length_map ..
 refine ur (zs.map fun p=>(p.1,vq p.2)) (d.ok.hd m) pl.isList (by rw [List.map_map];exact ph r) (fun p y=>?_) (by rw [c];exact few) (by omega) fun h' tk L es ep t lay up=>?_
 ·obtain ⟨z,j,rfl⟩:=List.mem_map.mp y
  exact (u z j).raw d
 ·refine PyProof.Rows.args_nil ?_
  obtain ⟨o,B,hex,hd⟩:=lay.set.obj
  have C:Inv X pins σ H1 { s1 with heap:=h',toks:=tk }:=d.kept fun b o e=>up b o e
  have k:es.size=(bF (zs.map Prod.snd)).length:=by
   rw [cz lay.set.rows,lay.size,List.take_of_length_le (Nat.le_refl _),List.map_map]
   have:(zs.map (Prod.snd∘fun p=>(p.1,vq p.2)))=(zs.map Prod.snd).map vq:=by rw [List.map_map];rfl
   rw [this,AS vY,List.length_map]
  have F:=dg (zs.map Prod.snd)
  rw [List.length_map] at F
  have G:=(show ql X.w ({ s1 with heap:=h',toks:=tk }:Shared).heap _ L es ep t from lay.set).fits
  exact call_len_set B hex hd G (by rw [k];omega) ⟨.int (bF (zs.map Prod.snd)).length,H1,C.tok _,⟨_,by rw [k]⟩,i⟩
end
end Ev.Sn
namespace Ev
open PySem PySem.Spec PyProof.Rows L2
section
variable {P:Program} {w:World} {A:Around} {E:Value→Shared→Prop} {s:Shared}
theorem call_set_tupI {l:Addr} {items:Array Value} (ns:List Int) {Q:Value→Shared→Prop} (hh:A.handled=none) (hl:s.heap.IsTuple l items) (hit:IntsAre items.toList ns) (hb:ns.length+1<scanBound)
  (h:∀ (h':Heap) (tk c:Nat),SetR w h' s.heap.objs.size (fun j=>decide (j∈ns)) c→c≤ns.length→(∀ b o,s.heap.get? b=some o→h'.get? b=some o)→Q (.ref s.heap.objs.size) { s with heap:=h',toks:=tk }) :
  wpAny (model P w) A (call (.type "set") [.ref l]) Q E s:=by
 have a:items.size=ns.length:=by
  have q:=IntsAre.length hit
  rw [Array.length_toList] at q
  exact q
 obtain ⟨c,tl,Z⟩:=F.called_set.mro
 have I:=F.called_set.made
 have aa:=F.called_set.sub
 refine wpAny_call (codeAny_of_tree ?_)
 show wpAny _ _ (callAny (.type "set") _) _ _ _
 refine wpAny_pure ⟨Code.quiet_builtin _ (by decide +kernel),codeAny_builtin F.entry_type_call ?_⟩
 rw [Around.under_plain (weight_type_call_type "set" [.ref l] []) rfl]
 have h1:=F.called_set.notType
 have h2:=F.called_set.canCreate
 have ae:=F.typeCall_set_1 (.ref l)
 repeat (any_goals (first | assumption | wp_step))
 refine codeAny_mono (code_set_led1 (.ref l) (E:=E) (Q₁:=fun obj s₁=>obj=.ref s.heap.objs.size∧s₁={ s with heap:=s.heap.push { cls:=.type "set",dict:=none,data:=.set #[] 0 (.fresh 0 0 (!w.params.followText "set-order")) } }) ⟨rfl,rfl⟩) fun r s₁ J=>?_
 cases r with
 | error e=>exact J
 | ok fl =>
  cases fl with
  | ret obj =>
   obtain ⟨rfl,rfl⟩:=J
   have hS:(s.heap.push { cls:=.type "set",dict:=none,data:=.set #[] 0 (.fresh 0 0 (!w.params.followText "set-order")) }).get? s.heap.objs.size=some { cls:=.type "set",dict:=none,data:=.set #[] 0 (.fresh 0 0 (!w.params.followText "set-order")) }:=Heap.get?_push_size _ rfl
   have hT:Shared.TypeIs { s with heap:=s.heap.push { cls:=.type "set",dict:=none,data:=.set #[] 0 (.fresh 0 0 (!w.params.followText "set-order")) } } (.ref s.heap.objs.size) "set" := ⟨_,hS,rfl⟩
   have af:=F.called_set.init.lookup
   have ag:=F.called_set.init.bind (.ref s.heap.objs.size)
   repeat (any_goals (first | assumption | wp_step))
   refine codeAny_mono (codeAny_call_builtin (R:=wants (fun r s₂=>r=.none∧∃ h' tk c,s₂={ s with heap:=h',toks:=tk }∧SetR w h' s.heap.objs.size (fun j=>decide (j∈ns)) c∧c≤ns.length ∧
     (∀ b o,s.heap.get? b=some o→h'.get? b=some o)) E) F.called_set.init.plain F.entry_set_init (check_set_init_1 hT ?_)) fun r₂ s₂ hr₂=>?_
   ·obtain ⟨ol,n,p,nl,u⟩:=hl
    obtain ⟨ab,g,K,d⟩:=ol
    simp only at p u
    subst p;subst u
    have x:(s.heap.push { cls:=.type "set",dict:=none,data:=.set #[] 0 (.fresh 0 0 (!w.params.followText "set-order")) }).get? l=some { cls:=.type "tuple",dict:=g,data:=.seq items nl,slots:=d }:=Heap.get?_push_of_some _ n
    have ac:=PySem.F.sub_tuple_set
    have ad:=PySem.F.sub_tuple_frozenset
    have ai:(Value.type "tuple" == Value.type "dict")=false:=by decide
    have y:(s.heap.push { cls:=.type "set",dict:=none,data:=.set #[] 0 (.fresh 0 0 (!w.params.followText "set-order")) }).IsTuple l items:=⟨_,x,rfl,nl,rfl⟩
    unfold Builtin.«set.__init__» noKeywords Builtin.Frozenset.updateFrom
    generalize hPI:pyIter=PI
    wp_walk
    subst hPI
    refine wpAny_pyIter_tuple y ?_
    refine wpAny_bind (wpAny_runValue ?_)
    have z:l<s.heap.objs.size:=Heap.lt_size n
    have L:A.in1.in1.in1.handled=none:=by simp [hh]
    have al:(s.heap.push { cls:=.type "set",dict:=none,data:=.set #[] 0 (.fresh 0 0 (!w.params.followText "set-order")) }).objs.size=s.heap.objs.size+1:=Heap.size_push ..
    have B:l≠(s.heap.push { cls:=.type "set",dict:=none,data:=.set #[] 0 (.fresh 0 0 (!w.params.followText "set-order")) }).objs.size:=by
     rw [Heap.size_push];exact Nat.ne_of_lt (Nat.lt_succ_of_lt z)
    have M:s.heap.objs.size ∉ [(s.heap.push { cls:=.type "set",dict:=none,data:=.set #[] 0 (.fresh 0 0 (!w.params.followText "set-order")) }).objs.size,l]:=by
     rw [Heap.size_push];simp only [List.mem_cons,List.mem_singleton,List.not_mem_nil,or_false,not_or]
     exact ⟨Nat.ne_of_lt (Nat.lt_succ_self _),Nat.ne_of_gt z⟩
    have C:∀ (i:Nat) (v:Value),items[i]?=some v→∃ k t,ns[i]?=some k∧v=.int k t:=fun i v hv=>by
     have hi:i<ns.length:=by rw [← a];exact (Array.getElem?_eq_some_iff.mp hv).1
     obtain ⟨t,e⟩:=PyProof.Rows.IntsAre.int_at hit i v (by rw [Array.getElem?_toList];exact hv)
     refine ⟨ns[i],t,List.getElem?_eq_getElem hi,?_⟩
     rw [e,List.getD_eq_getElem?_getD,List.getElem?_eq_getElem hi]<;>rfl
    refine set_update_ints ((Walks.tuple L _ l B items).toS) s.heap.objs.size
     M ns a hb C (items.size-0) 0 _ (by omega) (Nat.zero_le _)
     ⟨⟨_,Heap.get?_push_size _ rfl,rfl,rfl⟩,(y.push _)⟩ ?hS0 ?hR
    case hS0 =>
     have G:((s.heap.push { cls:=.type "set",dict:=none,data:=.set #[] 0 (.fresh 0 0 (!w.params.followText "set-order")) }).push { cls:=.type "tuple_iterator",data:=.fields #[.ref l,.int 0 0] }).get? s.heap.objs.size
       = some { cls:=.type "set",dict:=none,data:=.set #[] 0 (.fresh 0 0 (!w.params.followText "set-order")) }:=Heap.get?_push_of_some _ hS
     exact ⟨0,Nat.le_refl 0,setR_new_at G⟩
    case hR =>
     intro s' c' hm f m
     obtain ⟨h',g2,d',N,O⟩:=s'
     have eg:g2=s.gens:=hm.gens
     have ed:d'=s.drawn:=hm.drawn
     have eo:O=s.os:=hm.os
     subst eg;subst ed;subst eo
     show wpAny _ _ _ _ _ _
     refine wpAny_pure ?_
     show wpAny _ _ (ret Value.none) _ _ _
     rw [a] at f
     refine wpAny_pure ⟨rfl,h',N,c',rfl,m,f,fun b o e=>?_⟩
     have H:b<s.heap.objs.size:=Heap.lt_size e
     have V:b≠s.heap.objs.size:=Nat.ne_of_lt H
     have X:b≠(s.heap.push { cls:=.type "set",dict:=none,data:=.set #[] 0 (.fresh 0 0 (!w.params.followText "set-order")) }).objs.size:=by
      rw [Heap.size_push];exact Nat.ne_of_lt (Nat.lt_succ_of_lt H)
     exact hm.heap b o (by simp only [List.mem_cons,List.mem_singleton,List.not_mem_nil,or_false,not_or];exact ⟨V,X⟩) (Heap.get?_push_of_some _ (Heap.get?_push_of_some _ e))
   ·cases r₂ with
    | error e=>exact hr₂
    | ok fl₂ =>
     cases fl₂ with
     | ret r =>
      obtain ⟨rfl,h',tk,c',rfl,m,f,Y⟩:=hr₂
      repeat (any_goals (first | assumption | wp_step))
      exact h _ _ _ m f Y
     | _=>exact hr₂.elim
  | _=>exact J.elim
end
theorem sR {w:World} {h:Heap} {a:Addr} {S:Int→Bool} {n:Nat} (R:SetR w h a S n) {L:List Int} (nd:L.Nodup) (b:∀ k,S k=true ↔ k∈L):n=L.length:=by
 obtain ⟨o,es,ep,t,_,_,_,_,c,d,_,_,e,_⟩:=R
 have p:(es.toList.map keyOf).Perm L:=(List.perm_ext_iff_of_nodup c nd).mpr fun k=>by rw [← d,b]
 have:=p.length_eq
 rw [List.length_map,Array.length_toList] at this
 omega
section
variable {X:Cx}
def oY (K:Frag) (w:World):List V→Hp→VK→Prop:=fun xs H Q=>∃ (l:Addr) (ns L:List Int),xs=[V.ref l]∧SqT K H l (ns.map V.int)∧ns.length<4000∧L.Nodup∧(∀ k,k∈ns ↔ k∈L) ∧
 ∀ a,H a=none→Q (.ref a) (upd H a (SetO w a (fun j=>decide (j∈ns)) L.length))
theorem qh (b:X.calm=true):CallR X (.type "set") (oY X.K X.w):=by
 intro pins s σ H xs us Q I r h
 obtain ⟨l,ns,L,rfl,d,hf,nd,e,q⟩:=h
 rw [Vals.ref1 r]
 obtain ⟨its,f,pl,i⟩:=I.tuple d
 have hn:H s.heap.objs.size=none:=I.hok.fresh (Nat.le_refl _)
 refine call_set_tupI (P:=X.prog) (w:=X.w) ns (I.ok.hd b) pl (by simpa using f.ints) (by unfold scanBound;omega) fun h' tk c R g k=>?_
 have a:=sR R nd fun j=>by rw [decide_eq_true_iff,e]
 subst a
 exact ⟨.ref s.heap.objs.size,upd H s.heap.objs.size (SetO X.w s.heap.objs.size _ _),I.laid (t':=tk) k (Nat.le_refl _) (setO_new R),rfl,q _ hn⟩
end
end Ev
namespace Ev
open PySem PySem.Spec PyProof.Rows L2
def dA (p:Nat × Nat):Prop:=p.1<64∧p.2<64
theorem key_inj {p q:Nat × Nat} (a:dA p) (b:dA q) (h:kS p=kS q):p=q:=by
 obtain ⟨x,y⟩:=p
 obtain ⟨u,v⟩:=q
 simp only [dA,kS] at *
 have:x=u:=by omega
 have:y=v:=by omega
 subst x y
 rfl
theorem jC {p:Nat × Nat} (sp:dA p):∀ {l:List (Nat × Nat)},(∀ q∈l,dA q)→∀ {x},x∈yz p l ↔ x=p∨x∈l
 | [],_,x=>by simp [yz]
 | q::l,h,x=>by
  unfold yz
  split
  ·simp
  ·split
   ·rename_i e
    have e:=Nat.eq_of_beq_eq_true e
    have:=key_inj sp (h q (by simp)) e
    subst this
    simp
   ·simp only [List.mem_cons,jC sp (l:=l) (fun r a=>h r (by simp [a]))]
    constructor
    ·rintro (h | h | h)<;>simp [h]
    ·rintro (h | h | h)<;>simp [h]
theorem eV:∀ {l:List (Nat × Nat)},(∀ q∈l,dA q)→∀ {x},x∈iQ l ↔ x∈l
 | [],_,x=>by simp [iQ]
 | p::l,h,x=>by
  have ih:=fun {x}=>eV (l:=l) (fun r a=>h r (by simp [a])) (x:=x)
  unfold iQ
  rw [jC (h p (by simp)) (fun q b=>h q (List.mem_cons_of_mem _ (ih.mp b))),ih,List.mem_cons]
theorem uI {p:Nat × Nat} (sp:dA p):∀ {l:List (Nat × Nat)},(∀ q∈l,dA q)→l.Pairwise (fun a b=>kS a<kS b)→(yz p l).Pairwise (fun a b=>kS a<kS b)
 | [],_,_=>by simp [yz]
 | q::l,h,w=>by
  have e:=List.pairwise_cons.mp w
  unfold yz
  split
  ·rename_i lt
   have lt:=Nat.blt_eq.mp lt
   refine List.pairwise_cons.mpr ⟨fun r d=>?_,w⟩
   rcases List.mem_cons.mp d with rfl | d
   ·exact lt
   ·exact Nat.lt_trans lt (e.1 r d)
  ·rename_i nl
   split
   ·exact w
   ·rename_i ne
    refine List.pairwise_cons.mpr ⟨fun r d=>?_,uI sp (fun r d=>h r (by simp [d])) e.2⟩
    rcases (jC sp (fun r d=>h r (by simp [d]))).mp d with rfl | d
    ·have a:¬ kS r<kS q:=fun c=>nl (Nat.blt_eq.mpr c)
     have b:¬ kS r=kS q:=fun c=>ne (by rw [c];exact Nat.beq_refl _)
     omega
    ·exact e.1 r d
theorem pG:∀ {l:List (Nat × Nat)},(∀ q∈l,dA q)→(iQ l).Pairwise (fun a b=>kS a<kS b)
 | [],_=>.nil
 | p::l,h=>uI (h p (by simp)) (fun q d=>h q (List.mem_cons_of_mem _ ((eV fun r c=>h r (by simp [c])).mp d))) (pG fun r c=>h r (by simp [c]))
theorem jM {α:Type} {f:α→Int}:∀ {a b:List α},a.Pairwise (fun x y=>f x<f y)→b.Pairwise (fun x y=>f x<f y)→(∀ x,x∈a ↔ x∈b)→a=b
 | [],[],_,_,_=>rfl
 | [],y::b,_,_,h=>absurd ((h y).mpr (by simp)) (by simp)
 | x::a,[],_,_,h=>absurd ((h x).mp (by simp)) (by simp)
 | x::a,y::b,p,q,h=>by
  have d:=List.pairwise_cons.mp p
  have g:=List.pairwise_cons.mp q
  have e:x=y:=by
   rcases List.mem_cons.mp ((h x).mp (by simp)) with e | e
   ·exact e
   ·rcases List.mem_cons.mp ((h y).mpr (by simp)) with i | i
    ·exact i.symm
    ·have:=g.1 x e
     have:=d.1 y i
     omega
  subst e
  congr 1
  refine jM d.2 g.2 fun z=>⟨fun c=>?_,fun c=>?_⟩
  ·rcases List.mem_cons.mp ((h z).mp (by simp [c])) with e | e
   ·subst e;have:=d.1 z c;omega
   ·exact e
  ·rcases List.mem_cons.mp ((h z).mpr (by simp [c])) with e | e
   ·subst e;have:=g.1 z c;omega
   ·exact e
def iJ (p:Nat × Nat):List Int:=[(p.1:Int),(p.2:Int)]
theorem dQ (p:Nat × Nat):TS.code 64 (iJ p)=(kS p:Nat):=by
 unfold iJ kS
 rw [code_pair]
 omega
theorem pB:∀ {ds:List D} {ps:List (Nat × Nat)},pairsOf ds=some ps→(∀ q∈ps,dA q)∧ds=ps.map pairD
 | [],ps,e=>by cases e;exact ⟨fun q h=>(by cases h),rfl⟩
 | d::ds,ps,e=>by
  unfold pairsOf at e
  split at e
  ·rename_i h;cases h
  ·rename_i x y ds' h
   cases h
   split at e
   ·rename_i c
    rw [Bool.and_eq_true,Nat.blt_eq,Nat.blt_eq] at c
    rw [Option.map_eq_some_iff] at e
    obtain ⟨i,g,rfl⟩:=e
    obtain ⟨a,b⟩:=pB g
    refine ⟨fun q f=>?_,by rw [b];rfl⟩
    rcases List.mem_cons.mp f with rfl | f
    ·exact c
    ·exact a q f
   ·cases e
  ·cases e
theorem rG {ps:List (Nat × Nat)} {L:List (List Int)} (h:∀ q∈ps,dA q) (nd:L.Nodup) (g:L.Pairwise fun a b=>TS.code 64 a≤TS.code 64 b) (hm:∀ x,x∈L ↔ x∈ps.map iJ):L=(iQ ps).map iJ:=by
 have ci:∀ a∈L,∀ b∈L,TS.code 64 a=TS.code 64 b→a=b:=fun a ha b d e=>by
  obtain ⟨p,c,rfl⟩:=List.mem_map.mp ((hm a).mp ha)
  obtain ⟨q,i,rfl⟩:=List.mem_map.mp ((hm b).mp d)
  rw [dQ,dQ] at e
  rw [key_inj (h p c) (h q i) (by omega)]
 refine jM (f:=TS.code 64) ?_ ?_ fun x=>?_
 ·have:=g.and nd
  refine List.Pairwise.imp_of_mem ?_ this
  intro a b ha d ⟨j,k⟩
  rcases Int.lt_or_eq_of_le j with h | h
  ·exact h
  ·exact absurd (ci a ha b d h) k
 ·rw [List.pairwise_map]
  refine (pG h).imp fun {a b} hab=>?_
  rw [dQ,dQ]
  omega
 ·rw [hm,List.mem_map,List.mem_map]
  constructor
  ·rintro ⟨p,c,rfl⟩
   exact ⟨p,(eV h).mpr c,rfl⟩
  ·rintro ⟨p,c,rfl⟩
   exact ⟨p,(eV h).mp c,rfl⟩
theorem oQ:∀ ps:List (Nat × Nat),fzs (ps.map pairD)=true
 | []=>rfl
 | p::ps=>by
  simp only [List.map_cons,fzs,oQ ps]
  rfl
section
variable {K:Frag} {X:Cx} {F H:Hp}
theorem pI:∀ {ps:List (Nat × Nat)} {vs:List V},RpL K F vs (ps.map pairD)→∃ ks:List (Addr × List Int),vs=ks.map (fun p=>V.ref p.1)∧ks.map Prod.snd=ps.map iJ∧∀ p∈ks,SqT K F p.1 (p.2.map V.int)
 | [],_,h=>by cases h;exact ⟨[],rfl,rfl,fun p q=>by cases q⟩
 | p::ps,_,h=>by
  cases h with
  | cons r t =>
   obtain ⟨ks,c,d,e⟩:=pI t
   change Rp K F _ (.tup [.int p.1,.int p.2]) at r
   cases r with
   | tup q l =>
    rename_i a ws
    obtain ⟨rfl,_⟩:=l.ints (ns:=iJ p) rfl
    refine ⟨(a,iJ p)::ks,by rw [c];rfl,by rw [List.map_cons,d];rfl,fun x b=>?_⟩
    rcases List.mem_cons.mp b with rfl | b
    ·exact q
    ·exact e x b
theorem o8:∀ {L:List (Addr × List Int)} {a:List (Nat × Nat)},(∀ p∈L,SqT K F p.1 (p.2.map V.int))→L.map Prod.snd=a.map iJ→RpL K F (L.map fun p=>V.ref p.1) (a.map pairD)
 | [],[],_,_=>.nil
 | [],q::a,_,e=>by simp at e
 | p::L,[],_,e=>by simp at e
 | p::L,q::a,h,e=>by
  simp only [List.map_cons,List.cons.injEq] at e
  refine .cons ?_ (o8 (fun x b=>h x (by simp [b])) e.2)
  have:=h p (by simp)
  rw [e.1] at this
  exact .tup this (di [(q.1:Int),(q.2:Int)])
theorem New.nc {a:Addr} {o:HO} (s:Same F H) (h:H a=none):New F H F (upd H a o) No where
 sub:=fun b o' e=>by
  have q:=s b o' e
  rw [upd_ne (ne_of_none q h)]
  exact q
 lt:=fun _ q=>q.elim
 ext:=⟨fun _ _ e=>e,fun _ _ e=>.inl e,fun b o' e _=>by rw [upd_ne (ne_of_none e h)];exact e,fun b e=>by
  by_cases c:b=a
  ·rw [c];exact h
  ·rw [upd_ne c] at e;exact e,fun b e=>e.elim⟩
theorem Goes.nc {d:D} {Q:VK} {a:Addr} {o:HO} (g:Goes X F H d Q) (s:Same F H) (h:H a=none):Goes X F (upd H a o) d Q :=
 fun v b c e f nw=>g v b c e f ⟨nw.sub,nw.lt,(New.nc s h).ext.trans nw.ext⟩
end
theorem xx {ds:List D} {d:D} (e:biD .sset ds=some d):(∃ xs ns,ds=[.tup xs]∧intsOf xs=some ns∧xs.length≤3000∧(cj ns).length<64∧d=.lst true ((cj ns).map D.int))∨∃ o xs,ds=[.lst o xs]∧xs.length≤60∧((∃ ps,pairsOf xs=some ps∧d=.lst true ((iQ ps).map pairD))∨(∃ ns,intsOf xs=some ns∧d=.lst true ((cj ns).map D.int))∨∃ ss,strsOf xs=some ss∧d=.lst true ((rA (bF ss)).map D.str)):=by
 rcases ds with _ | ⟨x,_ | ⟨y,t⟩⟩
 ·simp [biD] at e
 ·cases x with
  | tup xs =>
   have e:(match intsOf xs with
    | some ns=>if Nat.ble xs.length 3000&&Nat.blt (cj ns).length 64 then some (D.lst true ((cj ns).map D.int)) else none
    | none=>none)=some d:=e
   split at e
   ·rename_i ns h
    split at e
    ·rename_i c
     cases e
     rw [Bool.and_eq_true,Nat.ble_eq,Nat.blt_eq] at c
     exact .inl ⟨xs,ns,rfl,h,c.1,c.2,rfl⟩
    ·cases e
   ·cases e
  | lst o xs =>
   right
   have e:(match pairsOf xs with
    | some ps=>if Nat.ble xs.length 60 then some (D.lst true ((iQ ps).map pairD)) else none
    | none=>match intsOf xs with
     | some ns=>if Nat.ble xs.length 60 then some (D.lst true ((cj ns).map D.int)) else none
     | none=>match strsOf xs with
      | some ss=>if Nat.ble xs.length 60 then some (D.lst true ((rA (bF ss)).map .str)) else none
      | none=>none)=some d:=e
   split at e
   ·rename_i ps h
    split at e
    ·rename_i c
     cases e
     exact ⟨o,xs,rfl,Nat.ble_eq.mp c,.inl ⟨ps,h,rfl⟩⟩
    ·cases e
   ·split at e
    ·rename_i ns h
     split at e
     ·rename_i c
      cases e
      exact ⟨o,xs,rfl,Nat.ble_eq.mp c,.inr (.inl ⟨ns,h,rfl⟩)⟩
     ·cases e
    ·split at e
     ·rename_i ss h
      split at e
      ·rename_i c
       cases e
       exact ⟨o,xs,rfl,Nat.ble_eq.mp c,.inr (.inr ⟨ss,h,rfl⟩)⟩
      ·cases e
     ·cases e
  | _=>simp [biD] at e
 ·cases x<;>simp [biD] at e
theorem kh {k:Int}:∀ {l:List Int} {x:Int},x∈yC k l ↔ x=k∨x∈l
 | [],x=>by simp [yC]
 | q::l,x=>by
  unfold yC
  split
  ·simp
  ·split
   ·rename_i h
    have h:=of_decide_eq_true h
    subst h
    simp
   ·rw [List.mem_cons,kh,List.mem_cons]
    constructor
    ·rintro (h | h | h)
     ·exact .inr (.inl h)
     ·exact .inl h
     ·exact .inr (.inr h)
    ·rintro (h | h | h)
     ·exact .inr (.inl h)
     ·exact .inl h
     ·exact .inr (.inr h)
theorem dD:∀ {l:List Int} {x:Int},x∈cj l ↔ x∈l
 | [],x=>by simp [cj]
 | k::l,x=>by
  unfold cj
  rw [kh,dD,List.mem_cons]
theorem tS {k:Int}:∀ {l:List Int},l.Pairwise (·<·)→(yC k l).Pairwise (·<·)
 | [],_=>by simp [yC]
 | q::l,h=>by
  unfold yC
  have h':=List.pairwise_cons.mp h
  split
  ·rename_i c
   have c:=of_decide_eq_true c
   refine List.pairwise_cons.mpr ⟨fun x a=>?_,h⟩
   rcases List.mem_cons.mp a with rfl | a
   ·exact c
   ·exact Int.lt_trans c (h'.1 x a)
  ·split
   ·exact h
   ·rename_i c1 c2
    have c1:¬ k<q:=by simpa using c1
    have c2:¬ k=q:=by simpa using c2
    refine List.pairwise_cons.mpr ⟨fun x a=>?_,tS h'.2⟩
    rcases kh.mp a with rfl | a
    ·omega
    ·exact h'.1 x a
theorem gA:∀ {l:List Int},(cj l).Pairwise (·<·)
 | []=>by simp [cj]
 | k::l=>tS gA
theorem i8:∀ {l:List Int},jb l=true ↔ l.Nodup
 | []=>by simp [jb]
 | k::l=>by
  unfold jb
  rw [Bool.and_eq_true,i8,List.nodup_cons]
  simp
theorem lh {K:Type} [DecidableEq K]:∀ (l acc:List K),(acc++l).Nodup→l.foldl oneMore acc=acc++l
 | [],acc,_=>by simp
 | k::l,acc,h=>by
  have e:oneMore acc k=acc++[k]:=by
   unfold oneMore
   rw [if_neg]
   intro a
   obtain ⟨y,b,e⟩:=List.any_eq_true.mp a
   have e:=of_decide_eq_true e
   subst e
   exact (List.nodup_append.mp h).2.2 y b y (by simp) rfl
  rw [List.foldl_cons,e,lh l _ (by simpa using h)]
  simp
theorem jr:∀ {xs:List D} {ns:List Int},intsOf xs=some ns→xs.length=ns.length
 | [],ns,h=>by cases h;rfl
 | x::xs,ns,h=>by
  cases x with
  | int i =>
   have h:(intsOf xs).map (i::·)=some ns:=h
   cases a:intsOf xs with
   | none=>rw [a] at h;cases h
   | some ms =>
    rw [a] at h
    cases h
    simp only [List.length_cons,jr a]
  | _=>cases h
theorem jT:∀ {xs:List D} {ns:List Str},strsOf xs=some ns→xs.length=ns.length
 | [],ns,h=>by cases h;rfl
 | x::xs,ns,h=>by
  cases x with
  | str i =>
   have h:(strsOf xs).map (i::·)=some ns:=h
   cases a:strsOf xs with
   | none=>rw [a] at h;cases h
   | some ms =>
    rw [a] at h
    cases h
    simp only [List.length_cons,jT a]
  | _=>cases h
theorem ub {d:D} {r:List Int} (e:yM d=some r):D.fz d=true:=by
 cases d with
 | tup xs=>exact (show D.fz (.tup xs)=fzs xs from by simp only [D.fz]).trans (cV e)
 | _=>cases e
theorem jd:∀ {ds:List D} {z:List (List Int)},fP ds=some z→fzs ds=true
 | [],_,_=>rfl
 | d::ds,z,e=>by
  unfold fP at e
  split at e
  ·rename_i r h
   obtain ⟨b,a,rfl⟩:=Option.map_eq_some_iff.mp e
   simp only [fzs,ub h,jd a,Bool.and_self]
  ·cases e
theorem vb {d:D} {r:List (List Int)} (e:yK d=some r):D.fz d=true:=by
 cases d with
 | tup xs=>exact (show D.fz (.tup xs)=fzs xs from by simp only [D.fz]).trans (jd e)
 | _=>cases e
theorem jt:∀ {ds:List D} {z:List (List (List Int))},dH ds=some z→fzs ds=true
 | [],_,_=>rfl
 | d::ds,z,e=>by
  unfold dH at e
  split at e
  ·rename_i r h
   obtain ⟨b,a,rfl⟩:=Option.map_eq_some_iff.mp e
   simp only [fzs,vb h,jt a,Bool.and_self]
  ·cases e
theorem Sn.dY.move {K:Frag} {F F':Hp} (s:Same F F') {b:Addr} {z:List (List Int)} (h:Sn.dY K F b z):Sn.dY K F' b z:=by
 obtain ⟨rs,a,c,d⟩:=h
 exact ⟨rs,af s a,c,fun p e=>af s (d p e)⟩
theorem jq {K:Frag} {F:Hp}:∀ {ds:List D} {z:List (List Int)} {vs:List V},RpL K F vs ds→fP ds=some z→∃ rs:List (Addr × List Int),vs=rs.map (fun p=>V.ref p.1)∧rs.map Prod.snd=z∧∀ p∈rs,SqT K F p.1 (p.2.map V.int)
 | [],z,_,h,e=>by
  cases h
  cases e
  exact ⟨[],rfl,rfl,fun p q=>by cases q⟩
 | d::ds,z,_,h,e=>by
  unfold fP at e
  split at e
  ·rename_i r c
   obtain ⟨g,f,rfl⟩:=Option.map_eq_some_iff.mp e
   cases h with
   | cons q t =>
    obtain ⟨rs,k1,k2,k3⟩:=jq t f
    cases d with
    | tup xs =>
     cases q with
     | tup q l =>
      rename_i a ws
      obtain ⟨rfl,_⟩:=l.ints (ns:=r) c
      refine ⟨(a,r)::rs,by rw [k1];rfl,by rw [List.map_cons,k2],fun x b=>?_⟩
      rcases List.mem_cons.mp b with rfl | b
      ·exact q
      ·exact k3 x b
    | _=>cases c
  ·cases e
theorem iY {K:Frag} {F:Hp}:∀ {ds:List D} {z:List (List (List Int))} {vs:List V},RpL K F vs ds→dH ds=some z→∃ ks:List (Addr × List (List Int)),vs=ks.map (fun p=>V.ref p.1)∧ks.map Prod.snd=z∧∀ p∈ks,Sn.dY K F p.1 p.2
 | [],z,_,h,e=>by
  cases h
  cases e
  exact ⟨[],rfl,rfl,fun p q=>by cases q⟩
 | d::ds,z,_,h,e=>by
  unfold dH at e
  split at e
  ·rename_i r c
   obtain ⟨i,f,rfl⟩:=Option.map_eq_some_iff.mp e
   cases h with
   | cons q t =>
    obtain ⟨ks,k1,k2,k3⟩:=iY t f
    cases d with
    | tup xs =>
     cases q with
     | tup q l =>
      rename_i a ws
      obtain ⟨rs,rfl,g,m3⟩:=jq l c
      refine ⟨(a,r)::ks,by rw [k1];rfl,by rw [List.map_cons,k2],fun x b=>?_⟩
      rcases List.mem_cons.mp b with rfl | b
      ·exact ⟨rs,q,g,m3⟩
      ·exact k3 x b
    | _=>cases c
  ·cases e
theorem wB {ds:List D} {d:D} (e:biD .lset ds=some d):∃ o xs,ds=[.lst o xs]∧((xs.length≤60∧((∃ ns,intsOf xs=some ns∧d=.int (bF ns).length)∨∃ ss,strsOf xs=some ss∧d=.int (bF ss).length))∨(xs.length≤76∧∃ zs,dH xs=some zs∧d=.int (bF zs).length)):=by
 rcases ds with _ | ⟨x,_ | ⟨y,t⟩⟩
 ·simp [biD] at e
 ·cases x with
  | lst o xs =>
   have e:(match intsOf xs with
    | some ns=>if jb ns&&Nat.ble xs.length 60 then some (D.int xs.length) else if Nat.ble xs.length 60 then some (D.int (bF ns).length) else none
    | none=>match strsOf xs with
     | some ss=>if Nat.ble xs.length 60 then some (D.int (bF ss).length) else none
     | none=>match dH xs with
      | some zs=>if Nat.ble xs.length 76 then some (D.int (bF zs).length) else none
      | none=>none)=some d:=e
   split at e
   ·rename_i ns h
    split at e
    ·rename_i c
     cases e
     rw [Bool.and_eq_true] at c
     have ln:xs.length=ns.length:=jr h
     have a:bF ns=ns:=lh ns [] (by simpa using i8.mp c.1)
     exact ⟨o,xs,rfl,.inl ⟨Nat.ble_eq.mp c.2,.inl ⟨ns,h,by rw [a,ln]⟩⟩⟩
    ·split at e
     ·rename_i c
      cases e
      exact ⟨o,xs,rfl,.inl ⟨Nat.ble_eq.mp c,.inl ⟨ns,h,rfl⟩⟩⟩
     ·cases e
   ·split at e
    ·rename_i ss h
     split at e
     ·rename_i c
      cases e
      exact ⟨o,xs,rfl,.inl ⟨Nat.ble_eq.mp c,.inr ⟨ss,h,rfl⟩⟩⟩
     ·cases e
    ·split at e
     ·rename_i zs h
      split at e
      ·rename_i c
       cases e
       exact ⟨o,xs,rfl,.inr ⟨Nat.ble_eq.mp c,zs,h,rfl⟩⟩
      ·cases e
     ·cases e
  | _=>simp [biD] at e
 ·cases x<;>simp [biD] at e
section
variable {C:Ctx} {X:Cx} {c:Cxt} {n m:Nat} {σ:L2.St} {δ δ':Dl} {F H:Hp} {W:Fp} {a:A} {Q:VK}
theorem BL (ih:SAs C n) (ok:XOk C X c) (a:c.cm=true) {es:List E} {y:Expr} {p0 p1 p2 pos:Pos} {as:List A} {ds:List D} {d:D} (gl:glB c "sorted" = true) (N:glB c "set" = true) (O:mEs m c es [y]=true) (i:noStar [y]=true) (s:SOk X.K F H σ δ W)
  (P:aN C n es δ=some (as,δ')) (R:looks δ' as=some ds) (e3:biD .sset ds=some d) (k:ah X F H W σ δ' (.tmp d) Q):tW X (.Call (.Name "sorted" p0) [.Call (.Name "set" p1) [y] [] p2] [] pos) σ H Q:=by
 rcases xx e3 with ⟨xs,ns,rfl,ep,V,hm,rfl⟩ | ⟨o,xs,rfl,V,hd⟩
 ·have go:=ih ok O s P (Q:=fun vs H1=>oY X.K X.w vs H1 fun x g=>rSortedSet X.w [x] g Q) fun vs F' H' W' Wt p h=>by
   have B:=h.looks p.ok R
   obtain ⟨x,rfl,t⟩:=B.one
   obtain ⟨l,vs,rfl,G,r⟩:=t.tup
   obtain ⟨rfl,rfl⟩:=r.ints ep
   rw [List.length_map] at V
   refine ⟨l,ns,cj ns,rfl,af p.ok.sub G,by omega,(gA (l:=ns)).imp (fun h=>by omega),fun k=>dD.symm,fun b u=>?_⟩
   have s2:Same F' (upd H' b (SetO X.w b (fun j=>decide (j∈ns)) (cj ns).length)):=(New.nc p.ok.sub u).sub
   refine ⟨b,_,_,rfl,upd_same ..,hm,fun L' pp I mem Y J=>?_⟩
   have M:L'=cj ns:=jM (f:=fun z:Int=>z) I gA fun z=>by
    rw [mem,dD,decide_eq_true_iff]
   subst M
   exact ((k.goes p).nc p.ok.sub u).list s2 J (di _)
  have inner:tW X (.Call (.Name "set" p1) [y] [] p2) σ H (fun x g=>rSortedSet X.w [x] g Q) :=
   av (pe_callTy (qh (ok.calm a)) (ok.gl N) (ok.blt _ (by decide)) (by decide +kernel) (aw i) (by decide) (by decide +kernel) (aj _ i) (aq _ _ (ak i))) go
  exact av (pe_callB (cr_sortedSet (ok.calm a)) (ok.gl gl) (ok.blt _ (by decide)) (by decide +kernel) (aw (es:=[.Call (.Name "set" p1) [y] [] p2]) rfl) (by decide) (by decide +kernel) (aj _ rfl) (aq _ _ rfl)) inner
 rcases hd with ⟨ps,ep,rfl⟩ | ⟨ns,ep,rfl⟩ | ⟨ss,ep,rfl⟩
 ·have go:=ih ok O s P (Q:=fun vs H1=>rSetOfT X.K X.prog X.w vs H1 fun x g=>rSortedT X.K X.prog X.w [x] g Q) fun vs F' H' W' Wt p h=>by
   have B:=h.looks p.ok R
   obtain ⟨x,rfl,t⟩:=B.one
   obtain ⟨l,vs,rfl,G,ln,r⟩:=t.lst p.ok.sub
   obtain ⟨sm,rfl⟩:=pB ep
   obtain ⟨ks,rfl,k2,k3⟩:=pI (r (oQ ps))
   have kl:ks.length≤60:=by
    rw [List.length_map] at ln
    omega
   refine ⟨l,ks,rfl,SqL.of G,fun q v=>af p.ok.sub (k3 q v),by omega,fun b L u sub all=>?_⟩
   have s2:Same F' (upd H' b (SetTO X.prog X.w b L)):=(New.nc p.ok.sub u).sub
   refine ⟨b,L,2,64,rfl,upd_same ..,fun q v=>af s2 (k3 q (sub q v)),by omega,fun q v=>?_,fun L' cc pm nd ln I hc=>?_⟩
   ·have:q.2∈ps.map iJ:=by rw [← k2];exact List.mem_map.mpr ⟨q,sub q v,rfl⟩
    obtain ⟨w,hw,e⟩:=List.mem_map.mp this
    rw [← e]
    refine ⟨rfl,fun z hz=>?_⟩
    have:=sm w hw
    simp only [dA] at this
    simp only [iJ,List.mem_cons,List.not_mem_nil,or_false] at hz
    omega
   ·have M:L'.map Prod.snd=(iQ ps).map iJ:=rG sm nd (List.pairwise_map.mpr I) fun x=>by
     rw [← k2]
     constructor
     ·intro t
      obtain ⟨q,v,rfl⟩:=List.mem_map.mp t
      exact List.mem_map.mpr ⟨q,sub q (pm.subset v),rfl⟩
     ·intro t
      obtain ⟨q,v,rfl⟩:=List.mem_map.mp t
      obtain ⟨q',Z,e⟩:=List.mem_map.mp (all q v)
      exact List.mem_map.mpr ⟨q',pm.symm.subset Z,e⟩
    exact ((k.goes p).nc p.ok.sub u).list s2 hc (o8 (fun q v=>k3 q (sub q (pm.subset v))) M)
  have hu:=ok.units
  have inner:tW X (.Call (.Name "set" p1) [y] [] p2) σ H (fun x g=>rSortedT X.K X.prog X.w [x] g Q) :=
   av (pe_callTy (cr_setOfT (ok.calm a) (by omega)) (ok.gl N) (ok.blt _ (by decide)) (by decide +kernel) (aw i) (by decide) (by decide +kernel) (aj _ i) (aq _ _ (ak i))) go
  exact av (pe_callB (cr_sortedT (ok.calm a)) (ok.gl gl) (ok.blt _ (by decide)) (by decide +kernel) (aw (es:=[.Call (.Name "set" p1) [y] [] p2]) rfl) (by decide) (by decide +kernel) (aj _ rfl) (aq _ _ rfl)) inner
 ·have go:=ih ok O s P (Q:=fun vs H1=>vk X.K X.w vs H1 fun x g=>rSortedSet X.w [x] g Q) fun vs F' H' W' Wt p h=>by
   have B:=h.looks p.ok R
   obtain ⟨x,rfl,t⟩:=B.one
   obtain ⟨l,vs,rfl,G,ln,r⟩:=t.lst p.ok.sub
   obtain ⟨rfl,rfl⟩:=(r (cV ep)).ints ep
   rw [List.length_map] at V
   refine ⟨l,ns,rfl,SqL.of G,by omega,fun b cc u aa=>?_⟩
   have s2:Same F' (upd H' b (SetO X.w b (fun j=>decide (j∈ns)) cc)):=(New.nc p.ok.sub u).sub
   refine ⟨b,_,cc,rfl,upd_same ..,by omega,fun L' pp I mem Y J=>?_⟩
   have M:L'=cj ns:=jM (f:=fun z:Int=>z) I gA fun z=>by
    rw [mem,dD,decide_eq_true_iff]
   subst M
   exact ((k.goes p).nc p.ok.sub u).list s2 J (di _)
  have inner:tW X (.Call (.Name "set" p1) [y] [] p2) σ H (fun x g=>rSortedSet X.w [x] g Q) :=
   av (pe_callTy (rC (ok.calm a)) (ok.gl N) (ok.blt _ (by decide)) (by decide +kernel) (aw i) (by decide) (by decide +kernel) (aj _ i) (aq _ _ (ak i))) go
  exact av (pe_callB (cr_sortedSet (ok.calm a)) (ok.gl gl) (ok.blt _ (by decide)) (by decide +kernel) (aw (es:=[.Call (.Name "set" p1) [y] [] p2]) rfl) (by decide) (by decide +kernel) (aj _ rfl) (aq _ _ rfl)) inner
 ·have go:=ih ok O s P (Q:=fun vs H1=>Sb.sX X.K X.prog X.w vs H1 fun x g=>Sb.eD X.prog X.w [x] g Q) fun vs F' H' W' Wt p h=>by
   have B:=h.looks p.ok R
   obtain ⟨x,rfl,t⟩:=B.one
   obtain ⟨l,vs,rfl,G,ln,r⟩:=t.lst p.ok.sub
   obtain rfl:=hE (r (dI ep)) ep
   have sl:xs.length=ss.length:=jT ep
   refine ⟨l,ss,rfl,SqL.of G,by omega,fun b u=>?_⟩
   have ml:=dg ss
   refine ⟨b,_,bF ss,rfl,upd_same ..,Sb.qJ ss,fun k=>?_,by omega,fun ys p' pm so J=>?_⟩
   ·rw [List.any_eq_true]
    exact ⟨fun ⟨y,hy,e⟩=>of_decide_eq_true e▸hy,fun hk=>⟨k,hk,by simp⟩⟩
   ·rw [Sb.oI pm so]
    exact ((k.goes p).nc p.ok.sub u).list (New.nc p.ok.sub u).sub J (kM _)
  have inner:tW X (.Call (.Name "set" p1) [y] [] p2) σ H (fun x g=>Sb.eD X.prog X.w [x] g Q) :=
   av (pe_callTy (Sb.uk (ok.calm a)) (ok.gl N) (ok.blt _ (by decide)) (by decide +kernel) (aw i) (by decide) (by decide +kernel) (aj _ i) (aq _ _ (ak i))) go
  exact av (pe_callB (Sb.kG (ok.calm a)) (ok.gl gl) (ok.blt _ (by decide)) (by decide +kernel) (aw (es:=[.Call (.Name "set" p1) [y] [] p2]) rfl) (by decide) (by decide +kernel) (aj _ rfl) (aq _ _ rfl)) inner
theorem Ec (ih:SAs C n) (ok:XOk C X c) (a:c.cm=true) {es:List E} {y:Expr} {p0 p1 p2 pos:Pos} {as:List A} {ds:List D} {d:D} (gl:glB c "len" = true) (i:glB c "set" = true) (j:mEs m c es [y]=true) (t:noStar [y]=true) (s:SOk X.K F H σ δ W)
  (u:aN C n es δ=some (as,δ')) (w:looks δ' as=some ds) (B:biD .lset ds=some d) (k:ah X F H W σ δ' (.tmp d) Q):tW X (.Call (.Name "len" p0) [.Call (.Name "set" p1) [y] [] p2] [] pos) σ H Q:=by
 obtain ⟨o,xs,rfl,⟨z,hd⟩ | ⟨z,zs,ep,rfl⟩⟩:=wB B
 rotate_left
 ·have go:=ih ok j s u (Q:=fun vs H1=>∃ (l:Addr) (ks:List (Addr × List (List Int))),vs=[V.ref l]∧SqL X.K H1 l (ks.map fun p=>V.ref p.1)∧(∀ p∈ks,Sn.dY X.K H1 p.1 p.2)∧ks.length≤76∧Q (.int (bF (ks.map Prod.snd)).length) H1) fun vs F' H' W' Wt p h=>by
   have f:=h.looks p.ok w
   obtain ⟨x,rfl,g⟩:=f.one
   obtain ⟨l,vs,rfl,b,ln,r⟩:=g.lst p.ok.sub
   obtain ⟨ks,rfl,k2,k3⟩:=iY (r (jt ep)) ep
   have G:ks.length≤76:=by
    rw [List.length_map] at ln
    omega
   refine ⟨l,ks,rfl,SqL.of b,fun q I=>Sn.dY.move p.ok.sub (k3 q I),G,?_⟩
   rw [k2]
   exact (k.goes p).atom p.ok.sub (.int _)
  have go2:tW X y σ H fun v H1=>∃ (l:Addr) (ks:List (Addr × List (List Int))),[v]=[V.ref l]∧SqL X.K H1 l (ks.map fun p=>V.ref p.1)∧(∀ p∈ks,Sn.dY X.K H1 p.1 p.2)∧ks.length≤76∧Q (.int (bF (ks.map Prod.snd)).length) H1:=go
  have J:=ok.units
  exact av (Sn.qD (ta:=tW X y) (ok.calm a) (by omega) (ok.gl gl) (ok.blt _ (by decide)) (ok.gl i) (ok.blt _ (by decide)) ao (aj _ t)) (ay go2 fun v H1 ⟨l,ks,e,r⟩=>⟨l,ks,by injection e,r⟩)
 have go:=ih ok j s u (Q:=fun vs H1=>∃ l,vs=[V.ref l]∧((∃ ns:List Int,SqL X.K H1 l (ns.map V.int)∧ns.length<64∧Q (.int (bF ns).length) H1)∨∃ ss:List Str,SqL X.K H1 l (ss.map V.str)∧ss.length<64∧Q (.int (bF ss).length) H1)) fun vs F' H' W' Wt p h=>by
  have f:=h.looks p.ok w
  obtain ⟨x,rfl,g⟩:=f.one
  obtain ⟨l,vs,rfl,b,ln,r⟩:=g.lst p.ok.sub
  rcases hd with ⟨ns,ep,rfl⟩ | ⟨ss,ep,rfl⟩
  ·obtain ⟨rfl,rfl⟩:=(r (cV ep)).ints ep
   rw [List.length_map] at z
   exact ⟨l,rfl,.inl ⟨ns,SqL.of b,by omega,(k.goes p).atom p.ok.sub (.int _)⟩⟩
  ·obtain rfl:=hE (r (dI ep)) ep
   have sl:xs.length=ss.length:=jT ep
   exact ⟨l,rfl,.inr ⟨ss,SqL.of b,by omega,(k.goes p).atom p.ok.sub (.int _)⟩⟩
 have go2:tW X y σ H fun v H1=>∃ l,[v]=[V.ref l]∧((∃ ns:List Int,SqL X.K H1 l (ns.map V.int)∧ns.length<64∧Q (.int (bF ns).length) H1)∨∃ ss:List Str,SqL X.K H1 l (ss.map V.str)∧ss.length<64∧Q (.int (bF ss).length) H1):=go
 exact av (qk (ta:=tW X y) (ok.calm a) (ok.gl gl) (ok.blt _ (by decide)) (ok.gl i) (ok.blt _ (by decide)) ao (aj _ t)) (ay go2 fun v H1 ⟨l,e,r⟩=>⟨l,by injection e,r⟩)
end
end Ev
namespace Ob
open PySem PySem.Spec PyProof.Rows L2 Ev
section
variable {X:Cx} {C fi fl:Addr} {k:Nat}
theorem B2 {a dx t:Addr} {ws:List V} {H:Hp} {Q:VK} (b:ItS X.K C fi fl) (c:FnR X.prog X.w X.K X.mg X.base CX0 k fl (qT X.K C)) (d:Room (k+1) X.A)
  (hs:SlX.Slt H a C dx [some (.ref t)]) (ht:SqT X.K H t ws) (e:ws.length≤sizeLine) (q:Q (.int (ws.length:Nat)) H):cW X (.builtin "len") [.ref a] H Q:=by
 intro pins s σ us I f
 obtain ⟨u,rfl,g⟩:=f.one
 cases g
 have sb:Sub X (k+1) X.A:=⟨d,rfl⟩
 have s2:=Sub.in1 sb
 exact x8 (k:=k) b c s2.room s2.fr I hs ht e fun tk i h=>⟨.int (ws.length:Nat),H,h,⟨tk,rfl⟩,q⟩
end
end Ob
namespace Ob
open PySem PySem.Spec PyProof.Rows L2 Ev
theorem pO {o:Expr} {m:Str} {c a:Pos} {xs:List Expr} {env:Env} (e:attributeBase o m env (eval o env)=eval o env) (hn:(c.endLine==a.line)=true) (ns:noStar xs=true) (l:xs.length<20):eval (.Call (.Attribute o m c) xs [] a) env=(do
   let d ← eval o env
   standAt c.atName
   let (f,first) ← holding [d] (getMethod d m (do return (← importBound o env).getD true))
   callWith a f first (backTo a (starEach xs env)) (backToKw a (keywordEach [] env))):=by
 have b:methodCallForm (xs.length+([]:List Keyword).length) (backTo a (starEach xs env)) (backToKw a (keywordEach [] env))=true:=jf env a ns l
 rw [arm_eval_Call]
 unfold methodCall calleeOf methodCallPos
 simp only [b,hn,e,if_true,Bool.not_true,Bool.or_true]
 rfl
theorem gJ {o:Expr} (h:lP o=true) (m:Str) (env:Env) (w:Sem Value):attributeBase o m env w=w:=by
 unfold lP at h
 split at h
 ·rfl
 ·rename_i f y ys kws p
  cases f<;>rfl
 iterate 4(·rfl)
 ·cases h
end Ob
namespace Ev
open PySem PySem.Spec PyProof.Rows L2
theorem bu {K:Frag} {cn:Str} {C a:Addr} (h:nsIn K mainGlobals cn=some (some (.ref C))) (h':nsIn K mainGlobals cn=some (some (.ref a))):C=a:=by
 rw [h] at h'
 cases h'
 rfl
section
variable {C:Ctx} {X:Cx} {c:Cxt} {n m:Nat} {σ:L2.St} {δ δ':Dl} {F H:Hp} {W:Fp} {a:A} {Q:VK}
theorem Gq (ih:SE C n) (ok:XOk C X c) {j:E} {cn nm:Str} {i:Nat} {x:Expr} (hm:mE (m+1) c (.fld j cn nm i) x=true) (s:SOk X.K F H σ δ W) (he:evE C (n+1) (.fld j cn nm i) δ=some (a,δ')) (k:ah X F H W σ δ' a Q):tW X x σ H Q:=by
 unfold mE at hm
 simp only at hm
 split at hm
 ·rename_i y p f pos
  simp only [Bool.and_eq_true] at hm
  obtain ⟨⟨w,e⟩,u⟩:=hm
  cases au w
  have e:=of_decide_eq_true e
  unfold evE at he
  simp only at he
  split at he
  ·rename_i x0 δ1 j
   split at he
   ·rename_i cn' xs o
    split at he
    ·rename_i b
     have b:=of_decide_eq_true b
     subst b
     split at he
     ·rename_i d q
      cases he
      obtain ⟨Ca,t,sc,z,s1⟩:=ok.sl _ _ _ e
      refine av (SlX.pe_sl ao) (ih ok u s j fun v F' H' W' Wt p h=>?_)
      obtain ⟨B,G,dx,vs,rfl,hn,hs,_,l⟩:=(h.look p.ok o).obj
      cases bu t hn
      obtain ⟨v,g,r⟩:=l.get q
      exact ⟨_,_,_,_,_,_,v,rfl,ck p.ok.sub hs,sc,s1,by simp [g],k.atom p r⟩
     ·cases he
    ·cases he
   ·rename_i cn' xs o
    split at he
    ·rename_i b
     have b:=of_decide_eq_true b
     subst b
     split at he
     ·rename_i d q
      cases he
      obtain ⟨Ca,t,sc,z,s1⟩:=ok.sl _ _ _ e
      refine av (SlX.pe_sl ao) (ih ok u s j fun v F' H' W' Wt p h=>?_)
      obtain ⟨B,G,dx,vs,rfl,hn,hs,_,l⟩:=(h.look p.ok o).mob
      cases bu t hn
      obtain ⟨v,g,r⟩:=l.get q
      exact ⟨_,_,_,_,_,_,v,rfl,hs,sc,s1,by simp [g],k.atom p r⟩
     ·cases he
    ·cases he
   ·cases he
  ·cases he
 ·rename_i I m0 p0 ys kws p f pos
  simp only [Bool.and_eq_true] at hm
  obtain ⟨⟨w,e⟩,u⟩:=hm
  cases au w
  have e:=of_decide_eq_true e
  unfold evE at he
  simp only at he
  split at he
  ·rename_i x0 δ1 j
   split at he
   ·rename_i cn' xs o
    split at he
    ·rename_i b
     have b:=of_decide_eq_true b
     subst b
     split at he
     ·rename_i d q
      cases he
      obtain ⟨Ca,t,sc,z,s1⟩:=ok.sl _ _ _ e
      refine av (SlX.pe_sl ao) (ih ok u s j fun v F' H' W' Wt p h=>?_)
      obtain ⟨B,G,dx,vs,rfl,hn,hs,_,l⟩:=(h.look p.ok o).obj
      cases bu t hn
      obtain ⟨v,g,r⟩:=l.get q
      exact ⟨_,_,_,_,_,_,v,rfl,ck p.ok.sub hs,sc,s1,by simp [g],k.atom p r⟩
     ·cases he
    ·cases he
   ·rename_i cn' xs o
    split at he
    ·rename_i b
     have b:=of_decide_eq_true b
     subst b
     split at he
     ·rename_i d q
      cases he
      obtain ⟨Ca,t,sc,z,s1⟩:=ok.sl _ _ _ e
      refine av (SlX.pe_sl ao) (ih ok u s j fun v F' H' W' Wt p h=>?_)
      obtain ⟨B,G,dx,vs,rfl,hn,hs,_,l⟩:=(h.look p.ok o).mob
      cases bu t hn
      obtain ⟨v,g,r⟩:=l.get q
      exact ⟨_,_,_,_,_,_,v,rfl,hs,sc,s1,by simp [g],k.atom p r⟩
     ·cases he
    ·cases he
   ·cases he
  ·cases he
 ·cases hm
def objOf (cn:Str):Option (D × List D)→Option (D × List D)
 | some (.lst true rs,o)=>some (.obj cn [.tup rs],o)
 | _=>none
abbrev obC (C:Ctx) (cn:Str):Ctx:={ C with call:=fun g ds=>objOf cn (C.call g ds) }
theorem mJ {cn:Str} {x:Option (D × List D)} {r:D} {o:List D} (h:objOf cn x=some (r,o)):∃ rs,x=some (.lst true rs,o)∧r=.obj cn [.tup rs]:=by
 unfold objOf at h
 split at h
 ·cases h;exact ⟨_,rfl,rfl⟩
 ·cases h
theorem hO {cn:Str} {f:Nat} {as:List A} {rs:List D} (e:br C f as δ=some (.tmp (.lst true rs),δ')):br (obC C cn) f as δ=some (.tmp (.obj cn [.tup rs]),δ'):=by
 unfold br at e ⊢
 split at e
 ·rename_i os h c
  split at e
  ·rename_i ds δ2 d
   split at e
   ·rename_i r outs g
    simp only [c,d,g]
    injection e with e
    injection e with a b
    injection a with a
    subst a
    simp only [objOf,isAtom,Bool.false_eq_true,if_false] at b ⊢
    rw [b]
   ·cases e
  ·cases e
 ·cases e
theorem sQ {cn:Str} {kc it f:Nat} {C0:Ctx} {ways:List (Str × Nat)} {Ca:Addr} {vs:List V} {H1:Hp}
  (k:∀ ds r outs,C.call f ds=some (r,outs)→∃ rule items lap rs,ds=[rule,items,lap]∧r=.lst true rs∧outs=[]∧Ob.iV C0 it ways rule items lap rs)
  (O:Ob.r8 X.prog X.w X.K X.mg X.base cn Ca kc C0 it ways) (h:lg X.K ((obC C cn).call f) [] vs H1 Q):Ob.rO X.K Ca C0 it ways (.ref Ca::vs) H1 Q E0:=by
 obtain ⟨G,W,ds,r,outs,sb,l,lv,e,cont⟩:=h
 obtain ⟨c,m,rfl⟩:=mJ e
 obtain ⟨rule,items,lap,rs,rfl,n,rfl,mok⟩:=k _ _ _ m
 cases n
 cases l with
 | @cons v1 _ _ _ _ _ _ o1 ow1 d1 u1 u1' =>
 cases ow1 with
 | @cons v2 _ _ _ _ _ _ o2 ow2 d2 u2 u2' =>
 cases ow2 with
 | @cons p _ _ _ _ _ _ q ow3 d3 u3 u3' =>
 cases ow3
 refine ⟨G,W,v1,v2,p,rule,items,lap,c,rfl,sb,.cons o1 (.cons o2 (.cons q .nil d3 u3 u3') d2 u2 u2') d1 u1 u1',lv,mok,fun F' H' W' x dx t ws ext sub ht d fz hs s g y u ne=>?_⟩
 let U:Fp:=fun b=>b=x∨b=dx
 have a:Same F' (fzH F' H' U):=bT sub
 have i:SlX.Slt (fzH F' H' U) x Ca dx [some (.ref t)]:=by
  rcases hs with ⟨_,j⟩ | ⟨v,j⟩
  ·cases j
  ·exact .inr ⟨by rw [cw (.inl rfl)];exact v,by rw [cw (.inr rfl)];exact j⟩
 refine cont (.ref x) (fzH F' H' U) H' No No (.frz (.obj (vs:=[.ref t]) O.nsC i (by simp) (.cons (.tup (af a ht) (d.mono a)) .nil))) (.skip rfl (.skip rfl (.skip rfl .nil))) (fun _ z=>z.elim) (iU sub) (fun b z=>by rcases z with z | z<;>exact z.elim) ⟨fun b o z=>a _ _ (ext.fsub _ _ z),fun b o z=>?_,ext.keep,ext.live,fun b z=>by rcases z with z | z<;>exact z.elim⟩
 rcases iq z with z | z | z
 ·exact ext.fnew b o z
 ·subst z
  exact .inr (.inr s)
 ·subst z
  exact .inr (.inr g)
theorem xR {cn:Str} {kc it f:Nat} {C0:Ctx} {ways:List (Str × Nat)} {Ca:Addr} {y:Expr} {ys:List Expr} {e c d:Pos}
  (i:∀ ds r outs,C.call f ds=some (r,outs)→∃ rule items lap rs,ds=[rule,items,lap]∧r=.lst true rs∧outs=[]∧Ob.iV C0 it ways rule items lap rs)
  (O:Ob.r8 X.prog X.w X.K X.mg X.base cn Ca kc C0 it ways) (j:Room (kc+4) X.A) (gc:Gl X cn) (hd:(cn==("__debug__" : Str))=false) (ns:noStar (y::ys)=true) (ne:(c.endLine==d.line)=true)
  (a:(y::ys).length<20)
  (go:bQ X (y::ys) σ H fun vs H1=>lg X.K ((obC C cn).call f) [] vs H1 Q):tW X (.Call (.Attribute (.Name cn e) "made" c) (y::ys) [] d) σ H Q:=by
 obtain ⟨mc,pr,g,fi,fl,fd,fdi,fdl,c1,c2,c3,F1,k,m,n,o,p,l⟩:=O.ex
 have b:=F1.raw k (.nil:Vals [] [])
 refine av (ClX.pe_cmeth (Ob.ym gc O.mgC hd) c1 c2 b (j.mono (by omega)) pass0 (aw ns) (aj _ ns) (aq _ _ (ak ns)) (Ob.Co ne ns a)) ?_
 refine ⟨rfl,ax go fun vs H1 h=>?_⟩
 show Ob.rO X.K Ca C0 it ways ((.ref Ca::vs)++[]) H1 Q E0
 rw [List.append_nil]
 exact sQ i O h
theorem DH (ih:SAs C n) (ok:XOk C X c) {cn nm:Str} {f:Nat} {es:List E} {x:Expr} (hm:mE (m+1) c (.ob .made cn nm f es) x=true) (s:SOk X.K F H σ δ W) (he:evE C (n+1) (.ob .made cn nm f es) δ=some (a,δ')) (k:ah X F H W σ δ' a Q):tW X x σ H Q:=by
 unfold mE at hm
 simp only at hm
 split at hm
 ·rename_i o L m0 M y ys N
  simp only [Bool.and_eq_true] at hm
  obtain ⟨⟨⟨⟨⟨⟨⟨⟨t,u⟩,b⟩,d⟩,e⟩,g⟩,w⟩,z⟩,hlen⟩:=hm
  cases au t
  cases au e
  unfold evE at he
  simp only at he
  split at he
  ·rename_i as δ1 B
   unfold obD at he
   simp only at he
   split at he
   ·rename_i rs δ2 l
    cases he
    obtain ⟨ds,r,outs,ec⟩:=bC l
    rcases ok.vm f _ (of_decide_eq_true u) with hn | ⟨Ca,kc,it,C0,ways,O,room,i,j⟩
    ·rw [hn] at ec
     cases ec
    ·refine xR j O room (ok.gl b) (aX d).1 z g (of_decide_eq_true hlen) (ih ok w s B fun vs F' H' W' Wt p h=>?_)
     have cc:=(cP p h (hO l) fun v G I W2 Wu q J=>k v G I W2 Wu q J).2
     rwa [show (obC C _).io f=[] from i] at cc
   ·cases he
  ·cases he
 ·cases hm
theorem jx {x:Expr} {xs:List Expr} {as:List A} {Q:List V→Hp→Prop} (h:vo X (x::xs) as σ H Q):∃ a bs,as=a::bs∧tW X x σ H fun v H1=>Gy X H1 v a∧bQ X xs σ H1 fun vs b=>Q (v::vs) b:=by
 cases as with
 | nil=>exact h.elim
 | cons a bs=>exact ⟨a,bs,rfl,ay h fun v H1 q=>⟨q.1.2,n6 q.2⟩⟩
theorem gB {cn:Str} {d:D} (h:isOf cn (some d)=true):∃ xs,d=.obj cn xs:=by
 cases d<;>simp [isOf] at h
 subst h
 exact ⟨_,rfl⟩
theorem Fz (ih:SAI C n) (ok:XOk C X c) {cn nm:Str} {f:Nat} {es:List E} {x:Expr} (hm:mE (m+1) c (.ob .mth cn nm f es) x=true) (s:SOk X.K F H σ δ W) (he:evE C (n+1) (.ob .mth cn nm f es) δ=some (a,δ')) (k:ah X F H W σ δ' a Q):tW X x σ H Q:=by
 unfold mE at hm
 simp only at hm
 split at hm
 ·rename_i g m0 ap cp
  simp only [Bool.and_eq_true] at hm
  obtain ⟨⟨⟨⟨i,j⟩,l⟩,o⟩,hg⟩:=hm
  cases au j
  unfold evE at he
  simp only at he
  split at he
  ·rename_i as δ1 t
   unfold obD at he
   simp only at he
   split at he
   ·rename_i d bs
    split at he
    ·rename_i hi
     obtain ⟨xs,rfl⟩:=gB hi
     obtain ⟨ds,r,outs,ec⟩:=bC he
     obtain ⟨Ca,gg,fd,ps,sp,M,u,sc,mt,room,b,bd,w,imp⟩:=ok.mt _ _ _ (of_decide_eq_true i) _ _ _ ec
     have Fr:=b.raw bd (.nil:Vals [] [])
     have go:=ih ok o s t (Q:=fun vs H1=>sp (vs++[]) H1 Q E0) fun vs F' H' W' Wt p h=>by
      show sp (vs++[]) H' Q E0
      rw [List.append_nil]
      exact imp _ _ _ _ (cP p h he fun v B G W2 Wu q I=>k v B G W2 Wu q I).2
     refine av (SlX.pe_methSl0 ao sc mt Fr (room.mono (by omega)) pass0 (Ob.pO (Ob.gJ hg _ _ _) l rfl (by decide))) ?_
     obtain ⟨a0,J,L,go⟩:=jx go
     cases L
     refine ay go fun v H1 z=>?_
     obtain ⟨x0,N,dx,vs,rfl,hn,hs⟩:=z.1 _ _ rfl
     cases bu u hn
     exact ⟨_,_,_,rfl,hs,z.2⟩
    ·cases he
   ·cases he
  ·cases he
 ·rename_i g m0 ap y ys cp
  simp only [Bool.and_eq_true] at hm
  obtain ⟨⟨⟨⟨⟨⟨i,j⟩,l⟩,o⟩,e⟩,O⟩,hg⟩:=hm
  cases au j
  unfold evE at he
  simp only at he
  split at he
  ·rename_i as δ1 t
   unfold obD at he
   simp only at he
   split at he
   ·rename_i d bs
    split at he
    ·rename_i hi
     obtain ⟨xs,rfl⟩:=gB hi
     obtain ⟨ds,r,outs,ec⟩:=bC he
     obtain ⟨Ca,gg,fd,ps,sp,M,u,sc,mt,room,b,bd,w,imp⟩:=ok.mt _ _ _ (of_decide_eq_true i) _ _ _ ec
     have Fr:=b.raw bd (.nil:Vals [] [])
     have go:=ih ok o s t (Q:=fun vs H1=>sp (vs++[]) H1 Q E0) fun vs F' H' W' Wt p h=>by
      show sp (vs++[]) H' Q E0
      rw [List.append_nil]
      exact imp _ _ _ _ (cP p h he fun v B G W2 Wu q I=>k v B G W2 Wu q I).2
     refine av (SlX.pe_methSl ao sc mt Fr (room.mono (by omega)) pass0 (aw e) (aj _ e) (aq _ _ (ak e)) (Ob.pO (Ob.gJ hg _ _ _) l e (of_decide_eq_true O))) ?_
     obtain ⟨a0,J,L,go⟩:=jx go
     cases L
     refine ay go fun v H1 z=>?_
     obtain ⟨x0,N,dx,vs,rfl,hn,hs⟩:=z.1 _ _ rfl
     cases bu u hn
     exact ⟨_,_,_,rfl,hs,z.2⟩
    ·cases he
   ·cases he
  ·cases he
 ·cases hm
theorem C8 (ih:SE C n) (l:SAs C n) (ok:XOk C X c) {v:Nat} {cn nm:Str} {f:Nat} {es:List E} {x:Expr} (hm:mE (m+1) c (.mthM v cn nm f es) x=true) (s:SOk X.K F H σ δ W) (he:evE C (n+1) (.mthM v cn nm f es) δ=some (a,δ')) (k:ah X F H W σ δ' a Q):tW X x σ H Q:=by
 unfold evE at he
 simp only at he
 split at he
 ·rename_i sl δ0 e0
  split at he
  ·rename_i cn' xs P
   split at he
   ·rename_i b
    have b:=of_decide_eq_true b
    subst b
    split at he
    ·rename_i as δ1 N
     obtain ⟨ds,r,outs,ec⟩:=bC he
     have O:look δ0 (.bor sl [])=some (.mob cn' xs):=by simp [look,P,Ev.D.at]
     unfold mE at hm
     simp only at hm
     split at hm
     ·rename_i g m0 ap cp
      simp only [Bool.and_eq_true] at hm
      obtain ⟨⟨⟨⟨⟨o,h⟩,t⟩,u⟩,w⟩,hg⟩:=hm
      cases au h
      cases es with
      | cons _ _=>simp at w
      | nil =>
       obtain ⟨Ca,gg,fd,ps,sp,R,z,sc,mt,room,d,bd,B,imp⟩:=ok.mt _ _ _ (of_decide_eq_true o) _ _ _ ec
       have Fr:=d.raw bd (.nil:Vals [] [])
       refine av (SlX.pe_methSl0 ao sc mt Fr (room.mono (by omega)) pass0 (Ob.pO (Ob.gJ hg _ _ _) t rfl (by decide))) ?_
       refine ih ok u s e0 fun v1 F1 H1 W1 G p1 o1=>?_
       obtain ⟨a0,Y,dx,vs,rfl,hn,hs,_,_⟩:=(o1.look p1.ok O).mob
       cases bu z hn
       refine ⟨_,_,_,rfl,hs,?_⟩
       show sp ([V.ref a0]++[]) H1 Q E0
       rw [List.append_nil]
       have I:as=[]∧δ1=δ0:=by
        cases n with
        | zero=>simp [evE] at e0
        | succ n=>simpa [aN,eq_comm] using N
       obtain ⟨rfl,rfl⟩:=I
       cases o1 with
       | bor J pt=>exact imp _ _ _ _ (cP p1.drop (.cons (W1:=No) (W2:=No) (.bor J pt) .nil (fun _ q=>q.elim) (fun _ q=>q.elim) fun _ q=>q.elim) he fun v i e W2 Wu q L=>k v i e W2 Wu q L).2
     ·rename_i g m0 ap y ys cp
      simp only [Bool.and_eq_true] at hm
      obtain ⟨⟨⟨⟨⟨⟨⟨o,h⟩,t⟩,u⟩,w⟩,j⟩,Z⟩,hg⟩:=hm
      cases au h
      obtain ⟨Ca,gg,fd,ps,sp,R,z,sc,mt,room,d,bd,B,imp⟩:=ok.mt _ _ _ (of_decide_eq_true o) _ _ _ ec
      have Fr:=d.raw bd (.nil:Vals [] [])
      refine av (SlX.pe_methSl ao sc mt Fr (room.mono (by omega)) pass0 (aw j) (aj _ j) (aq _ _ (ak j)) (Ob.pO (Ob.gJ hg _ _ _) t j (of_decide_eq_true Z))) ?_
      refine ih ok u s e0 fun v1 F1 H1 W1 G p1 o1=>?_
      obtain ⟨a0,Y,dx,vs,rfl,hn,hs,_,_⟩:=(o1.look p1.ok O).mob
      cases bu z hn
      refine ⟨_,_,_,rfl,hs,?_⟩
      refine l ok w p1.ok N fun ws i e W2 M p2 h=>?_
      show sp ((V.ref a0::ws)++[]) e Q E0
      rw [List.append_nil]
      cases o1 with
      | bor J pt =>
       cases pt
       exact imp _ _ _ _ (cP (p1.drop.aA p2) (.cons (W1:=No) (W2:=M) (.bor (v:=.ref a0) (p:=[]) J (show bD e (.ref a0) [] (.ref a0) from rfl)) h (fun _ q=>q.elim) (fun _ q=>q.elim) fun _ q=>q) he fun v i e W2 Wu q L=>k v i e W2 Wu q L).2
     ·cases hm
    ·cases he
   ·cases he
  ·cases he
 ·cases he
theorem FJ (ih:SAs C n) (ok:XOk C X c) {cn nm:Str} {f:Nat} {es:List E} {x:Expr} (hm:mE (m+1) c (.ob .len cn nm f es) x=true) (s:SOk X.K F H σ δ W) (he:evE C (n+1) (.ob .len cn nm f es) δ=some (a,δ')) (k:ah X F H W σ δ' a Q):tW X x σ H Q:=by
 unfold mE at hm
 simp only at hm
 split at hm
 ·rename_i g O y pos
  simp only [Bool.and_eq_true] at hm
  obtain ⟨⟨⟨⟨j,o⟩,q⟩,t⟩,b⟩:=hm
  cases au j
  unfold evE at he
  simp only at he
  split at he
  ·rename_i as δ1 u
   unfold obD at he
   simp only at he
   split at he
   ·rename_i cn' xs
    split at he
    ·rename_i e
     simp only [Bool.and_eq_true,decide_eq_true_eq,Nat.ble_eq] at e
     obtain ⟨rfl,P⟩:=e
     split at he
     ·rename_i r ec
      cases he
      obtain ⟨Ca,v,hn | ⟨z,room,B,G⟩⟩:=ok.vn f _ (of_decide_eq_true q)
      ·rw [hn] at ec
       cases ec
      ·obtain ⟨fI,fi,fl,fdI,fdl,mk,R,I,J,V,c3,L,M,fdi,Y,Z⟩:=z.ex
       have d:FnR X.prog X.w X.K X.mg X.base CX0 1 fl (Ob.qT X.K Ca):=by have:=L.raw M (.nil:Vals [] []);simpa only [List.append_nil] using this
       refine av (pe_callB (qX (f:=.builtin "len")) (ok.gl o) (ok.blt _ (by decide)) (by decide +kernel) (aw b) (by decide +kernel) (by decide +kernel) (aj _ b) (aq _ _ (ak b))) ?_
       refine ih ok t s u fun vs F' H' W' Wt p h=>?_
       cases h with
       | cons a1 a2 a3 a4 a5 =>
        cases a2
        obtain ⟨x0,C',dx,us,rfl,hn,hs,_,l⟩:=(a1.look p.ok rfl).obj
        cases bu v.nsC hn
        cases l with
        | cons l1 l2 =>
         cases l2
         cases l1 with
         | tup N l3 =>
          have i:=l3.length
          refine Ob.B2 c3 d (room.mono (by omega)) (ck p.ok.sub hs) (af p.ok.sub N) (by rw [i];have:=aJ;unfold cap at this;omega) ?_
          rw [i]
          exact k _ _ _ _ _ p.drop (.tmp (.frz (.int _)))
     ·cases he
    ·cases he
   ·cases he
  ·cases he
 ·cases hm
theorem BC (ih:SAs C n) (ok:XOk C X c) {cn nm:Str} {f:Nat} {es:List E} {x:Expr} (hm:mE (m+1) c (.ob .tupO cn nm f es) x=true) (s:SOk X.K F H σ δ W) (he:evE C (n+1) (.ob .tupO cn nm f es) δ=some (a,δ')) (k:ah X F H W σ δ' a Q):tW X x σ H Q:=by
 unfold mE at hm
 simp only at hm
 split at hm
 ·rename_i g z y pos
  simp only [Bool.and_eq_true] at hm
  obtain ⟨⟨⟨⟨⟨B,G⟩,J⟩,L⟩,i⟩,e⟩:=hm
  cases au B
  unfold evE at he
  simp only at he
  split at he
  ·rename_i as δ1 M
   have go:∀ {Q':VK},(∀ vs F' H' W' Wt,aB X.K F H W F' H' σ δ1 W' Wt→fD X.K F' H' σ vs as Wt→cW X (.type "tuple") vs H' Q')→tW X (.Call (.Name "tuple" z) [y] [] pos) σ H Q':=fun hk =>
    av (pe_callTy (qX (f:=.type "tuple")) (ok.gl G) (ok.blt _ (by decide)) (by decide +kernel) (aw i) (by decide +kernel) (by decide +kernel) (aj _ i) (aq _ _ (ak i))) (ih ok L s M hk)
   unfold obD at he
   simp only at he
   split at he
   ·rename_i cn' xs j
    split at he
    ·rename_i v
     simp only [Bool.and_eq_true,decide_eq_true_eq,Nat.ble_eq] at v
     obtain ⟨rfl,hz⟩:=v
     split at he
     ·rename_i r ec
      cases he
      obtain ⟨Ca,N,hn | ⟨O,room,P,R⟩⟩:=ok.vn f _ (of_decide_eq_true J)
      ·rw [hn] at ec
       cases ec
      ·obtain ⟨fI,fi,fl,fdI,fdl,mk,FI,V,Y,bI,c3,Z,b3,fdi,F4,b4⟩:=O.ex
       have o:FnR X.prog X.w X.K X.mg X.base CX0 1 fl (Ob.qT X.K Ca):=by have:=Z.raw b3 (.nil:Vals [] []);simpa only [List.append_nil] using this
       have t:FnR X.prog X.w X.K X.mg X.base CX0 1 fi (Ob.vA X.K Ca):=by have:=F4.raw b4 (.nil:Vals [] []);simpa only [List.append_nil] using this
       refine go fun vs F' H' W' Wt p h=>?_
       obtain ⟨v0,rfl,hv⟩:=(fD.looks p.ok h j).one
       obtain ⟨x0,C',dx,us,rfl,hn,hs,_,l⟩:=hv.obj
       cases bu N.nsC hn
       cases l with
       | cons l1 l2 =>
        cases l2
        cases l1 with
        | tup hq l3 =>
         intro pins s0 σ0 us0 I rv
         rw [Vals.ref1 rv]
         exact Ob.Ds c3 t o (ok.calm e) (room.mono (by omega)) (ck p.ok.sub hs) (af p.ok.sub hq) I fun q u=>(k.goes p).tuple p.ok.sub u l3
     ·cases he
    ·cases he
   ·rename_i d nob j
    split at he
    ·cases he
    ·split at he
     ·rename_i r e3
      cases he
      exact go fun vs F' H' W' Wt p h=>CH (b:=.tuple1) ok.units (ok.calm e) p.ok.sub rfl e3 (fD.looks p.ok h j) (k.goes p)
     ·cases he
   ·cases he
  ·cases he
 ·cases hm
theorem oG {g:Str} {f:Nat} {Ca:Addr} (R:Ob.OcF X.K X.mg g Ca) (y:∀ ds r outs,C.call f ds=some (r,outs)→∃ d rs,ds=[d]∧r=.lst true rs∧outs=[]∧Ob.je d rs) {vs:List V} {H1:Hp} (h:lg X.K ((obC C g).call f) [] vs H1 Q) :
  ∀ x dx,H1 x=none→H1 dx=none→dx≠x→Ob.yO X.K Ca (.ref x::(vs++[])) (upd (upd H1 dx (.own x)) x (.ins Ca dx [])) (fun v Y=>v=.non∧Q (.ref x) Y) E0:=by
 intro x dx p a m
 rw [List.append_nil]
 obtain ⟨G,W1,ds,r,outs,sb,Z,lv,e,cont⟩:=h
 obtain ⟨B,e',rfl⟩:=mJ e
 obtain ⟨d,aa,rfl,er,rfl,u⟩:=y _ _ _ e'
 cases er
 cases Z with
 | @cons v1 _ _ _ _ V1 V2 o1 ow1 d1 u1 u1' =>
 cases ow1
 have nx:¬ V1 x:=fun z=>lv x (u1 x z) p
 have k:¬ V1 dx:=fun z=>lv dx (u1 dx z) a
 have N:New G H1 G (upd H1 dx (.own x)) No:=New.nc sb a
 have F:upd H1 dx (.own x) x=none:=by rw [upd_ne (fun z=>m z.symm)];exact p
 have O:New G (upd H1 dx (.own x)) G (upd (upd H1 dx (.own x)) x (.ins Ca dx [])) No:=New.nc N.sub F
 have o5:Ow X.K G (upd (upd H1 dx (.own x)) x (.ins Ca dx [])) v1 d V1:=o1.keep (fun _ _ z=>z) fun b s o eo fo=>by
  have i:b≠x:=fun z=>nx (by rw [← z];exact s)
  have j:b≠dx:=fun z=>k (by rw [← z];exact s)
  exact ⟨by rw [upd_ne i,upd_ne j];exact eo,fo⟩
 obtain ⟨ab,ac,_,_,_,ad⟩:=id u
 refine ⟨G,V1,x,dx,v1,d,B,rfl,O.sub,o5,fun b s z=>?_,u,.inl ⟨upd_same,rfl⟩,nx,k,fun F' H' W' t ws ext sub ht H=>⟨rfl,?_⟩⟩
 ·have i:b≠x:=fun z=>nx (by rw [← z];exact s)
  have j:b≠dx:=fun z=>k (by rw [← z];exact s)
  rw [upd_ne i,upd_ne j] at z
  exact lv b (u1 b s) z
 have P:∀ z,(z=x∨z=dx)→F' z=none:=fun z I=>by
  cases e:F' z with
  | none=>rfl
  | some o =>
   rcases ext.fnew z o e with h | h | h
   ·have:=sb _ _ h
    rcases I with rfl | rfl
    ·rw [p] at this;cases this
    ·rw [a] at this;cases this
   ·rcases I with rfl | rfl
    ·exact absurd h nx
    ·exact absurd h k
   ·rcases I with rfl | rfl
    ·rw [upd_same] at h;cases h
    ·rw [upd_ne m,upd_same] at h;cases h
 let U:Fp:=fun b=>b=x∨b=dx
 have l:Same F' (SlX.slH H' x Ca dx [some (.ref t)]):=fun b o e=>by
  have i:b≠x:=fun z=>by rw [z,P x (.inl rfl)] at e;cases e
  have j:b≠dx:=fun z=>by rw [z,P dx (.inr rfl)] at e;cases e
  rw [SlX.slH_ne i j]
  exact sub _ _ e
 have c:Same F' (fzH F' (SlX.slH H' x Ca dx [some (.ref t)]) U):=bT l
 have J:SlX.Slt (SlX.slH H' x Ca dx [some (.ref t)]) x Ca dx [some (.ref t)]:=SlX.slH_slt m
 have L:SlX.Slt (fzH F' (SlX.slH H' x Ca dx [some (.ref t)]) U) x Ca dx [some (.ref t)]:=by
  rcases J with ⟨_,M⟩ | ⟨h1,M⟩
  ·cases M
  ·exact .inr ⟨by rw [cw (.inl rfl)];exact h1,by rw [cw (.inr rfl)];exact M⟩
 have E2:Ext G H1 W1 G (upd (upd H1 dx (.own x)) x (.ins Ca dx [])) W1:=(N.ext.trans O.ext).mono (fun _ q=>q.elim) fun b q=>.inr q
 have E3:Ext G (upd (upd H1 dx (.own x)) x (.ins Ca dx [])) W1 F' H' W':=ext.mono u1 fun b q=>.inl q
 have w:=E2.trans E3
 refine cont (.ref x) (fzH F' (SlX.slH H' x Ca dx [some (.ref t)]) U) (SlX.slH H' x Ca dx [some (.ref t)]) No No (.frz (.obj (vs:=[.ref t]) R.nsC L (by simp) (.cons (.tup (af c ht) (H.mono c)) .nil))) (.skip rfl .nil) (fun _ z=>z.elim) (iU l) (fun b z=>by rcases z with z | z<;>exact z.elim) ⟨fun b o z=>c _ _ (w.fsub _ _ z),fun b o z=>?_,fun b o e n=>?_,fun b e=>?_,fun b z=>by rcases z with z | z<;>exact z.elim⟩
 ·rcases iq z with z | z | z
  ·exact w.fnew b o z
  ·subst z;exact .inr (.inr p)
  ·subst z;exact .inr (.inr a)
 ·have i:b≠x:=fun z=>by rw [z,p] at e;cases e
  have j:b≠dx:=fun z=>by rw [z,a] at e;cases e
  rw [SlX.slH_ne i j]
  exact w.keep b o e n
 ·by_cases i:b=x
  ·rw [i];exact p
  ·by_cases j:b=dx
   ·rw [j];exact a
   ·rw [SlX.slH_ne i j] at e
    exact w.live b e
theorem GK (ih:SAs C n) (ok:XOk C X c) {cn nm:Str} {f:Nat} {es:List E} {x:Expr} (hm:mE (m+1) c (.ob .new cn nm f es) x=true) (s:SOk X.K F H σ δ W) (he:evE C (n+1) (.ob .new cn nm f es) δ=some (a,δ')) (k:ah X F H W σ δ' a Q):tW X x σ H Q:=by
 unfold mE at hm
 simp only at hm
 split at hm
 ·rename_i g P y pos
  simp only [Bool.and_eq_true] at hm
  obtain ⟨⟨⟨⟨⟨b,o⟩,t⟩,u⟩,w⟩,d⟩:=hm
  have b:=au b
  subst b
  unfold evE at he
  simp only at he
  split at he
  ·rename_i as δ1 z
   unfold obD at he
   simp only at he
   split at he
   ·rename_i a0
    split at he
    ·rename_i rs δ2 j
     cases he
     obtain ⟨ds,r,outs,ec⟩:=bC j
     obtain ⟨Ca,l,hn | ⟨B,room,e,i⟩⟩:=ok.vn f _ (of_decide_eq_true o)
     ·rw [hn] at ec
      cases ec
     ·obtain ⟨fI,fi,fl,fdI,fdl,mk,G,I,J,L,c3,R,V,fdi,Y,Z⟩:=B.ex
      refine av (pe_make mk G (room.mono (by omega)) (ok.gl t) l.mgC L (.nil:Vals [] []) pass0 (aw d) (aX u).1 (aj _ d) (aq _ _ (ak d))) ?_
      have go:=ih ok w s z (Q:=fun vs H1=>lg X.K ((obC C g).call f) [] vs H1 Q) fun vs F' H' W' Wt p h=>by
       have cc:=(cP p h (hO j) fun v M N W2 Wu q O=>k v M N W2 Wu q O).2
       rwa [show (obC C g).io f=[] from e] at cc
      exact ax go fun vs H1 h=>oG l i h
    ·cases he
   ·cases he
  ·cases he
 ·cases hm
theorem zh {o:Operator} {nm:Str} (h:Ef o=some nm):PySem.dunder o.info.2=nm:=by
 cases o<;>simp [Ef] at h<;>subst h<;>decide +kernel
theorem yX {K:Frag} {o:Operator} {nm:Str} (h:Ef o=some nm) (n:nm≠"__mul__"):∀ T,(T="list" ∨ T="tuple")→findIn K (.type T) (PySem.dunder o.info.2)=some none∧findIn K (.type T) (dunderR o.info.2)=some none:=by
 cases o<;>simp [Ef] at h<;>subst h<;>first | exact absurd rfl n | (rintro T (rfl | rfl)<;>exact ⟨by with_unfolding_all rfl,by with_unfolding_all rfl⟩)
theorem Cc (ih:SAs C n) (ok:XOk C X c) {cn nm:Str} {f:Nat} {sq:Bool} {es:List E} {x:Expr} (hm:mE (m+1) c (.ob (.bin sq) cn nm f es) x=true) (s:SOk X.K F H σ δ W) (he:evE C (n+1) (.ob (.bin sq) cn nm f es) δ=some (a,δ')) (k:ah X F H W σ δ' a Q):tW X x σ H Q:=by
 unfold mE at hm
 simp only at hm
 split at hm
 ·rename_i l p0 r pos
  simp only [Bool.and_eq_true] at hm
  obtain ⟨⟨⟨⟨i,b⟩,O⟩,P⟩,I⟩:=hm
  have i:=of_decide_eq_true i
  have b:=of_decide_eq_true b
  obtain ⟨J,R⟩:∃ J,c.vn=some (J,cn):=by
   cases e:c.vn with
   | none=>rw [e] at b;simp at b
   | some z=>rw [e] at b;simp at b;exact ⟨z.1,by rw [← b]⟩
  obtain ⟨o,L,_⟩:=ok.vn _ _ R
  unfold evE at he
  simp only at he
  split at he
  ·rename_i as δ1 V
   unfold obD at he
   simp only at he
   split at he
   ·rename_i d bs
    split at he
    ·rename_i j Y
     split at he
     ·rename_i hi
      rw [Bool.and_eq_true] at hi
      obtain ⟨hi,hk⟩:=hi
      obtain ⟨xs,rfl⟩:=gB hi
      obtain ⟨ds,r0,outs,ec⟩:=bC he
      obtain ⟨Ca,gg,fd,ps,sp,Z,t,sc,mt,room,u,bd,aa,imp⟩:=ok.mt _ _ _ (of_decide_eq_true O) _ _ _ ec
      cases bu t L.nsC
      have Fr:FnR X.prog X.w X.K X.mg X.base CX0 Z gg sp:=by have:=u.raw bd (.nil:Vals [] []);simpa only [List.append_nil] using this
      have hs:findIn X.K (.ref o) (PySem.dunder p0.info.2)=some (some (.ref gg)):=by rw [zh i];exact mt.at_
      refine av (pe_op (SlX.BK (tb:=fun T=>sq=true∧(T="list" ∨ T="tuple")) L.sf hs mt.fn (fun T M=>yX i (fun e=>?_) T M.2) Fr (room.mono (by omega)) pass0) ao ao) ?_
      ·rw [M.1,e] at I
       revert I
       decide
      refine AB (ih ok P s V fun vs F' H' W' Wt p h=>?_)
      rintro v w rfl
      have cc:=imp _ _ Q E0 (cP p h he fun v F2 H2 W2 Wu q hq=>k v F2 H2 W2 Wu q hq).2
      cases h with
      | cons a1 a2 a3 a4 a5 =>
       obtain ⟨x0,C',dx,us,rfl,hn,y,_,l⟩:=(a1.look p.ok rfl).obj
       cases bu t hn
       refine ⟨_,_,_,rfl,ck p.ok.sub y,?_,cc⟩
       have lk:=a2.looks p.ok Y
       have N:Vw X.K F' H' w j:=by
        cases lk with
        | cons h _=>exact h
       unfold okR at hk
       rw [Bool.or_eq_true,Bool.and_eq_true] at hk
       rcases hk with hk | ⟨hk1,g⟩
       ·obtain ⟨ys,rfl⟩:=gB hk
        obtain ⟨x1,C1,ab,ac,rfl,B,G,_,_⟩:=N.obj
        cases bu t B
        exact .inl ⟨_,_,_,rfl,ck p.ok.sub G⟩
       ·refine .inr ⟨qK j,⟨hk1,?_⟩,Aa p.ok.sub N ?_⟩
        ·cases j<;>simp [x5] at g<;>simp [qK]
        ·cases j<;>simp [x5] at g<;>rfl
     ·cases he
    ·cases he
   ·cases he
  ·cases he
 ·cases hm
end
end Ev
namespace Ev
open PySem PySem.Spec PyProof.Rows L2
section
variable {C:Ctx} {X:Cx} {c:Cxt} {n m:Nat} {σ:L2.St} {δ δ':Dl} {F H:Hp} {W:Fp} {a:A} {Q:VK}
end
end Ev
namespace Ev
open PySem PySem.Spec PyProof.Rows L2
section
variable {C:Ctx} {X:Cx} {c:Cxt} {n m:Nat} {σ:L2.St} {δ δ':Dl} {F H:Hp} {W:Fp} {a:A} {Q:VK}
theorem rk {cn:Str} {h i j:Int} {Ca:Addr} {F1 H1 H':Hp} {W1 Wt:Fp} {x dx t:Addr} (k:ah X F H W σ δ' (.tmp (.obj cn [.int i,.tup [.int h,.int i,.int j],.int h,.int j])) Q) (p:aB X.K F H W F1 H1 σ δ' W1 Wt) (u:nsIn X.K mainGlobals cn=some (some (.ref Ca)))
  (n:H1 x=none) (g:H1 dx=none) (q:dx≠x) (hs:SlX.Slt H' x Ca dx [some (.int i),some (.ref t),some (.int h),some (.int j)]) (ht:H' t=some (.tup [.int h,.int i,.int j])) (nt:(upd (upd H1 dx (.own x)) x (.ins Ca dx [])) t=none)
  (fr:∀ c o,(upd (upd H1 dx (.own x)) x (.ins Ca dx [])) c=some o→c≠x→c≠dx→H' c=some o) (lv:∀ c,H' c=none→(upd (upd H1 dx (.own x)) x (.ins Ca dx [])) c=none):Q (.ref x) H':=by
 have up:∀ b,b≠x→b≠dx→(upd (upd H1 dx (.own x)) x (.ins Ca dx [])) b=H1 b:=fun b d a=>by rw [upd_ne d,upd_ne a]
 have t1:t≠x:=fun z=>by rw [z,upd_same] at nt;cases nt
 have t2:t≠dx:=fun z=>by rw [z,upd_ne q,upd_same] at nt;cases nt
 have r:H1 t=none:=by rw [← up t t1 t2];exact nt
 have l:∀ c o,H1 c=some o→H' c=some o:=fun c o e=>by
  have d:c≠x:=fun z=>by rw [z,n] at e;cases e
  have a:c≠dx:=fun z=>by rw [z,g] at e;cases e
  exact fr c o (by rw [up c d a];exact e) d a
 have f:Same F1 H':=fun b o e=>l _ _ (p.ok.sub _ _ e)
 let U:Fp:=fun b=>b=x∨b=dx∨b=t
 have m:Same F1 (fzH F1 H' U):=bT f
 have s:SlX.Slt (fzH F1 H' U) x Ca dx [some (.int i),some (.ref t),some (.int h),some (.int j)]:=by
  rcases hs with ⟨_,a⟩ | ⟨d,a⟩
  ·cases a
  ·exact .inr ⟨by rw [cw (.inl rfl)];exact d,by rw [cw (.inr (.inl rfl))];exact a⟩
 refine (k.goes p) (.ref x) (fzH F1 H' U) H' No (.frz (.obj (vs:=[.int i,.ref t,.int h,.int j]) u s (by simp) (.cons (.int _) (.cons (.tup (.inl (.inl (by rw [cw (.inr (.inr rfl))];exact ht))) (.cons (.int _) (.cons (.int _) (.cons (.int _) .nil)))) (.cons (.int _) (.cons (.int _) .nil)))))) ⟨iU f,fun _ z=>z.elim,m,fun b o z=>?_,fun b o e _=>l b o e,fun b e=>?_,fun b z=>z.elim⟩
 ·rcases iq z with z | z | z | z
  ·exact .inl z
  ·subst z;exact .inr (.inr n)
  ·subst z;exact .inr (.inr g)
  ·subst z;exact .inr (.inr r)
 ·by_cases d:b=x
  ·rw [d];exact n
  ·by_cases a:b=dx
   ·rw [a];exact g
   ·rw [← up b d a];exact lv b e
theorem rH {cn:Str} {f:Nat} {as:List A} (e:stD C cn f as δ=some (a,δ')):∃ b c d:Int,as=[.tmp (.int b),.tmp (.int c),.tmp (.int d)]∧δ'=δ∧∃ r rs outs,C.call f [.int b,.int c,.int d]=some (.lst true (r::rs),outs)∧a=.tmp (.obj cn (r::rs)):=by
 unfold stD at e
 split at e
 ·split at e
  ·rename_i ec
   cases e
   exact ⟨_,_,_,rfl,rfl,_,_,_,ec,rfl⟩
  ·cases e
 ·cases e
theorem qW {K:Frag} {F1 H1:Hp} {σ1:L2.St} {δ1:Dl} {W1 Wt:Fp} {a b c:Int} {vs:List V} (s:SOk K F1 H1 σ1 δ1 W1) (h:fD K F1 H1 σ1 vs [.tmp (.int a),.tmp (.int b),.tmp (.int c)] Wt):vs=[.int a,.int b,.int c]:=by
 have d:=fD.looks s h (ds:=[.int a,.int b,.int c]) rfl
 cases d with
 | cons e t =>
  cases t with
  | cons f t =>
   cases t with
   | cons g t =>
    cases t
    cases e.int
    cases f.int
    cases g.int
    rfl
theorem Ii (ih:SAs C n) (ok:XOk C X c) {cn nm:Str} {f:Nat} {es:List E} {x:Expr} (hm:mE (m+1) c (.ob .st cn nm f es) x=true) (s:SOk X.K F H σ δ W) (he:evE C (n+1) (.ob .st cn nm f es) δ=some (a,δ')) (k:ah X F H W σ δ' a Q):tW X x σ H Q:=by
 unfold mE at hm
 simp only at hm
 split at hm
 ·rename_i g R y ys pos
  simp only [Bool.and_eq_true] at hm
  obtain ⟨⟨⟨⟨⟨⟨e,v⟩,w⟩,B⟩,G⟩,i⟩,_⟩:=hm
  have e:=au e
  subst e
  unfold evE at he
  simp only at he
  split at he
  ·rename_i as δ1 I
   unfold obD at he
   simp only at he
   obtain ⟨o,J,q,rfl,rfl,r,rs,outs,ec,rfl⟩:=rH he
   obtain ⟨Ca,u,V,hn | ⟨L,room,j⟩⟩:=ok.vs f _ (of_decide_eq_true v)
   ·rw [hn] at ec
    cases ec
   ·obtain ⟨A1,Y,Z,M,d⟩:=j _ _ _ ec
    cases M
    by_cases lt:q<o
    ·rw [if_pos lt] at d
     cases d
     obtain ⟨fI,fdI,mk,N,O,_⟩:=L.ex
     refine av (pe_make mk N (room.mono (by omega)) (ok.gl w) u.mgC O (.nil:Vals [] []) pass0 (aw i) (aX B).1 (aj _ i) (aq _ _ (ak i))) ?_
     refine ih ok G s I fun vs F' H' W' Wt p h=>?_
     intro x dx P l b
     rw [List.append_nil,qW p.ok h]
     exact ⟨x,dx,o,J,q,rfl,lt,(.inl ⟨upd_same,rfl⟩),by rw [upd_ne b,upd_same];exact fun z=>(nomatch z),b,fun H2 t hs ht nt fr lv=>⟨rfl,rk k p u.nsC P l b hs ht nt fr lv⟩⟩
    ·rw [if_neg lt] at d
     cases d
  ·cases he
 ·cases hm
end
end Ev
namespace Ev
open PySem PySem.Spec PyProof.Rows L2
section
variable {X:Cx} {CX:CXT} {pins:List (Addr × Obj)} {σ:L2.St} {H:Hp} {s:Shared} {a C g:Addr} {n k:Nat} {sp:Sp} {E:XK} {Q:VK} {fd:FuncData} {ps ks:List Str}
end
end Ev
namespace Ev
open PySem PySem.Spec PyProof.Rows L2 HT
theorem n0 {lo n st:Nat} (h:0<st):Builtin.Slice.slicePlaces ((min lo n:Nat):Int) (n:Int) (st:Int)=iP n lo st:=by
 unfold Builtin.Slice.slicePlaces iP
 have a:(st:Int) > 0:=by omega
 simp only [a,if_true]
 by_cases c:lo<n
 ·have c2:((min lo n:Nat):Int)<(n:Int):=by omega
  have c3:(Nat.blt lo n)=true:=Nat.blt_eq.mpr c
  rw [if_pos c2,if_pos c3]
  have:(n:Int)-((min lo n:Nat):Int)-1=((n-lo-1:Nat):Int):=by omega
  rw [this]
  have e:(((n-lo-1:Nat):Int) / (st:Int))=(((n-lo-1) / st:Nat):Int):=by
   generalize n-lo-1=z
   simp
  rw [e]
  generalize (n-lo-1) / st=z
  omega
 ·have c2:¬ ((min lo n:Nat):Int)<(n:Int):=by omega
  have c3:¬ (Nat.blt lo n)=true:=fun q=>c (Nat.blt_eq.mp q)
  rw [if_neg c2,if_neg c3]
  rfl
theorem nz {lo n st:Nat} (h:0<st):Builtin.Slice.sliceAdjust (some (lo:Int)) none (st:Int) (n:Int)=(((min lo n:Nat):Int),(n:Int)):=by
 have a:¬ ((st:Int)<0):=by omega
 have b:¬ ((lo:Int)<0):=by omega
 unfold Builtin.Slice.sliceAdjust
 simp only [a,b,if_false]
 refine Prod.ext ?_ rfl
 show min (lo:Int) (n:Int)=_
 omega
theorem pP {n lo st:Nat} (h:0<st):iP n lo st≤n:=by
 unfold iP
 split
 ·rename_i c
  have c:=Nat.blt_eq.mp c
  have:(n-lo-1) / st≤n-lo-1:=Nat.div_le_self _ _
  omega
 ·omega
theorem qc {α:Type}:∀ xs:List α,gm (List.range xs.length) xs=xs
 | []=>rfl
 | x::xs=>by
  have ih:=qc xs
  unfold gm at ih ⊢
  rw [List.length_cons,List.range_succ_eq_map,List.filterMap_cons]
  simp only [List.getElem?_cons_zero,List.filterMap_map]
  congr 1
section
variable {prog:Program} {w:World} {A:Around} {E:Value→Shared→Prop} {s:Shared}
theorem fO {sl:Addr} {vl vs:Value} {lo st n:Nat} {Q:Int × Int × Nat→Shared→Prop} (hs:s.heap.IsSliceOf sl vl .none vs) (pl:IsPart vl (some (lo:Int))) (ps:IsPart vs (some (st:Int))) (h0:0<st)
  (h:Q (((min lo n:Nat):Int),(st:Int),iP n lo st) s):wpAny (model prog w) A (Builtin.Slice.sliceApplied (.ref sl) (pure (n:Int))) Q E s:=by
 obtain ⟨os,a,c,b⟩:=id hs
 unfold Builtin.Slice.sliceApplied Builtin.Slice.sliceFields
 refine wpAny_bind (wpAny_bind (wpAny_field a b (x:=vl) rfl (wpAny_bind (wpAny_field a b (x:=.none) rfl (wpAny_bind (wpAny_field a b (x:=vs) rfl (wpAny_pure ?_)))))))
 refine wpAny_bind (slicePart_ ps ?_)
 have d:¬ (((st:Int)==0)=true):=by
  intro q
  have:(st:Int)=0:=eq_of_beq q
  omega
 show wpAny _ _ (if ((st:Int)==0)=true then _ else _) _ _ s
 rw [if_neg d]
 refine wpAny_bind (slicePart_ pl (wpAny_bind (slicePart_none (wpAny_bind (wpAny_pure ?_)))))
 show wpAny _ _ (match Builtin.Slice.sliceAdjust (some (lo:Int)) none (st:Int) (n:Int) with | (lo,hi)=>pure (lo,(st:Int),Builtin.Slice.slicePlaces lo hi (st:Int))) _ _ s
 rw [nz h0]
 show wpAny _ _ (pure (((min lo n:Nat):Int),(st:Int),Builtin.Slice.slicePlaces ((min lo n:Nat):Int) (n:Int) (st:Int))) _ _ s
 rw [n0 h0]
 exact wpAny_pure h
theorem uy (xs:Array Value) (lo st:Nat):((List.range (iP xs.size lo st)).filterMap fun (m:Nat)=>xs[(((min lo xs.size:Nat):Int)+(m:Int)*(st:Int)).toNat]?)=bZ xs.toList lo st:=by
 unfold bZ gm
 rw [Array.length_toList,List.filterMap_map]
 congr 1
 funext m
 have e:(((min lo xs.size:Nat):Int)+(m:Int)*(st:Int)).toNat=min lo xs.size+m*st:=by
  have:(m:Int)*(st:Int)=((m*st:Nat):Int):=by simp
  rw [this]
  omega
 show xs[(((min lo xs.size:Nat):Int)+(m:Int)*(st:Int)).toNat]?=xs.toList[min lo xs.size+m*st]?
 rw [e,Array.getElem?_toList]
theorem fe {t sl:Addr} {items:Array Value} {vl vs:Value} {lo st:Nat} {Q:Value→Shared→Prop} (ht:IsTup s.heap t items) (hs:s.heap.IsSliceOf sl vl .none vs) (pl:IsPart vl (some (lo:Int))) (ps:IsPart vs (some (st:Int))) (h0:0<st)
  (hw:bZ items.toList lo st=items.toList→Q (.ref t) s)
  (h:Q (.ref s.heap.objs.size) { s with heap:=s.heap.push { cls:=.type "tuple",data:=.seq (bZ items.toList lo st).toArray } })
  (hsz:items.size≤sizeLine):wpAny (model prog w) A (getItem (.ref t) (.ref sl)) Q E s:=by
 have a:sizeOk (.seq (bZ items.toList lo st).toArray):=by
  show (bZ items.toList lo st).toArray.size≤sizeLine
  rw [List.size_toArray]
  unfold bZ gm
  refine Nat.le_trans (List.length_filterMap_le _ _) ?_
  rw [List.length_map,List.length_range,Array.length_toList]
  exact Nat.le_trans (pP h0) hsz
 obtain ⟨os,b,c,f⟩:=id hs
 have d:s.TypeIs (.ref sl) "slice" := ⟨os,b,c⟩
 unfold getItem
 try with_reducible refine wpAny_holding ?_
 first | refine wpAny_bind (wpAny_pure ?_) | skip
 refine wpAny_bind (wpAny_sequenceKey ht.typeIs (by decide) ?_)
 refine wpAny_bind (wpAny_callSpecial?_slot (name:=Str.ofString "__getitem__") ht.typeIs PyProof.Rows.slot_tuple_getitem
  (wpAny_call_entry PyProof.Rows.slot_tuple_getitem ht.typeIs entry_tuple_getitem ?_ (args_tuple_getitem _ _)))
 show wpAny _ _ (Builtin.Tuple.tupleItemsOf (.ref t) >>= _) _ _ s
 refine wpAny_bind (tupleItemsOf_ ht ?_)
 refine wpAny_bind (wpAny_typeOf d ?_)
 rw [if_pos (by decide)]
 refine wpAny_bind (fO hs pl ps h0 ?_)
 show wpAny _ _ (if (((min lo items.size:Nat):Int)==0&&(st:Int)==1&&iP items.size lo st==items.size)=true then _ else _) _ _ s
 by_cases hyes:(((min lo items.size:Nat):Int)==0&&(st:Int)==1&&iP items.size lo st==items.size)=true
 ·rw [if_pos hyes]
  have q:=hyes
  rw [Bool.and_eq_true,Bool.and_eq_true] at q
  have i:((min lo items.size:Nat):Int)=0:=eq_of_beq q.1.1
  have j:(st:Int)=1:=eq_of_beq q.1.2
  have g:iP items.size lo st=items.size:=eq_of_beq q.2
  have e:=hw (by
   unfold bZ
   rw [Array.length_toList,g]
   have z:min lo items.size=0:=by omega
   have o:st=1:=by omega
   rw [z,o]
   have:((List.range items.size).map fun m=>0+m*1)=List.range items.toList.length:=by
    rw [Array.length_toList]
    have:(fun m:Nat=>0+m*1)=id:=by funext m;simp
    rw [this,List.map_id]
   rw [this]
   exact qc items.toList)
  refine wpAny_bind ?_
  show wpAny _ _ (typeOf (.ref t) >>= fun T=>pure (T==.type "tuple")) _ _ s
  refine wpAny_bind (wpAny_typeOf ht.typeIs (wpAny_pure ?_))
  first
   | rw [if_pos (by decide)]
   | simp only [beq_self_eq_true,if_true]
  first
   | exact wpAny_bind (wpAny_rule (wpAny_pure ⟨_,rfl,wpAny_pure e⟩))
   | exact wpAny_bind (wpAny_rule (wpAny_bind (wpAny_pure (wpAny_pure ⟨_,rfl,wpAny_pure e⟩))))
 ·rw [if_neg hyes,uy]
  first
   | exact wpAny_bind (m:=Builtin.Tuple.tupleExact _) (wpAny_newObj_type (wpAny_pure ⟨_,rfl,wpAny_pure h⟩) a)
   | exact wpAny_bind (m:=Builtin.Tuple.tupleExact _) (wpAny_newObj_type (wpAny_bind (wpAny_pure (wpAny_pure ⟨_,rfl,wpAny_pure h⟩))) a)
   | exact wpAny_bind (wpAny_bind (m:=Builtin.Tuple.tupleExact _) (wpAny_newObj_type (wpAny_pure (wpAny_pure ⟨_,rfl,wpAny_pure h⟩)) a))
   | exact wpAny_bind (wpAny_bind (m:=Builtin.Tuple.tupleExact _) (wpAny_newObj_type (wpAny_pure ⟨_,rfl,wpAny_pure h⟩) a))
end
section
variable {K:Frag} {X:Cx} {F H:Hp}
theorem uj {F:Hp} {vs:List V} {ds:List D} (r:RpL K F vs ds):∀ is:List Nat,RpL K F (gm is vs) (gm is ds)
 | []=>.nil
 | i::is=>by
  have t:=uj r is
  unfold gm at t ⊢
  rw [List.filterMap_cons,List.filterMap_cons]
  cases e:ds[i]? with
  | none =>
   have l:=List.getElem?_eq_none_iff.mp e
   rw [← r.length] at l
   rw [List.getElem?_eq_none_iff.mpr l]
   exact t
  | some d =>
   obtain ⟨v,a,h⟩:=r.get e
   rw [a]
   exact .cons h t
theorem mD {xs:List V} {us:List Value} (r:Vals xs us):∀ is:List Nat,Vals (gm is xs) (gm is us)
 | []=>.nil
 | i::is=>by
  have t:=mD r is
  unfold gm at t ⊢
  rw [List.filterMap_cons,List.filterMap_cons]
  cases e:xs[i]? with
  | none =>
   have l:=List.getElem?_eq_none_iff.mp e
   rw [r.length] at l
   rw [List.getElem?_eq_none_iff.mpr l]
   exact t
  | some d =>
   obtain ⟨v,a,h⟩:=r.get e
   rw [a]
   exact .cons h t
theorem zB {F:Hp} {vs:List V} {ds:List D} (r:RpL K F vs ds) (lo st:Nat):RpL K F (bZ vs lo st) (bZ ds lo st):=by
 unfold bZ
 rw [r.length]
 exact uj r _
theorem mF {xs:List V} {us:List Value} (r:Vals xs us) (lo st:Nat):Vals (bZ xs lo st) (bZ us lo st):=by
 unfold bZ
 rw [r.length]
 exact mD r _
theorem xU {α:Type} {xs:List α} {lo st:Nat} (h:0<st):(bZ xs lo st).length≤xs.length:=by
 unfold bZ gm
 refine Nat.le_trans (List.length_filterMap_le _ _) ?_
 rw [List.length_map,List.length_range]
 exact pP h
def B3 (K:Frag) (te tl tk:TE):TE:=fun σ H Q=>te σ H fun x H1=>tl σ H1 fun y H2=>tk σ H2 fun z H3=>∃ a xs,∃ lo st:Nat,x=.ref a∧y=.int lo∧z=.int st∧0<st∧SqT K H3 a xs ∧
 (bZ xs lo st=xs→Q (.ref a) H3)∧∀ p,H3 p=none→Q (.ref p) (upd H3 p (.tup (bZ xs lo st)))
theorem xC {e g i:Expr} {te tl tk:TE} {p3 pos:Pos} (he:PE X e te) (m:PE X g tl) (hk:PE X i tk):PE X (.Subscript e (.Slice (some g) none (some i) p3) pos) (B3 X.K te tl tk):=by
 refine ⟨fun pins s σ H Q I h=>?_⟩
 refine Subscript_ (thn (he.run pins s σ H _ I h) fun v s1 ⟨x,H1,n,r1,p⟩=>?_)
 refine wpAny_Slice ?_
 rw [evalPart_some]
 refine thn (m.run pins s1 σ H1 _ n p) fun vl s2 ⟨y,k,t,B,C⟩=>?_
 refine thn (po_none.run pins s2 σ k (fun o j=>o=none∧j=k) t ⟨rfl,rfl⟩) fun vu s3 ⟨u,j,F,pu,G,J⟩=>?_
 subst G J
 cases pu
 rw [evalPart_some]
 refine thn (hk.run pins s3 σ j _ F C) fun vs s4 ⟨z,l,L,M,N⟩=>?_
 obtain ⟨a,xs,lo,st,rfl,rfl,rfl,h0,O,P,q⟩:=N
 cases r1
 obtain ⟨c,rfl⟩:=B
 obtain ⟨d,rfl⟩:=M
 have f:Inv X pins σ l { s4 with heap:=s4.heap.push { cls:=.type "slice",data:=.fields #[.int lo c,.none,.int st d] } }:=L.kept (t':=s4.toks) fun b ob q=>Heap.get?_push_of_some _ q
 obtain ⟨its,r,ht,R⟩:=f.tuple O
 have hlen:=r.length
 show wpAny (model X.prog X.w) X.A (subscriptTail e (.Slice (some g) none (some i) p3) (.ref a) (.ref s4.heap.objs.size)) (EP X pins σ Q) X.xe { s4 with heap:=s4.heap.push { cls:=.type "slice",data:=.fields #[.int lo c,.none,.int st d] } }
 refine tail_any (ops:=[.ref a,.ref s4.heap.objs.size]) ht.typeIs (PyProof.Rows.slot_tuple_getitem.lookup) ?_ (by with_unfolding_all rfl)
 refine fe ht (Heap.IsSliceOf.new ..) (.int _ _) (.int _ _) h0 ?_ ?_ (by rw [List.size_toArray];omega)
 ·intro e
  exact ⟨.ref a,l,f,rfl,P (Vals.inj (mF r lo st) (by rw [show bZ its lo st=its from e];exact r))⟩
 ·refine ⟨.ref _,_,f.laid (t':=s4.toks) (o:=.tup (bZ xs lo st)) (fun b ob q=>Heap.get?_push_of_some _ q) (Nat.le_refl _) ?_,rfl,q _ (f.hok.fresh (Nat.le_refl _))⟩
  exact ⟨Nat.le_trans (xU h0) R,_,mF r lo st,IsTup.new _ _⟩
end
theorem xY {ds:List D} {d:D} (e:biD .step ds=some d):∃ xs,∃ lo st:Nat,ds=[.tup xs,.int lo,.int st]∧0<st∧d=.tup (bZ xs lo st):=by
 rcases ds with _ | ⟨x,_ | ⟨y,_ | ⟨z,_ | ⟨z2,t⟩⟩⟩⟩
 ·simp [biD] at e
 ·cases x<;>simp [biD] at e
 ·cases x<;>cases y<;>simp [biD] at e
 ·cases x with
  | tup xs=>cases y with
   | int lo=>cases lo with
    | ofNat lo=>cases z with
     | int st=>cases st with
      | ofNat st =>
       have e:(if Nat.blt 0 st then some (D.tup (bZ xs lo st)) else none)=some d:=e
       split at e
       ·rename_i h
        cases e
        exact ⟨xs,lo,st,rfl,Nat.blt_eq.mp h,rfl⟩
       ·cases e
      | negSucc st=>simp [biD] at e
     | _=>simp [biD] at e
    | negSucc lo=>simp [biD] at e
   | _=>simp [biD] at e
  | _=>simp [biD] at e
 ·simp [biD] at e
section
variable {C:Ctx} {X:Cx} {c:Cxt} {n m:Nat} {σ:L2.St} {δ δ':Dl} {F H:Hp} {W:Fp} {a:A} {Q:VK}
theorem BF (ih:SAs C n) (ok:XOk C X c) {es:List E} {l u v:Expr} {p pos:Pos} {as:List A} {ds:List D} {d:D} (hm:mEs m c es [l,u,v]=true) (s:SOk X.K F H σ δ W)
  (j:aN C n es δ=some (as,δ')) (o:looks δ' as=some ds) (t:biD .step ds=some d) (k:ah X F H W σ δ' (.tmp d) Q):tW X (.Subscript l (.Slice (some u) none (some v) p) pos) σ H Q:=by
 have go:=ih ok hm s j (Q:=fun vs f=>∃ a xs,∃ lo st:Nat,vs=[.ref a,.int lo,.int st]∧0<st∧SqT X.K f a xs∧(bZ xs lo st=xs→Q (.ref a) f)∧∀ p,f p=none→Q (.ref p) (upd f p (.tup (bZ xs lo st)))) fun vs F' H' W' Wt p h=>by
  have b:=h.looks p.ok o
  obtain ⟨xs,lo,st,rfl,h0,rfl⟩:=xY t
  cases b with
  | cons B b =>
  cases b with
  | cons G b =>
  cases b with
  | cons I b =>
  cases b
  obtain ⟨a,vs,rfl,g,r⟩:=B.tup
  cases G.int
  cases I.int
  have i:=zB r lo st
  refine ⟨a,vs,lo,st,rfl,h0,af p.ok.sub g,fun w=>?_,fun q J=>(k.goes p).tuple p.ok.sub J i⟩
  rw [w] at i
  exact (k.goes p).atom p.ok.sub (.tup g i)
 refine av (xC ao ao ao) (ay go fun x H1 q=>ay q fun y N q=>ay q fun z f ⟨a,xs,lo,st,e,h0,g,L,M⟩=>?_)
 simp only [List.cons.injEq,and_true] at e
 obtain ⟨rfl,rfl,rfl⟩:=e
 exact ⟨a,xs,lo,st,rfl,rfl,rfl,h0,g,L,M⟩
end
theorem call_len_range {prog:Program} {w:World} {A:Around} {E:Value→Shared→Prop} {s:Shared} {r:Addr} {a b c:Int} {t u v:Tok} {Q:Value→Shared→Prop} (d:IsRange s.heap r a b c t u v) (h0:0≤Builtin.Range.rangeSize a b c) (f:Builtin.Range.rangeSize a b c<2 ^ 63)
  (h:Q (.int (Builtin.Range.rangeSize a b c) (s.toks+1)) { s with toks:=s.toks+1+1 }):wpAny (model prog w) A (call (.builtin "len") [.ref r]) Q E s:=by
 have e:s.TypeIs (.ref r) "range" := ⟨_,d,rfl⟩
 refine Calls.call_function_entry kind_len plain_len entry_len (args_len1 _) ?_
 unfold Builtin.«len»
 refine wpAny_bind (m:=oneArg "len" _) (wpAny_pure ?_)
 refine wpAny_bind (m:=callSpecial? (.ref r) (Str.ofString "__len__")) (wpAny_callSpecial?_slot (name:=Str.ofString "__len__") e F.slot_range_len (wpAny_call_entry F.slot_range_len e F.entry_range_len ?_ (F.args_range_len_1 _)))
 unfold Builtin.«range.__len__»
 refine wpAny_bind (wpAny_of_eq (a:=((.ref r:Value),([]:List Value))) rfl ?_)
 refine wpAny_bind (wpAny_rangeFields d ?_)
 show wpAny _ _ (if Builtin.Range.rangeSize a b c ≥ 2 ^ 63 then _ else _) _ _ s
 rw [if_neg (by omega)]
 show wpAny _ _ (retInt (Builtin.Range.rangeSize a b c)) _ _ s
 unfold retInt
 refine wpAny_bind (wpAny_mkInt (wpAny_pure ⟨_,rfl,?_⟩))
 show wpAny _ _ _ _ _ { s with toks:=s.toks+1 }
 refine wpAny_bind (wpAny_holding (wpAny_pure ?_))
 refine wpAny_bind (wpAny_letGo ?_)
 show wpAny _ _ (if Builtin.Range.rangeSize a b c<0 then _ else _) _ _ _
 rw [if_neg (by omega)]
 show wpAny _ _ (if Builtin.Range.rangeSize a b c ≥ 2 ^ 63 then _ else _) _ _ _
 rw [if_neg (by omega)]
 exact wpAny_bind (wpAny_mkInt (wpAny_pure ⟨_,rfl,h⟩))
section
variable {C:Ctx} {X:Cx} {c:Cxt} {n m:Nat} {σ:L2.St} {δ δ':Dl} {F H:Hp} {W:Fp} {a:A} {Q:VK}
theorem Eg (ih:SAs C n) (ok:XOk C X c) {es:List E} {y:Expr} {ys:List Expr} {p0 p1 p2 pos:Pos} {as:List A} {ds:List D} {d:D} (gl:glB c "len" = true) (i:glB c "range" = true) (j:mEs m c es (y::ys)=true) (l:noStar (y::ys)=true) (s:SOk X.K F H σ δ W)
  (o:aN C n es δ=some (as,δ')) (w:looks δ' as=some ds) (e:biD .lenr ds=some d) (k:ah X F H W σ δ' (.tmp d) Q):tW X (.Call (.Name "len" p0) [.Call (.Name "range" p1) (y::ys) [] p2] [] pos) σ H Q:=by
 have e:(match aQ ds with
  | some xs=>if decide (xs.length≤cap) then some (D.int xs.length) else none
  | none=>none)=some d:=e
 split at e
 ·rename_i items z
  split at e
  ·rename_i f
   cases e
   have f:=of_decide_eq_true f
   have go:=ih ok j s o (Q:=fun vs H1=>∃ a b c,RgA vs a b c∧Builtin.Range.small a b c=true∧Builtin.Range.rangeSize a b c=(items.length:Nat)∧Q (.int items.length) H1) fun vs F' H' W' Wt p h=>by
    obtain ⟨a,b,c,r1,g,B,L⟩:=jR z (h.looks p.ok w) f
    exact ⟨a,b,c,r1,g,B,(k.goes p).atom p.ok.sub (.int _)⟩
   intro pins s0 I
   refine Call_ (ld_blt I (ok.gl gl) (ok.blt _ (by decide)) boot_len (PyProof.Rows.callWith_builtin1 (args_cons (thn (iG (ok.gl i) (ok.blt _ (by decide)) l I (ax go fun vs H1 ⟨a,b,c,r1,g⟩=>⟨a,b,c,r1,g⟩)) fun x s1 ⟨r,a,b,c,t,u,v,H1,ex,G,J,sm,sz,q⟩=>args_nil ?_) rfl) rfl))
   subst ex
   have:=aJ
   have cl:cap≤1000000:=by decide
   refine call_len_range G (by rw [sz];omega) (by rw [sz];omega) ?_
   rw [sz]
   exact ⟨.int items.length,H1,J.tok _,⟨_,rfl⟩,q⟩
  ·cases e
 ·cases e
theorem tc (ok:XOk C X c) {a:Str} {y:Expr} (h:Bc c a y=true):(∀ (m:Str) (w:Sem Value),attributeBase y m X.env w=w)∧∀ {σ:L2.St} {H:Hp} {Q:VK},Q (.str a) H→tW X y σ H Q:=by
 unfold Bc at h
 split at h
 ·cases au h
  exact ⟨fun _ _=>rfl,fun q=>av pe_str q⟩
 ·simp only [Bool.and_eq_true,decide_eq_true_eq] at h
  obtain ⟨⟨b,d⟩,e⟩:=h
  obtain ⟨u,v,mg,f,g⟩:=ok.con _ _ e
  refine ⟨fun _ _=>rfl,fun {σ H Q} q=>av (pe_glob (ok.gl b) mg f (aX d).1) ?_⟩
  cases g H with
  | str=>exact q
 ·cases h
theorem DC (ih:SAs C n) (ok:XOk C X c) {sep:Str} {es:List E} {y z:Expr} {p1 pos:Pos} {as:List A} {ds:List D} {d:D} (f:mEs m c es [z]=true) (g:(p1.endLine==pos.line)=true) (i:noStar [z]=true) (j:Bc c sep y=true) (s:SOk X.K F H σ δ W)
  (l:aN C n es δ=some (as,δ')) (q:looks δ' as=some ds) (a:biD (.join sep) ds=some d) (k:ah X F H W σ δ' (.tmp d) Q):tW X (.Call (.Attribute y "join" p1) [z] [] pos) σ H Q:=by
 have hs:starEach [z] X.env=[(false,eval z X.env)]:=by
  have:=aj X.env i
  rw [this]
  rfl
 obtain ⟨t,u⟩:=tc ok j
 refine av (pe_join ao ao hs (t _ _) g) ?_
 refine u ⟨⟨_,rfl⟩,?_⟩
 have a:∃ o xs ys,ds=[.lst o xs]∧strsOf xs=some ys∧Nat.ble ((ys.map (·.length)).sum+ys.length*sep.length) 1000000=true∧d=.str (Txt.join sep ys):=by
  match ds,a with
  | [.lst o xs],a =>
   have a:(match strsOf xs with
    | some ys=>if Nat.ble ((ys.map (·.length)).sum+ys.length*sep.length) 1000000 then some (D.str (Txt.join sep ys)) else none
    | none=>none)=some d:=a
   split at a
   ·rename_i ys w
    split at a
    ·rename_i B
     cases a
     exact ⟨_,_,ys,rfl,w,B,rfl⟩
    ·cases a
   ·cases a
 obtain ⟨o,xs,ys,rfl,e,G,rfl⟩:=a
 refine Ct (ih ok f s l fun vs F' H' W' Wt p h=>?_)
 rintro v rfl
 obtain ⟨x,ex,I⟩:=(fD.looks p.ok h q).one
 cases ex
 obtain ⟨b,us,rfl,J,l1,r⟩:=I.lst p.ok.sub
 obtain rfl:=hE (r (dI e)) e
 refine ⟨sep,b,ys,rfl,rfl,.inl (SqL.of J),?_,(k.goes p).atom p.ok.sub (.str _)⟩
 have:=Nat.le_of_ble_eq_true G
 omega
theorem wQ {sep:Str} {ds:List D} {d:D} (e:biD (.splt sep) ds=some d):∃ z,ds=[.str z]∧0<sep.length∧z.length≤999000∧d=.lst true ((Txt.split z sep).map .str):=by
 match ds,e with
 | [.str z],e =>
  have e:(if decide (0<sep.length)&&decide (z.length≤999000) then some (D.lst true ((Txt.split z sep).map .str)) else none)=some d:=e
  split at e
  ·rename_i c
   rw [Bool.and_eq_true,decide_eq_true_eq,decide_eq_true_eq] at c
   cases e
   exact ⟨z,rfl,c.1,c.2,rfl⟩
  ·cases e
theorem pT {K:Frag} {F:Hp}:∀ ys:List Str,RpL K F (ys.map V.str) (ys.map D.str)
 | []=>.nil
 | y::ys=>.cons (.str y) (pT ys)
theorem C6 (ih:SAs C n) (ok:XOk C X c) {sep:Str} {es:List E} {y z:Expr} {p1 pos:Pos} {as:List A} {ds:List D} {d:D} (a:mEs m c es [y]=true) (b:(p1.endLine==pos.line)=true) (u:noStar [y]=true) (e:noStar [z]=true) (f:Bc c sep z=true) (g:lP y=true) (s:SOk X.K F H σ δ W)
  (i:aN C n es δ=some (as,δ')) (j:looks δ' as=some ds) (o:biD (.splt sep) ds=some d) (k:ah X F H W σ δ' (.tmp d) Q):tW X (.Call (.Attribute y "split" p1) [z] [] pos) σ H Q:=by
 have hs:starEach [z] X.env=[(false,eval z X.env)]:=by
  have:=aj X.env e
  rw [this]
  rfl
 obtain ⟨w,q⟩:=tc ok f
 refine av (pe_split ao ao hs (Ob.gJ g _ _ _) b) ?_
 obtain ⟨a0,rfl,B,G,rfl⟩:=wQ o
 refine Ct (ih ok a s i fun vs F' H' W' Wt p h=>?_)
 rintro v rfl
 obtain ⟨x,ex,r⟩:=(fD.looks p.ok h j).one
 cases ex
 cases r.str
 refine ⟨⟨_,rfl⟩,q ⟨a0,sep,rfl,rfl,?_,?_,fun l t=>?_⟩⟩
 ·rw [beq_eq_false_iff_ne]
  omega
 ·have:=aJ
  have:cap=1000000:=rfl
  omega
 ·exact (k.goes p).list p.ok.sub t (pT _)
end
end Ev
namespace Ev
open PySem PySem.Spec PyProof.Rows L2
section
variable {C:Ctx} {X:Cx} {c:Cxt} {n m:Nat} {σ:L2.St} {δ δ':Dl} {F H:Hp} {W:Fp} {Q:VK}
theorem y8:bootBuiltins "str" = some (.type "str"):=by decide +kernel
theorem oO (ok:XOk C X c) (hg:glB c "str" = true) {b:Expr} {p pos:Pos} (hs:starEach [b] X.env=[(false,eval b X.env)]) {pins:List (Addr × Obj)} {s0:Shared} {R:Str→Hp→Prop} (I:Inv X pins σ H s0) (h:tW X b σ H fun v H1=>∃ a:Int,v=.int a∧a.natAbs.log2<1920∧R (toString a) H1) :
  wpAny (model X.prog X.w) X.A (eval (.Call (.Name "str" p) [b] [] pos) X.env) (fun u s1=>∃ z t H1,u=.str z t∧s0.toks≤t∧t<s1.toks∧Inv X pins σ H1 s1∧R z H1) X.xe s0:=by
 refine wpAny_Call_Name_kw (ld_blt I (ok.gl hg) (ok.blt _ (by decide)) y8 ?_ (by decide) (by decide))
 refine PyProof.Rows.callWith_type1 (rest:=[]) ?_ (by rw [hs];rfl) rfl
 rw [hs]
 show wpAny _ _ (spliced ((false,eval b X.env)::backTo pos [])) _ _ s0
 refine Calls.spliced_cons (wpAny_mono (PySem.wpAny_toks (h pins s0 I)) (fun v s1 q=>?_) fun _ _ z=>z.2)
 obtain ⟨hk,v',H1,d,r1,a,rfl,e,q⟩:=q
 obtain ⟨t,rfl⟩:=r1
 refine Calls.spliced_nil ?_
 exact PySem.P.str_of_int e ⟨_,_,H1,rfl,hk,Nat.lt_succ_self _,d.tok _,q⟩
theorem vO (ok:XOk C X c) (hg:glB c "str" = true) {b:Expr} {j:Nat} {p cp g i:Pos} {a:Str} (l:a.length≠0) (hs:starEach [b] X.env=[(false,eval b X.env)]) {pins:List (Addr × Obj)} {s0:Shared} {R:Str→Hp→Prop} (I:Inv X pins σ H s0) (h:tW X b σ H fun v H1=>∃ k:Int,v=.int k∧k.natAbs.log2<1920∧(Str.ofString (toString k)).length≠0∧a.length+(Str.ofString (toString k)).length≤sizeLine∧R (a++Str.ofString (toString k)) H1) :
  wpAny (model X.prog X.w) X.A (eval (.BinOp (.Constant (.str a) j cp) .Add (.Call (.Name "str" p) [b] [] g) i) X.env) (fun u s1=>∃ z t H1,u=.str z t∧t≠0∧t<s1.toks∧Inv X pins σ H1 s1∧R z H1) X.xe s0:=by
 refine wpAny_BinOp (Calls.Constant_str ?_)
 refine wpAny_mono (oO (R:=fun z H1=>z.length≠0∧a.length+z.length≤sizeLine∧R (a++z) H1) ok hg hs (I.tok _) (ay h fun v H1 ⟨k,e,d,f,m,n⟩=>⟨k,e,d,f,m,n⟩)) (fun u s1 q=>?_) fun _ _ z=>z
 obtain ⟨z,t,H1,rfl,d,f,o,l1,l2,q⟩:=q
 have d:s0.toks+1≤t:=d
 refine PySem.P.add_str ?_
 rw [if_neg (by simpa using l),if_neg (by simpa using l1)]
 have l2:(a++z).length≤sizeLine:=by
  show (a.cps++z.cps).size≤sizeLine
  rw [Array.size_append]
  exact l2
 exact ⟨l2,_,_,H1,rfl,Nat.ne_of_gt (Nat.lt_of_le_of_lt (Nat.zero_le _) f),Nat.lt_succ_self _,o.tok _,q⟩
theorem rep_run (ok:XOk C X c) (hg:glB c "str" = true) {y m i:Expr} {j:Nat} {p p2 cp w o B apos pos:Pos} {a:Str} (G:a.length≠0) (J:starEach [m] X.env=[(false,eval m X.env)]) (K:starEach [i] X.env=[(false,eval i X.env)]) (f:attributeBase y "replace" X.env (eval y X.env)=eval y X.env) (g:(apos.endLine==pos.line)=true)
  (h:tW X y σ H fun v1 H1=>∃ x,v1=.str x∧tW X m σ H1 fun v2 n=>∃ k:Int,v2=.int k∧k.natAbs.log2<1920∧(Str.ofString (toString k)).length≠0∧a.length+(Str.ofString (toString k)).length≤sizeLine∧tW X i σ n fun r d=>∃ b:Int,r=.int b∧b.natAbs.log2<1920∧(a++Str.ofString (toString k)==Str.ofString (toString b))=false∧x.length+(x.length+1)*(Str.ofString (toString b)).length≤16777216∧Q (.str (Txt.replace x (a++Str.ofString (toString k)) (Str.ofString (toString b)))) d) :
  tW X (.Call (.Attribute y "replace" apos) [.BinOp (.Constant (.str a) j cp) .Add (.Call (.Name "str" p) [m] [] w) B,.Call (.Name "str" p2) [i] [] o] [] pos) σ H Q:=by
 intro pins s0 I
 refine PySem.Call_method2 f rfl g (thn (h pins s0 I) fun v s1 q=>?_)
 obtain ⟨v',H1,L,r1,x,rfl,q⟩:=q
 obtain ⟨tx,rfl⟩:=r1
 refine ⟨"str",_,PySem.F.plainAttrs_str,PySem.F.slot_str_replace,PySem.F.type_str_replace,typeIs_str _ _ _,(fun _ e=>nomatch e),Calls.callWith_builtin rfl (Calls.evalArgs_plain (Calls.spliced_cons ?_))⟩
 refine wpAny_mono (vO (R:=fun z n=>∃ k:Int,z=a++Str.ofString (toString k)∧tW X i σ n fun r d=>∃ b:Int,r=.int b∧b.natAbs.log2<1920∧(a++Str.ofString (toString k)==Str.ofString (toString b))=false∧x.length+(x.length+1)*(Str.ofString (toString b)).length≤16777216∧Q (.str (Txt.replace x (a++Str.ofString (toString k)) (Str.ofString (toString b)))) d) ok hg G J L (ay q fun v H1 ⟨k,e,l1,l2,l3,l4⟩=>⟨k,e,l1,l2,l3,k,rfl,l4⟩)) (fun u s2 q=>?_) fun _ _ z=>z
 obtain ⟨z,t,n,rfl,t0,tl,M,k,rfl,q⟩:=q
 refine Calls.spliced_cons (wpAny_mono (oO (R:=fun z d=>(a++Str.ofString (toString k)==z)=false∧x.length+(x.length+1)*z.length≤16777216∧Q (.str (Txt.replace x (a++Str.ofString (toString k)) z)) d) ok hg K M (ay q fun v d ⟨b,e,l1,l2,l3,l4⟩=>⟨b,e,l1,l2,l3,l4⟩)) (fun u s3 q=>?_) fun _ _ z=>z)
 obtain ⟨z,t2,d,rfl,l,N,O,s,P,q⟩:=q
 refine Calls.spliced_nil ?_
 exact PySem.SC.replace t0 (Nat.ne_of_gt (Nat.lt_of_lt_of_le (Nat.lt_of_le_of_lt (Nat.zero_le _) tl) l)) (Nat.ne_of_lt (Nat.lt_of_lt_of_le tl l)) s P fun t' k=>⟨.str _,d,O.tok k,⟨t',rfl⟩,q⟩
theorem xX {a:Str} {ds:List D} {d:D} (e:biD (.repl a) ds=some d):∃ x k u v,ds=[.str x,.int k,.int u,.int v]∧wo a x k (u+v)=true∧d=.str (Txt.replace x (a++Str.ofString (toString k)) (Str.ofString (toString (u+v)))):=by
 match ds,e with
 | [.str x,.int k,.int u,.int v],e =>
  have e:(if wo a x k (u+v) then some (D.str (Txt.replace x (a++Str.ofString (toString k)) (Str.ofString (toString (u+v))))) else none)=some d:=e
  split at e
  ·rename_i h
   cases e
   exact ⟨x,k,u,v,rfl,h,rfl⟩
  ·cases e
theorem mx {C:Ctx}:∀ {is:List Nat} {n:Nat} {δ δ':Dl} {as:List A} {ds:List D},aN C n (is.map E.var) δ=some (as,δ')→looks δ' as=some ds→δ'=δ∧∀ (j i:Nat),is[j]?=some i→∃ d:D,ds[j]?=some d∧slot δ i=some d
 | [],n,δ,δ',as,ds,e,l=>by
  cases n with
  | zero=>simp [aN] at e
  | succ n =>
   simp only [List.map_nil,aN,Option.some.injEq,Prod.mk.injEq] at e
   exact ⟨e.2.symm,fun j i h=>by simp at h⟩
 | c::is,n,δ,δ',as,ds,e,l=>by
  cases n with
  | zero=>simp [aN] at e
  | succ n =>
  simp only [List.map_cons,aN] at e
  split at e
  ·rename_i a1 δ1 a
   cases n with
   | zero=>simp [evE] at a
   | succ n =>
   simp only [evE] at a
   split at a
   ·rename_i d0 s0
    split at e
    ·rename_i a2 δ2 b
     split at e
     ·rename_i as3 δ3 f
      cases e
      have key:δ2=δ∧(a2=.tmp d0∨a2=.bor c []):=by
       split at a
       ·cases a
        cases b
        exact ⟨rfl,.inl rfl⟩
       ·cases a
        cases b
        exact ⟨rfl,.inr rfl⟩
      obtain ⟨rfl,g⟩:=key
      simp only [looks] at l
      split at l
      ·rename_i dd dds l1 l2
       cases l
       obtain ⟨rfl,q⟩:=mx f l2
       refine ⟨rfl,fun j i h=>?_⟩
       cases j with
       | zero =>
        simp only [List.getElem?_cons_zero,Option.some.injEq] at h
        subst h
        refine ⟨dd,rfl,?_⟩
        rcases g with rfl | rfl
        ·cases l1
         exact s0
        ·simp only [look,s0,D.at] at l1
         rw [s0,l1]
       | succ j=>exact q j i (by simpa using h)
      ·cases l
     ·cases e
    ·cases e
   ·cases a
  ·cases e
theorem BD (ok:XOk C X c) {a:Str} {i1 i2 b f:Nat} {h l m t:Str} {j:Nat} {B G I J L p p2 cp M z N p1 pos:Pos} {as:List A} {ds:List D} {d:D} (hg:glB c "str" = true) (O:(p1.endLine==pos.line)=true) (P:nmB c i1 h=true∧i9 c h=true∧az h=true) (Y:nmB c i2 l=true∧i9 c l=true∧az l=true) (Z:nmB c b m=true∧i9 c m=true∧az m=true) (n4:nmB c f t=true∧i9 c t=true∧az t=true) (s:SOk X.K F H σ δ W)
  (e1:aN C n [.var i1,.var i2,.var b,.var f] δ=some (as,δ')) (e2:looks δ' as=some ds) (e3:biD (.repl a) ds=some d) (k:ah X F H W σ δ' (.tmp d) Q):tW X (.Call (.Attribute (.Name h B) "replace" p1) [.BinOp (.Constant (.str a) j cp) .Add (.Call (.Name "str" p) [.Name l G] [] M) N,.Call (.Name "str" p2) [.BinOp (.Name m I) .Add (.Name t J) L] [] z] [] pos) σ H Q:=by
 obtain ⟨x,i,u,v,rfl,c,rfl⟩:=xX e3
 unfold wo at c
 simp only [Bool.and_eq_true,decide_eq_true_eq,Bool.not_eq_true',ne_eq] at c
 obtain ⟨⟨⟨⟨⟨⟨c1,c2⟩,c3⟩,c4⟩,c5⟩,c6⟩,c7⟩:=c
 obtain ⟨rfl,w⟩:=mx (is:=[i1,i2,b,f]) e1 e2
 have val:∀ {i:Nat} {d:D},slot δ' i=some d→∃ v,σ[i]?=some (some v)∧Vw X.K F H v d:=fun e=>by
  obtain ⟨v0,U,R,g,o,_⟩:=s.st.zip (aL e)
  exact ⟨v0,g,_,o⟩
 obtain ⟨_,r1,t1⟩:=w 0 i1 rfl
 cases r1
 obtain ⟨_,r2,t2⟩:=w 1 i2 rfl
 cases r2
 obtain ⟨_,r3,t3⟩:=w 2 b rfl
 cases r3
 obtain ⟨_,r4,t4⟩:=w 3 f rfl
 cases r4
 obtain ⟨_,g1,w1⟩:=val t1
 cases w1.str
 obtain ⟨_,g2,w2⟩:=val t2
 cases w2.int
 obtain ⟨_,g3,w3⟩:=val t3
 cases w3.int
 obtain ⟨_,g4,w4⟩:=val t4
 cases w4.int
 have pv:∀ {i:Nat} {y:Str} {q:Pos} {v:V} {R:VK},nmB c i y=true∧i9 c y=true∧az y=true→σ[i]?=some (some v)→R v H→tW X (.Name y q) σ H R:=fun n g r=>by
  obtain ⟨d1,d2⟩:=aX n.2.2
  exact av (pe_var (ok.nm n.1) (ok.vis n.2.1) d1 d2) ⟨_,g,r⟩
 have sz:=sizeLine_eq
 refine rep_run ok hg c3 rfl rfl rfl O (pv P g1 ⟨x,rfl,pv Y g2 ⟨i,rfl,gM c1,c4,by omega,?_⟩⟩)
 refine av (pe_add ao ao) ?_
 refine pv Z g3 (pv n4 g4 ⟨u,v,rfl,rfl,u+v,rfl,gM c2,c6,c7,?_⟩)
 exact k.atom (.refl s) (.str _)
end
end Ev
namespace Ev
open PySem PySem.Spec PyProof.Rows L2
section
variable {C:Ctx} {X:Cx} {c:Cxt} {n m:Nat} {σ:L2.St} {δ δ':Dl} {F H:Hp} {W:Fp} {a:A} {Q:VK}
theorem FV (ih:SAs C n) (ok:XOk C X c) (e:c.cm=true) {b:Bi} {es:List E} {g:Str} {y:Expr} {ys:List Expr} {p0 pos:Pos} {as:List A} {ds:List D} {d:D} (nb:b.pl=true) (hg:g=biS b) (gl:glB c g=true) (q:mEs m c es (y::ys)=true) (a:noStar (y::ys)=true) (s:SOk X.K F H σ δ W)
  (r:aN C n es δ=some (as,δ')) (t:looks δ' as=some ds) (u:biD b ds=some d) (k:ah X F H W σ δ' (.tmp d) Q):tW X (.Call (.Name g p0) (y::ys) [] pos) σ H Q:=by
 subst hg
 obtain ⟨j,l,o,v⟩:=zL b nb
 have go:=ih ok q s r (Q:=fun vs H1=>cW X (biV b) vs H1 Q) fun vs F' H' W' Wt p h=>CH ok.units (ok.calm e) p.ok.sub nb u (h.looks p.ok t) (k.goes p)
 rcases v with ⟨id,f,i⟩ | ⟨id,f,i⟩
 ·rw [f] at go
  exact av (pe_callB qX (ok.gl gl) (ok.blt _ j) i (aw a) l o (aj _ a) (aq _ _ (ak a))) go
 ·rw [f] at go
  exact av (pe_callTy qX (ok.gl gl) (ok.blt _ j) i (aw a) l o (aj _ a) (aq _ _ (ak a))) go
theorem Ip {x:Expr} {ys:List Expr} {f:Expr} {ks:List Keyword} {pos:Pos}:noStar [.Call f ys ks pos]=true:=rfl
theorem xK (ih:SAs C n) (ok:XOk C X c) (g:c.cm=true) {es:List E} {y:Expr} {ys:List Expr} {p0 p1 p2 pos:Pos} {as:List A} {ds:List D} {d:D} (gl:glB c "list" = true) (l:glB c "range" = true) (o:mEs m c es (y::ys)=true) (z:noStar (y::ys)=true) (s:SOk X.K F H σ δ W)
  (B:aN C n es δ=some (as,δ')) (G:looks δ' as=some ds) (e:biD .lrange ds=some d) (k:ah X F H W σ δ' (.tmp d) Q):tW X (.Call (.Name "list" p0) [.Call (.Name "range" p1) (y::ys) [] p2] [] pos) σ H Q:=by
 have e:(match aQ ds with
  | some xs=>if decide (xs.length≤cap) then some (D.lst true xs) else none
  | none=>none)=some d:=e
 split at e
 ·rename_i items J
  split at e
  ·rename_i f
   cases e
   have f:=of_decide_eq_true f
   have go:=ih ok o s B (Q:=fun vs H1=>∃ a b c,RgA vs a b c∧Builtin.Range.small a b c=true∧Builtin.Range.rangeSize a b c=(items.length:Nat)∧∀ p,H1 p=none→Q (.ref p) (upd H1 p (.lst (p8 a c items.length)))) fun vs F' H' W' Wt p h=>by
    obtain ⟨a,b,c,r1,i,L,M⟩:=jR J (h.looks p.ok G) f
    refine ⟨a,b,c,r1,i,L,fun q N=>?_⟩
    refine (k.goes p).list p.ok.sub N ?_
    have:=nJ (K:=X.K) (F:=F') items.length a c
    rw [← M] at this
    exact this
   intro pins s0 I
   refine Call_ (ld_blt I (ok.gl gl) (ok.blt _ (by decide)) PyProof.Rows.boot_list (PyProof.Rows.callWith_type1 (args_cons (thn (iG (ok.gl l) (ok.blt _ (by decide)) z I (ax go fun vs H1 ⟨a,b,c,r1,i⟩=>⟨a,b,c,r1,i⟩)) fun x s1 ⟨r,a,b,c,t,u,v,H1,ex,O,j,sm,sz,q⟩=>args_nil ?_) rfl) rfl))
   subst ex
   have:=aJ
   refine call_list_range (n:=items.length) (j.ok.hd (ok.calm g)) O sm sz (Nat.le_trans f (by decide)) fun h' tk acc P hk R hi=>?_
   refine ⟨.ref s1.heap.objs.size,upd H1 s1.heap.objs.size (.lst (p8 a c items.length)),j.laid hk (Nat.le_refl _) (show ObjOk X.prog X.w _ _ _ (.lst (p8 a c items.length)) from ⟨?_,acc.toList,P,oK hi,?_⟩),rfl,q _ (j.hok.fresh (Nat.le_refl _))⟩
   ·rw [oM];omega
   ·rw [Array.toArray_toList];exact R
  ·cases e
 ·cases e
theorem wM (ih:SAs C n) (ok:XOk C X c) (i:c.cm=true) {es:List E} {y:Expr} {ys:List Expr} {p0 p1 p2 pos:Pos} {as:List A} {ds:List D} {d:D} (gl:glB c "tuple" = true) (B:glB c "range" = true) (G:mEs m c es (y::ys)=true) (J:noStar (y::ys)=true) (s:SOk X.K F H σ δ W)
  (L:aN C n es δ=some (as,δ')) (M:looks δ' as=some ds) (f:biD .trange ds=some d) (k:ah X F H W σ δ' (.tmp d) Q):tW X (.Call (.Name "tuple" p0) [.Call (.Name "range" p1) (y::ys) [] p2] [] pos) σ H Q:=by
 have f:(match aQ ds with
  | some xs=>if decide (xs.length≤cap) then some (D.tup xs) else none
  | none=>none)=some d:=f
 split at f
 ·rename_i items N
  split at f
  ·rename_i g
   cases f
   have g:=of_decide_eq_true g
   have go:=ih ok G s L (Q:=fun vs H1=>∃ a b c,RgA vs a b c∧Builtin.Range.small a b c=true∧Builtin.Range.rangeSize a b c=(items.length:Nat)∧∀ p,H1 p=none→Q (.ref p) (upd H1 p (.tup (p8 a c items.length)))) fun vs F' H' W' Wt p h=>by
    obtain ⟨a,b,c,r1,j,O,P⟩:=jR N (h.looks p.ok M) g
    refine ⟨a,b,c,r1,j,O,fun q R=>?_⟩
    refine (k.goes p).tuple p.ok.sub R ?_
    have:=nJ (K:=X.K) (F:=F') items.length a c
    rw [← P] at this
    exact this
   intro pins s0 I
   refine Call_ (ld_blt I (ok.gl gl) (ok.blt _ (by decide)) PyProof.Rows.boot_tuple (PyProof.Rows.callWith_type1 (args_cons (thn (iG (ok.gl B) (ok.blt _ (by decide)) J I (ax go fun vs H1 ⟨a,b,c,r1,j⟩=>⟨a,b,c,r1,j⟩)) fun x s1 ⟨r,a,b,c,t,u,v,H1,ex,V,l,sm,sz,q⟩=>args_nil ?_) rfl) rfl))
   subst ex
   have:=aJ
   refine call_tuple_range (n:=items.length) (l.ok.hd (ok.calm i)) V sm sz (Nat.le_trans g (by decide)) fun h' tk acc hk hi=>?_
   have z:Inv X pins σ H1 { s1 with heap:=h',toks:=tk }:=l.kept hk
   refine ⟨.ref h'.objs.size,upd H1 h'.objs.size (.tup (p8 a c items.length)),z.laid (t':=tk) (fun c o e=>Heap.get?_push_of_some _ e) (Nat.le_refl _) (show ObjOk X.prog X.w _ _ _ (.tup (p8 a c items.length)) from ⟨?_,acc.toList,oK hi,?_⟩),rfl,q _ (z.hok.fresh (Nat.le_refl _))⟩
   ·rw [oM];omega
   ·rw [Array.toArray_toList];exact IsTup.new _ _
  ·cases f
 ·cases f
theorem foldl_max (ms:List Int):∀ n:Int,ms.foldl max n=qu n ms:=by
 induction ms with
 | nil=>intro n;rfl
 | cons m ms ih =>
  intro n
  rw [List.foldl_cons,ih,qu]
  congr 1
  split<;>omega
theorem vL {ds:List D} {d:D} (e:biD .maxd ds=some d):∃ o xs z ns,ds=[.lst o xs,.int z]∧intsOf xs=some ns∧d=.int (match ns with
  | []=>z
  | n::ms=>qu n ms):=by
 rcases ds with _ | ⟨x,_ | ⟨y,_ | ⟨w,t⟩⟩⟩
 ·simp [biD] at e
 ·cases x<;>simp [biD] at e
 ·cases x<;>cases y<;>simp [biD] at e
  split at e
  ·rename_i h
   simp at e
   exact ⟨_,_,_,_,rfl,h,by rw [← e]⟩
  ·rename_i h
   simp at e
   exact ⟨_,_,_,_,rfl,h,by rw [← e]⟩
  ·cases e
 ·cases x<;>cases y<;>simp [biD] at e
theorem Ei (ih:SAs C n) (ok:XOk C X c) (b:c.cm=true) {es:List E} {y dx:Expr} {p0 kp pos:Pos} {as:List A} {ds:List D} {d:D} (gl:glB c "max" = true) (g:mEs m c es [y,dx]=true) (f:noStar [y]=true) (s:SOk X.K F H σ δ W)
  (i:aN C n es δ=some (as,δ')) (j:looks δ' as=some ds) (l:biD .maxd ds=some d) (k:ah X F H W σ δ' (.tmp d) Q):tW X (.Call (.Name "max" p0) [y] [⟨some "default",dx,kp⟩] pos) σ H Q:=by
 have go:=ih ok g s i (Q:=fun us H1=>∃ x z,us=[x,z]∧sV X.K [x] [z] H1 Q) fun vs F' H' W' Wt p h=>by
  have t:=h.looks p.ok j
  obtain ⟨o,xs,z,ns,rfl,ei,rfl⟩:=vL l
  obtain ⟨x,G,rfl,u,w⟩:=t.two
  cases w.int
  obtain ⟨a,rfl,B⟩:=u.ints p.ok.sub ei
  refine ⟨_,_,rfl,a,ns,z,rfl,rfl,SqL.of B,(fun e=>?_),fun I ms e=>?_⟩
  ·subst e
   exact (k.goes p).atom p.ok.sub (.int _)
  ·subst e
   rw [foldl_max]
   exact (k.goes p).atom p.ok.sub (.int _)
 have J:=ok.units
 have sp:=gW (xs:=[y]) (ys:=[dx]) go
 refine av (pe_callBK (uH (ok.calm b) (by omega)) (ok.gl gl) (ok.blt _ (by decide)) (by decide +kernel) (aw f) (sg (kws:=[⟨some "default",dx,kp⟩])) (by decide) (by decide +kernel) (by rw [aj _ f];rfl) (by rw [aj _ f];rfl) rfl rfl rfl) ?_
 refine ax sp fun vs H1 ⟨l1,q⟩=>ax q fun zs L ⟨l2,x,z,e,r⟩=>?_
 cases vs with
 | nil=>cases l1
 | cons v vs =>
  cases vs with
  | nil =>
   simp only [List.singleton_append,List.cons.injEq] at e
   obtain ⟨rfl,rfl⟩:=e
   exact r
  | cons=>simp at l1
theorem Jc (ih:SAs C n) (ok:XOk C X c) {b:Bi} {es:List E} {x:Expr} (hm:mE (m+1) c (.bi b es) x=true) (s:SOk X.K F H σ δ W) (he:evE C (n+1) (.bi b es) δ=some (a,δ')) (k:ah X F H W σ δ' a Q):tW X x σ H Q:=by
 unfold evE at he
 simp only at he
 split at he
 ·rename_i as δ1 o
  split at he
  ·rename_i ds p
   split at he
   ·rename_i d q
    cases he
    unfold mE at hm
    simp only at hm
    split at hm
    ·split at hm
     ·simp only [Bool.and_eq_true] at hm
      obtain ⟨⟨⟨⟨⟨⟨f,g⟩,h⟩,i⟩,j⟩,l⟩,e⟩:=hm
      cases au f
      cases au h
      exact xK ih ok e g i j l s o p q k
     ·cases hm
    ·split at hm
     ·simp only [Bool.and_eq_true] at hm
      obtain ⟨⟨⟨⟨⟨⟨f,g⟩,h⟩,i⟩,j⟩,l⟩,e⟩:=hm
      cases au f
      cases au h
      exact wM ih ok e g i j l s o p q k
     ·cases hm
    ·split at hm
     ·simp only [Bool.and_eq_true] at hm
      obtain ⟨⟨⟨⟨⟨f,g⟩,h⟩,i⟩,j⟩,e⟩:=hm
      cases au f
      cases au h
      exact Ei ih ok e g i j s o p q k
     ·cases hm
    ·split at hm
     ·simp only [Bool.and_eq_true] at hm
      obtain ⟨⟨⟨⟨⟨⟨f,g⟩,h⟩,i⟩,j⟩,l⟩,e⟩:=hm
      cases au f
      cases au h
      exact BL ih ok e g i j l s o p q k
     ·cases hm
    ·split at hm
     ·simp only [Bool.and_eq_true] at hm
      obtain ⟨⟨⟨⟨⟨⟨f,g⟩,h⟩,i⟩,j⟩,l⟩,e⟩:=hm
      cases au f
      cases au h
      exact Ec ih ok e g i j l s o p q k
     ·cases hm
    ·split at hm
     ·simp only [Bool.and_eq_true] at hm
      obtain ⟨⟨⟨⟨⟨f,g⟩,h⟩,i⟩,j⟩,l⟩:=hm
      cases au f
      cases au h
      exact Eg ih ok g i j l s o p q k
     ·cases hm
    ·split at hm
     ·simp only [Bool.and_eq_true] at hm
      obtain ⟨⟨⟨⟨f,g⟩,h⟩,i⟩,j⟩:=hm
      cases au f
      exact DC ih ok g h i j s o p q k
     ·cases hm
    ·split at hm
     ·simp only [Bool.and_eq_true] at hm
      obtain ⟨⟨⟨⟨⟨⟨f,g⟩,h⟩,i⟩,l⟩,j⟩,r⟩:=hm
      cases au f
      exact C6 ih ok g h i l j r s o p q k
     ·cases hm
    ·split at hm
     ·simp only [Bool.and_eq_true] at hm
      obtain ⟨⟨⟨⟨⟨⟨⟨⟨⟨⟨⟨⟨⟨⟨⟨⟨⟨f,g⟩,h⟩,i⟩,j⟩,l⟩,t⟩,v1⟩,d1⟩,u⟩,v2⟩,d2⟩,v⟩,w⟩,d3⟩,y⟩,v4⟩,d4⟩:=hm
      cases au f
      cases au g
      cases au h
      cases au j
      exact BD ok i l ⟨t,v1,d1⟩ ⟨u,v2,d2⟩ ⟨v,w,d3⟩ ⟨y,v4,d4⟩ s o p q k
     ·cases hm
    ·split at hm
     ·exact BF ih ok hm s o p q k
     ·cases hm
    ·rename_i nb1 nb2 nb3 nb4 nb4b nb5 nb7 nb8 nb9 nb6
     split at hm
     ·simp only [Bool.and_eq_true] at hm
      obtain ⟨⟨⟨⟨f,g⟩,h⟩,i⟩,e⟩:=hm
      exact FV ih ok e (by cases b<;>first | rfl | exact absurd rfl nb1 | exact absurd rfl nb2 | exact absurd rfl nb3 | exact absurd rfl nb4 | exact absurd rfl nb4b | exact absurd rfl nb5 | exact absurd rfl nb6 | exact absurd rfl (nb7 _) | exact absurd rfl (nb8 _) | exact absurd rfl (nb9 _)) (au f) g h i s o p q k
     ·cases hm
   ·cases he
  ·cases he
 ·cases he
theorem Ag (t:Ty):tyS t∈vy∧bootBuiltins (tyS t)=some (.type (tyN t))∧tyS t≠"__name__" ∧ (tyS t==("__debug__" : Str))=false:=by
 cases t<;>exact ⟨by decide,by decide +kernel,by decide +kernel,by decide +kernel⟩
theorem Bw (ok:XOk C X c) {t:Ty} {x:Expr} (h:mTy c t x=true) (q:Q (.ty (tyN t)) H):tW X x σ H Q:=by
 unfold mTy at h
 split at h
 ·rw [Bool.and_eq_true] at h
  cases au h.1
  obtain ⟨a,b,d,e⟩:=Ag t
  exact av (pe_bltn (v:=.ty (tyN t)) (ok.gl h.2) (ok.blt _ a) b rfl d e) q
 ·cases h
theorem yg (ok:XOk C X c):∀ {ts:List Ty} {xs:List Expr} {Q:List V→Hp→Prop},vB c ts xs=true→Q (ts.map fun t=>V.ty (tyN t)) H→bQ X xs σ H Q
 | [],[],_,_,q=>q
 | [],_::_,_,h,_=>by simp [vB] at h
 | _::_,[],_,h,_=>by simp [vB] at h
 | t::ts,x::xs,Q,h,q=>by
  simp only [vB,Bool.and_eq_true] at h
  exact Bw ok h.1 (yg ok h.2 q)
theorem Vw.upd {K:Frag} {v:V} {d:D} {p:Addr} {o:HO} (h:Vw K F H v d) (c:H p=none):Vw K F (upd H p o) v d:=by
 obtain ⟨W,h⟩:=h
 exact ⟨W,h.keep (fun _ _ q=>q) fun b _ z a f=>⟨by rw [upd_ne (ne_of_none a c)];exact a,f⟩⟩
theorem Hf (ih:SE C n) (ok:XOk C X c) {j:E} {ts:List Ty} {x:Expr} (hm:mE (m+1) c (.isi j ts) x=true) (s:SOk X.K F H σ δ W) (he:evE C (n+1) (.isi j ts) δ=some (a,δ')) (k:ah X F H W σ δ' a Q):tW X x σ H Q:=by
 unfold mE at hm
 simp only at hm
 split at hm
 ·rename_i g p0 y t pos
  simp only [Bool.and_eq_true] at hm
  obtain ⟨⟨⟨⟨⟨w,B⟩,G⟩,l⟩,I⟩,i⟩:=hm
  cases au w
  unfold evE at he
  simp only at he
  split at he
  ·rename_i v0 δ1 j
   split at he
   ·rename_i d J
    split at he
    ·cases he
    rename_i no
    have no:isObj d=false:=by simpa using no
    cases he
    refine av (pe_callB (qX (f:=.builtin "isinstance")) (ok.gl B) (ok.blt _ (by decide)) PyProof.Rows.boot_isinstance (aw l) (by decide +kernel) (by decide +kernel) (aj _ l) (aq _ _ (ak l))) ?_
    refine ih ok G s j fun v F' H' W' Wt p h=>?_
    have u:=h.look p.ok J
    show tW X t σ H' fun z H1=>cW X (.builtin "isinstance") [v,z] H1 Q
    split at i
    ·rename_i xs L tp
     rw [Bool.and_eq_true] at i
     have hlen:ts.length≤sizeLine:=by
      have:=of_decide_eq_true I
      have:=aJ
      have:(10:Nat)≤cap:=by decide
      omega
     refine av (pe_tup (aw i.2)) (yg ok i.1 ⟨by rw [List.length_map];exact hlen,fun q r=>?_⟩)
     refine xu (ts:=ts) (F:=F') (fun b o e=>?_) (u.upd r) no upd_same ?_
     ·rw [upd_ne (ne_of_none (p.ok.sub b o e) r)]
      exact p.ok.sub b o e
     ·exact k _ _ _ _ _ (p.vp (New.tuple p.ok.sub r)) (.tmp (.frz (.bl _)))
    ·cases ts with
     | nil=>simp [vB] at i
     | cons t0 ts =>
      cases ts with
      | cons _ _=>simp [vB] at i
      | nil =>
       simp only [vB,Bool.and_eq_true] at i
       refine Bw ok i.1 (Ah p.ok.sub u no ?_)
       exact k _ _ _ _ _ p.drop (.tmp (.frz (by rw [show [t0].any (eR d)=eR d t0 by simp];exact .bl _)))
   ·cases he
  ·cases he
 ·cases hm
end
end Ev
namespace Ev
open PySem PySem.Spec PyProof.Rows L2
section
variable {C:Ctx} {X:Cx} {c:Cxt} {n m:Nat} {σ:L2.St} {δ δ':Dl} {F H F0 H0:Hp} {W W0:Fp} {a:A} {Q:VK}
theorem jQ {K:Frag} {x:Dl} {Wt:Fp} {v0 v:V} {i:Nat} {p:List Nat} {d1:D} {xs:List D} (q:aB K F0 H0 W0 F H σ δ W Wt) (es:slot δ i=some d1) (I:d1.at p=some (.lst true xs)) (J:σ[i]?=some (some v0)) (pt:bD H v0 p v) :
  ∃ ad vs U,v=.ref ad∧H ad=some (.lst vs)∧OwL K F H vs xs U∧Dj U Wt ∧
   ∀ {f:D→Option D} {vs':List V} {ds':List D},OwL K F H vs' ds' (Un2 U Wt)→f (.lst true xs)=some (.lst true ds')→bN δ i p f=some x→∃ W',aB K F0 H0 W0 F (upd H ad (.lst vs')) σ x W' No:=by
 obtain ⟨L,l,R,g,o0,s1,s2,M,st,z0⟩:=q.ok.st.zip (aL es)
 rw [J] at g
 cases g
 obtain ⟨v',z,m,o1,s3,z1⟩:=o0.zip I
 cases pt.uniq m
 cases o1 with
 | frz r=>cases r
 | @own ad vs _ _ U2 N B k O P C =>
  refine ⟨ad,vs,U2,rfl,N,O,fun b y t=>q.dj b t (s1 b (s3 b (C b y))),fun {f vs' ds'} o Q d=>?_⟩
  have G:W ad:=s1 _ (s3 _ k)
  have X:¬ Wt ad:=fun t=>q.dj _ t G
  have h:¬ Un2 U2 Wt ad:=fun t=>t.elim P X
  have a:∀ b,b≠ad→upd H ad (.lst vs') b=H b:=fun b n=>upd_ne n
  have j:Ow K F (upd H ad (.lst vs')) (.ref ad) (.lst true ds') (Un2 z Wt):=by
   refine .own (U:=Un2 U2 Wt) upd_same B (.inl k) (o.keep (fun _ _ e=>e) fun b y ob e f=>⟨?_,f⟩) h fun b y=>y.imp (C b) id
   rw [a b (fun c=>h (c▸y))]
   exact e
  unfold bN at d
  rw [es] at d
  simp only at d
  split at d
  ·rename_i s e0
   cases d
   have k1:Kept F H F (upd H ad (.lst vs')) l z:=fun b y n ob e f=>⟨by rw [a b (fun c=>n (c▸k))];exact e,f⟩
   have w:Ow K F (upd H ad (.lst vs')) v0 s (Un2 l Wt):=z1 (fun _ _ e=>e) j k1 (fun b y=>y.imp id fun t=>fun u=>q.dj b t (s1 b u)) (fun b y=>.inl y) (fun b y=>y.imp (s3 b) id) Q e0
   have k0:Kept F H F (upd H ad (.lst vs')) W l:=fun b y n ob e f=>⟨by rw [a b (fun c=>n (c▸s3 _ k))];exact e,f⟩
   have stN:=z0 (fun _ _ e=>e) w k0 (fun b y=>y.imp id fun t=>q.dj b t) (W':=Un2 W Wt) (fun b y=>.inl y) fun b y=>y.imp (s1 b) id
   have lv:∀ b,H b≠none→upd H ad (.lst vs') b≠none:=fun b y=>by
    by_cases e:b=ad
    ·rw [e,upd_same];simp
    ·rw [a b e];exact y
   refine ⟨Un2 W Wt,⟨fun b ob e=>?_,stN,fun b y=>?_⟩,fun _ y=>y.elim,fun _ y=>y.elim,?_⟩
   ·rw [a b (fun c=>by rw [c,B] at e;cases e)]
    exact q.ok.sub b ob e
   ·rcases y with y | y
    ·exact lv b (q.ok.lv b y)
    ·exact lv b (q.lt b y)
   ·refine q.ext.trans ⟨fun _ _ e=>e,fun b ob e=>.inl e,fun b ob e n=>?_,fun b e=>?_,fun b y=>?_⟩
    ·rw [a b (fun c=>n (.inr (c▸G)))]
     exact e
    ·by_cases c:b=ad
     ·rw [c,upd_same] at e;cases e
     ·rw [a b c] at e;exact e
    ·rcases y with y | y | y
     ·exact y.elim
     ·exact .inl (.inr y)
     ·exact .inl (.inl y)
  ·cases d
theorem bD.keep {K:Frag} {H':Hp}:∀ {p:List Nat} {v0 v:V} {d0 d:D} {U:Fp},Ow K F H v0 d0 U→d0.at p=some d→bD H v0 p v→(∀ b,U b→∀ o,H b=some o→F b=none→H' b=some o)→bD H' v0 p v
 | [],v0,v,d0,d,U,o,e,q,k=>q
 | j::p,v0,v,d0,d,U,o,e,⟨a,vs,v1,ev,c,g,q⟩,k=>by
  cases d0 with
  | lst h ds =>
   cases h with
   | true =>
    cases o with
    | frz r=>cases r
    | own h1' i l m t n =>
     cases ev
     rw [c] at h1'
     cases h1'
     simp only [D.at] at e
     split at e
     ·rename_i x ex
      obtain ⟨s,u,f,o1,s1⟩:=m.get ex
      rw [g] at f
      cases f
      exact ⟨a,vs,v1,rfl,k a l _ c i,g,bD.keep o1 e q fun b y=>k b (n b (s1 b y))⟩
     ·cases e
   | false=>simp [D.at] at e
  | _=>simp [D.at] at e
theorem vQ (mt:Me):Slot "list" (meS mt) (meN mt)∧typeOf (.builtin (meN mt))=pure (.type "method_descriptor"):=by
 cases mt
 ·exact ⟨PySem.F.slot_list_append,PySem.F.type_list_append⟩
 ·exact ⟨PySem.F.slot_list_pop,PySem.F.type_list_pop⟩
 ·exact ⟨PySem.F.slot_list_pop,PySem.F.type_list_pop⟩
 ·exact ⟨PySem.F.slot_list_extend,PySem.F.type_list_extend⟩
 ·exact ⟨PySem.F.slot_list_remove,PySem.F.type_list_remove⟩
 ·exact ⟨PySem.F.slot_list_index,PySem.F.type_list_index⟩
 ·exact ⟨PySem.F.slot_list_reverse,PySem.F.type_list_reverse⟩
theorem mq {y:Expr} (h:p6 y=true) (nm:Str) (env:Env):attributeBase y nm env (eval y env)=eval y env:=by
 cases y with
 | Call f as ks p =>
  cases f with
  | Name g q =>
   cases as with
   | nil =>
    cases ks with
    | nil=>simp [p6] at h
    | cons _ _=>rfl
   | cons _ _=>cases ks<;>rfl
  | _=>cases as<;>cases ks<;>rfl
 | _=>rfl
theorem call_meth (mt:Me) {y:Expr} {xs:List Expr} {apos cpos:Pos} (a:noStar xs=true) (b:p6 y=true) (c:(apos.endLine==cpos.line)=true) (d:xs.length<20)
  (q:tW X y σ H fun x H1=>tyV X.K "list" x H1∧bQ X xs σ H1 fun vs e=>mW X (meN mt) x vs e Q):tW X (.Call (.Attribute y (meS mt) apos) xs [] cpos) σ H Q:=by
 obtain ⟨f1,f2⟩:=vQ mt
 cases xs with
 | nil=>exact av (pe_bm0 PySem.F.plainAttrs_list f1 f2 Dh ao (mq b _ _) c) q
 | cons z zs=>exact av (pe_bm PySem.F.plainAttrs_list f1 f2 Dh ao (aw a) (mq b _ _) (Ob.jf _ _ a d) c (aj _ a) (aq _ _ (ak a))) q
theorem oS {mt:Me} {a:Dl} {Wt:Fp} {v0 v:V} {ws:List V} {i:Nat} {p:List Nat} {d1 d d' r:D} {ds:List D} (q:aB X.K F0 H0 W0 F H σ δ W Wt) (o:OwL X.K F H ws ds Wt) (es:slot δ i=some d1) (b:d1.at p=some d) (c:σ[i]?=some (some v0)) (pt:bD H v0 p v)
  (em:uA mt d ds=some (r,d')) (g:bN δ i p (fun _=>some d')=some a) (k:ah X F0 H0 W0 σ a (.tmp r) Q):mW X (meN mt) v ws H Q:=by
 have:∃ xs,d=.lst true xs:=by
  unfold uA at em
  split at em<;>first | exact ⟨_,rfl⟩ | cases em
 obtain ⟨xs,rfl⟩:=this
 obtain ⟨ad,vs,U,rfl,h,j,dj,fin⟩:=jQ q es b c pt
 refine meth_ok q.ok.sub em h j o dj fun n vs' ds' e l o'=>?_
 subst e
 obtain ⟨W',m⟩:=fin (f:=fun _=>some (.lst true ds')) o' rfl g
 exact k _ _ _ _ _ m (.tmp (.frz l))
theorem rq {K:Frag} {x:V} {o:Bool} {xs:List D} (s:Same F H) (h:Vw K F H x (.lst o xs)):tyV K "list" x H:=by
 obtain ⟨a,vs,rfl,b,_⟩:=h.lst s
 exact .inl ⟨rfl,vs,SqL.of b⟩
theorem at_list {K:Frag} {d a:D} {p:List Nat} {v0 v:V} {U:Fp} (s:Same F H) (o:Ow K F H v0 d U) (e:d.at p=some a) (pt:bD H v0 p v):Vw K F H v a:=by
 obtain ⟨v',U',q,o',_⟩:=o.at e
 cases pt.uniq q
 exact ⟨_,o'⟩
theorem DQ {id:String} {r:V→List V→Hp→VK→Prop} {x:V} {xs:List V} (h:MtR X id r) (q:r x xs H Q):mW X id x xs H Q:=fun pins s σ v us I a rs=>h pins s σ H x xs v us Q I a rs q
theorem vg {ns:List Int}:(ns.map V.int).all flatV=true:=by
 induction ns with
 | nil=>rfl
 | cons n ns ih=>rw [List.map_cons,List.all_cons,ih];rfl
theorem y9 (g:SE C n) (ih:SAs C n) (ok:XOk C X c) {o:E} {es:List E} {x:Expr} (hm:mE (m+1) c (.meth .index o es) x=true) (s:SOk X.K F H σ δ W) (he:evE C (n+1) (.meth .index o es) δ=some (a,δ')) (k:ah X F H W σ δ' a Q):tW X x σ H Q:=by
 unfold mE at hm
 simp only at hm
 split at hm
 ·rename_i y nm apos xs cpos
  simp only [Bool.and_eq_true] at hm
  obtain ⟨⟨⟨⟨⟨⟨G,I⟩,J⟩,L⟩,M⟩,N⟩,O⟩:=hm
  cases au G
  unfold evE at he
  simp only at he
  split at he
  ·rename_i v0 δ1 P
   split at he
   ·rename_i cc
    rw [Bool.and_eq_true] at cc
    split at he
    ·rename_i as δ2 R
     split at he
     ·rename_i d ds V Y
      split at he
      ·rename_i r f
       cases he
       refine call_meth .index L M N (of_decide_eq_true O) (g ok I s P fun v F1 H1 W1 Wt p u=>⟨?_,?_⟩)
       ·have c2:=cc.2
        unfold uD at c2
        split at c2
        ·rename_i e0
         exact rq p.ok.sub (u.look p.ok e0)
        ·cases c2
       ·refine ih ok J p.ok R fun vs F2 H2 W2 Wu q Z=>?_
        have h:=u.ext (δ':=δ) (Wu:=No) q.ext p.dj cc.1
        have sx:=h.look q.ok V
        have lx:=Z.looks q.ok Y
        unfold Cr at f
        split at f
        ·rename_i o1 ys i hi
         split at f
         ·rename_i ns en
          split at f
          ·rename_i j ej
           cases f
           obtain ⟨z,rfl,hz⟩:=lx.one
           cases hz.int
           obtain ⟨ad,rfl,ha⟩:=sx.ints q.ok.sub en
           obtain ⟨g1,g2⟩:=g9 i ej
           refine DQ mt_index ⟨ad,_,.int i,j,.int i,rfl,rfl,SqL.of ha,rfl,vg,by rw [List.getElem?_map,g1];rfl,by simp [eqV],fun B z' l b=>?_,k.atom (p.aA q) (.int _)⟩
           rw [List.getElem?_map] at b
           cases t:ns[B]? with
           | none=>rw [t] at b;cases b
           | some w =>
            rw [t] at b
            cases b
            have:=g2 B l
            rw [t] at this
            have:w≠i:=fun e=>this (by rw [e])
            simp [eqV,this]
          ·cases f
         ·cases f
        ·cases f
      ·cases he
     ·cases he
    ·cases he
   ·cases he
  ·cases he
 ·cases hm
theorem v8 {o:Option D} (h:uD o=true):∃ b xs,o=some (.lst b xs):=by
 unfold uD at h
 split at h
 ·exact ⟨_,_,rfl⟩
 ·cases h
theorem yR (B:SE C n) (ih:SAs C n) (ok:XOk C X c) {mt:Me} {o:E} {es:List E} {x:Expr} (hm:mE (m+1) c (.meth mt o es) x=true) (s:SOk X.K F H σ δ W) (he:yW mt (aN C n es) (evE C n o δ)=some (a,δ')) (k:ah X F H W σ δ' a Q):tW X x σ H Q:=by
 unfold mE at hm
 simp only at hm
 split at hm
 ·rename_i y nm apos xs cpos
  simp only [Bool.and_eq_true] at hm
  obtain ⟨⟨⟨⟨⟨⟨h1,h2⟩,L⟩,h4⟩,h5⟩,h6⟩,h7⟩:=hm
  cases au h1
  unfold yW at he
  split at he
  ·rename_i sl pp δ1 e1
   split at he
   ·rename_i d0 e0
    split at he
    ·rename_i cl
     obtain ⟨ob,aa,M⟩:=v8 cl
     split at he
     ·rename_i as δ2 i
      split at he
      ·rename_i ds δ3 N
       split at he
       ·rename_i d1 j
        split at he
        ·rename_i d O
         split at he
         ·rename_i r d' P
          split at he
          ·rename_i δ4 e7
           cases he
           refine call_meth mt h4 h5 h6 (of_decide_eq_true h7) (B ok h2 s e1 fun v F1 H1 W1 Wt p hv=>?_)
           cases hv with
           | @bor v0 _ _ _ _ l pt =>
            obtain ⟨ab,U,R,g,o0,s1,s2,e,st,_⟩:=p.ok.st.zip (aL e0)
            rw [l] at g
            cases g
            refine ⟨rq p.ok.sub (at_list p.ok.sub o0 M pt),?_⟩
            cases pp with
            | nil =>
             simp only [List.isEmpty_nil,if_true] at i j e7
             refine ih ok L p.ok i fun vs F2 V W2 Wu q G=>?_
             obtain ⟨Y,q2,I⟩:=(p.aA q).bL G N
             exact oS q2 I j O l (by cases pt;rfl) P e7 k
            | cons k0 pp =>
             simp only [List.isEmpty_cons,Bool.false_eq_true,if_false] at i j e7
             have Z:aB X.K F H W F1 H1 σ (δ1.set sl none) R U:=by
              refine ⟨⟨p.ok.sub,st,fun b z=>p.ok.lv b (s2 b z)⟩,e,fun b z=>p.ok.lv b (s1 b z),p.ext.mono (fun _ z=>z) fun b z=>.inl ?_⟩
              rcases z with z | z
              ·exact .inr (s1 b z)
              ·exact .inr (s2 b z)
             refine ih ok L Z.ok i fun vs F2 V W2 Wu q G=>?_
             obtain ⟨Y,w,I⟩:=q.bL G N
             obtain ⟨dj,h⟩:=Z.dF w
             have o1:=o0.ext w.ext e
             have J:=bD.keep o0 M pt fun b u ob a f=>(w.ext.apart e b u ob a f).1
             have q5:aB X.K F H W Y V σ (δ3.set sl (some d0)) (Un2 U W2) Wu:=by
              refine ⟨⟨h.ok.sub,h.ok.st.back l o1 (fun b z t=>dj b z (.inr t)) (fun b z=>.inr z) fun b z=>.inl z,fun b z=>?_⟩,fun b z t=>?_,fun b z=>h.lt b (.inr z),h.ext.mono (fun _ z=>z) fun b z=>.inl ?_⟩
              ·rcases z with z | z
               ·exact h.lt b (.inl z)
               ·exact h.ok.lv b z
              ·rcases t with t | t
               ·exact dj b t (.inl z)
               ·exact w.dj b z t
              ·rcases z with z | z | z
               ·exact .inl (.inr z)
               ·exact .inl (.inl z)
               ·exact .inr z
             exact oS q5 I j O l J P e7 k
          ·cases he
         ·cases he
        ·cases he
       ·cases he
      ·cases he
     ·cases he
    ·cases he
   ·cases he
  ·cases he
 ·cases hm
theorem DA (b:SE C n) (ih:SAs C n) (ok:XOk C X c) {mt:Me} {o:E} {es:List E} {x:Expr} (hm:mE (m+1) c (.meth mt o es) x=true) (s:SOk X.K F H σ δ W) (he:evE C (n+1) (.meth mt o es) δ=some (a,δ')) (k:ah X F H W σ δ' a Q):tW X x σ H Q:=by
 cases mt with
 | index=>exact y9 b ih ok hm s he k
 | _=>exact yR b ih ok hm s he k
end
end Ev
namespace Ev
open PySem PySem.Spec PyProof.Rows L2
section
variable {K:Frag} {F0 H0 F H:Hp} {W0 W Wt:Fp} {σ:L2.St} {δ:Dl}
theorem RpL.set:∀ {vs:List V} {ds:List D} {v:V} {d:D} (j:Nat),RpL K F vs ds→Rp K F v d→RpL K F (vs.set j v) (ds.set j d)
 | _,_,_,_,_,.nil,_=>by simpa using RpL.nil
 | _,_,_,_,0,.cons _ t,r=>by simpa using RpL.cons r t
 | _,_,_,_,j+1,.cons h t,r=>by simpa using RpL.cons h (RpL.set j t r)
theorem Az {vs:List V} {j:Nat} {y:V} (h:j<vs.length):SlX.putS j y (vs.map some)=(vs.set j y).map some:=by
 unfold SlX.putS
 rw [List.length_map,show j+1-vs.length=0 by omega]
 simp [List.map_set]
theorem mr {v0:V} {i:Nat} {cn:Str} {xs:List D} {j:Nat} {y:V} {d:D} (q:aB K F0 H0 W0 F H σ δ W Wt) (es:slot δ i=some (.mob cn xs)) (x:σ[i]?=some (some v0)) (B:j<xs.length) (r:Rp K F y d) :
  ∃ (a C dx:Addr) (vs:List V),v0=.ref a∧nsIn K mainGlobals cn=some (some (.ref C))∧SlX.Slt H a C dx (vs.map some)∧∃ W',aB K F0 H0 W0 F (SlX.slH H a C dx (SlX.putS j y (vs.map some))) σ (δ.set i (some (.mob cn (xs.set j d)))) W' No:=by
 obtain ⟨G,w,R,g,o0,s1,s2,I,st,z0⟩:=q.ok.st.zip (aL es)
 rw [x] at g
 cases g
 cases o0 with
 | frz r=>cases r
 | @mob a C dx _ vs _ _ n h hd ne e f1 f2 u v l =>
  have J:j<vs.length:=by rw [l.length];exact B
  refine ⟨a,C,dx,vs,rfl,n,.inr ⟨h,hd⟩,?_⟩
  rw [Az J]
  have L:W a:=s1 _ u
  have M:W dx:=s1 _ v
  have c:∀ b,b≠a→b≠dx→SlX.slH H a C dx ((vs.set j y).map some) b=H b:=fun b N O=>SlX.slH_ne N O
  have m:SlX.slH H a C dx ((vs.set j y).map some) a=some (SlX.SlO a C dx ((vs.set j y).map some)):=upd_same
  have o:SlX.slH H a C dx ((vs.set j y).map some) dx=some (.xd []):=by
   unfold SlX.slH
   rw [upd_ne ne,upd_same]
  generalize SlX.slH H a C dx ((vs.set j y).map some)=H' at *
  have p:Ow K F H' (.ref a) (.mob cn (xs.set j d)) w:=.mob n m o ne (by intro z;have:=congrArg List.length z;simp at this;exact e (List.eq_nil_of_length_eq_zero (by simpa using this))) f1 f2 u v (l.set j r)
  have k0:Kept F H F H' W w:=fun b y n ob e f=>⟨by rw [c b (fun k=>n (k▸u)) (fun k=>n (k▸v))];exact e,f⟩
  have stN:=z0 (fun _ _ e=>e) p k0 (fun b y=>.inl y) (W':=Un2 W Wt) (fun b y=>.inl y) fun b y=>.inl (s1 b y)
  have lv:∀ b,H b≠none→H' b≠none:=fun b y=>by
   by_cases s:b=a
   ·rw [s,m];simp
   ·by_cases t:b=dx
    ·rw [t,o];simp
    ·rw [c b s t];exact y
  refine ⟨Un2 W Wt,⟨fun b ob e=>?_,stN,fun b y=>?_⟩,fun _ y=>y.elim,fun _ y=>y.elim,?_⟩
  ·rw [c b (fun k=>by rw [k,f1] at e;cases e) (fun k=>by rw [k,f2] at e;cases e)]
   exact q.ok.sub b ob e
  ·rcases y with y | y
   ·exact lv b (q.ok.lv b y)
   ·exact lv b (q.lt b y)
  ·refine q.ext.trans ⟨fun _ _ e=>e,fun b ob e=>.inl e,fun b ob e n=>?_,fun b e=>?_,fun b y=>?_⟩
   ·rw [c b (fun k=>n (.inr (k▸L))) (fun k=>n (.inr (k▸M)))]
    exact e
   ·by_cases s:b=a
    ·rw [s,m] at e;cases e
    ·by_cases t:b=dx
     ·rw [t,o] at e;cases e
     ·rw [c b s t] at e;exact e
   ·rcases y with y | y | y
    ·exact y.elim
    ·exact .inl (.inr y)
    ·exact .inl (.inl y)
end
end Ev
namespace Ev
open PySem PySem.Spec PyProof.Rows L2
section
variable {K:Frag} {F H F0 H0:Hp} {W W0:Fp} {σ:L2.St} {δ:Dl}
theorem StL.clear:∀ {σ:L2.St} {δ:Dl} {W:Fp} (i:Nat),StL K F H σ δ W→StL K F H (σ.set i none) (δ.set i none) W
 | _,_,_,_,.nil=>.nil
 | _,_,_,0,.gap h=>.gap h
 | _,_,_,i+1,.gap h=>.gap (StL.clear i h)
 | _,_,_,0,.one _ a _ _ b=>.gap (a.weak b)
 | _,_,_,i+1,.one c a d e b=>.one c (StL.clear i a) d e b
theorem StL.mX:∀ {σ:L2.St} {δ:Dl} {W:Fp} (i:Nat),StL K F H (σ.set i none) δ W→StL K F H σ δ W
 | [],_,_,i,h=>by simpa using h
 | _::_,_,_,0,h=>by
  cases h with
  | gap h=>exact .gap h
 | x::σ,_,_,i+1,h=>by
  simp only [List.set_cons_succ] at h
  cases h with
  | gap h=>exact .gap (StL.mX i h)
  | one a b c d e=>exact .one a (StL.mX i b) c d e
theorem StL.iK (h:StL K F H σ δ W):∀ own:List Nat,StL K F H (wipe σ own) (aY δ own) W
 | []=>h
 | v::vs=>(h.iK vs).clear v
theorem StL.fN:∀ {own:List Nat} {δ:Dl} {W:Fp},StL K F H (wipe σ own) δ W→StL K F H σ δ W
 | [],_,_,h=>h
 | v::vs,_,_,h=>StL.fN (own:=vs) (h.mX v)
theorem dV (σ:L2.St):∀ (own:List Nat) (i:Nat),(wipe σ own)[i]?=if i∈own then (if i<σ.length then some none else none) else σ[i]?
 | [],i=>by simp [wipe]
 | v::vs,i=>by
  unfold wipe
  by_cases h:v=i
  ·subst h
   rw [if_pos List.mem_cons_self]
   by_cases l:v<σ.length
   ·rw [if_pos l,List.getElem?_set_self (by rw [wipe_length];exact l)]
   ·rw [if_neg l,List.getElem?_eq_none (by rw [List.length_set,wipe_length];omega)]
  ·rw [List.getElem?_set_ne h,dV σ vs i]
   have:(i∈v::vs) ↔ i∈vs:=by
    simp only [List.mem_cons]
    exact ⟨fun q=>q.elim (fun e=>absurd e.symm h) id,.inr⟩
   simp only [this]
theorem fS {own is:List Nat} {σ a:L2.St} (h:j6 is (wipe σ own) a) (s:∀ i∈is,i∈own):wipe a own=wipe σ own:=by
 have b:a.length=σ.length:=by rw [h.1,wipe_length]
 refine List.ext_getElem? fun i=>?_
 rw [dV,dV]
 by_cases hi:i∈own
 ·rw [if_pos hi,if_pos hi,b]
 ·rw [if_neg hi,if_neg hi,h.2 i fun q=>hi (s i q),dV,if_neg hi]
theorem aB.state {a:L2.St} {δ':Dl} {Wt:Fp} (p:aB K F0 H0 W0 F H σ δ W Wt) (h:StL K F H a δ' W):aB K F0 H0 W0 F H a δ' W Wt:=⟨⟨p.ok.sub,h,p.ok.lv⟩,p.dj,p.lt,p.ext⟩
theorem kK {δ1:Dl}:∀ {own:List Nat} {δ:Dl},StL K F H σ δ W→(∀ v∈own,∀ d,δ1[v]?=some (some d)→∃ x,σ[v]?=some (some x)∧Rp K F x d)→StL K F H σ (gh δ1 δ own) W
 | [],_,h,_=>h
 | v::vs,δ,h,k=>by
  have ih:=kK (own:=vs) h fun u a=>k u (List.mem_cons_of_mem _ a)
  unfold gh
  split
  ·rename_i x ex
   cases x with
   | none=>exact ih.drop v
   | some d =>
    obtain ⟨z,g,r⟩:=k v List.mem_cons_self d ex
    exact ih.back g (.frz (W:=No) r) (fun _ q=>q.elim) (fun _ q=>q) fun _ q=>q.elim
  ·exact ih.drop v
theorem eY:∀ {own:List Nat} {δ:Dl},cH δ own=true→∀ v∈own,∀ d,δ[v]?=some (some d)→d.fz=true
 | u::us,δ,h,v,b,d,e=>by
  unfold cH at h
  rw [Bool.and_eq_true] at h
  rcases List.mem_cons.mp b with q | q
  ·subst q
   have a:=h.1
   rw [slot_of e] at a
   exact a
  ·exact eY h.2 v q d e
theorem aB.push {g c:Fp} {ad:Addr} {acc:List D} {y:V} {d:D} (p:aB K F0 H0 W0 F H σ δ W (Un2 g c)) (h0:H0 ad=none) (o:Ow K F H (.ref ad) (.lst true acc) g) (u:Ow K F H y d c) (dj:Dj g c) :
  ∃ vs,H ad=some (.lst vs)∧vs.length=acc.length∧aB K F0 H0 W0 F (upd H ad (.lst (vs++[y]))) σ δ W (Un2 g c)∧Ow K F (upd H ad (.lst (vs++[y]))) (.ref ad) (.lst true (acc++[d])) (Un2 g c):=by
 cases o with
 | frz r=>cases r
 | @own _ vs _ _ U v j i k l m =>
  have a:∀ b,b≠ad→upd H ad (.lst (vs++[y])) b=H b:=fun b n=>upd_ne n
  have w:¬ W ad:=fun t=>p.dj _ (.inl i) t
  have s:¬ c ad:=fun t=>dj _ i t
  have lv:∀ b,H b≠none→upd H ad (.lst (vs++[y])) b≠none:=fun b y=>by
   by_cases e:b=ad
   ·rw [e,upd_same];simp
   ·rw [a b e];exact y
  have keep:∀ b,b≠ad→∀ ob,H b=some ob→F b=none→upd H ad (.lst (vs++[y])) b=some ob∧F b=none:=fun b n ob e f=>⟨by rw [a b n];exact e,f⟩
  refine ⟨vs,v,k.length,⟨⟨fun b ob e=>?_,p.ok.st.keep (fun _ _ e=>e) fun b q=>keep b (fun e=>w (e▸q)),fun b q=>lv b (p.ok.lv b q)⟩,p.dj,fun b q=>lv b (p.lt b q),?_⟩,?_⟩
  ·rw [a b (fun h=>by rw [h,j] at e;cases e)]
   exact p.ok.sub b ob e
  ·refine ⟨p.ext.fsub,p.ext.fnew,fun b ob e n=>?_,fun b e=>?_,p.ext.wnew⟩
   ·rw [a b (ne_of_none e h0)]
    exact p.ext.keep b ob e n
   ·by_cases h:b=ad
    ·rw [h];exact h0
    ·rw [a b h] at e;exact p.ext.live b e
  ·have l1:=k.keep (F':=F) (H':=upd H ad (.lst (vs++[y]))) (fun _ _ e=>e) fun b q=>keep b (fun e=>l (e▸q))
   have l2:=u.keep (F':=F) (H':=upd H ad (.lst (vs++[y]))) (fun _ _ e=>e) fun b q=>keep b (fun e=>s (e▸q))
   refine .own (U:=Un2 U c) upd_same j (.inl i) (l1.append (.cons (W1:=c) (W2:=No) l2 .nil (fun _ _ q=>q) (fun _ q=>q) fun _ q=>q.elim) (fun b q t=>dj b (m b q) t) (fun b q=>.inl q) fun b q=>.inr q) (fun q=>q.elim l s) fun b q=>q.imp (m b) id
end
section
variable {X:Cx}
def GG (X:Cx) (ifs:List Expr):TT:=fun σ H Q=>∀ pins s,Inv X pins σ H s →
 wpAny (model X.prog X.w) X.A (forIn ifs true fun c r=>if r=true then do let ok ← isTrue c X.env (eval c X.env);pure (ForInStep.yield ok) else pure (ForInStep.yield r)) (TP X pins σ Q) X.xe s
theorem jU {ifs:List Expr} {t:TT} {σ:L2.St} {H:Hp} {Q:Bool→Hp→Prop} (h:PTs X ifs t) (q:t σ H Q):GG X ifs σ H Q:=fun pins s I=>h.run pins s σ H Q I q
abbrev vE (X:Cx) (scope:Scope) (s:Shared) (H:Hp) (C:Addr) (cl:List (Str × Addr)) (fp:List Addr):Cx:=X.blk s H scope (compEnvC scope cl C X.env) fp
def aG (X:Cx) (scope:Scope) (t:Expr):TG:=fun v σ H Q=>∀ s0 H0 C cl fp,tWG (vE X scope s0 H0 C cl fp) t v σ H Q
def aTs (X:Cx) (scope:Scope) (fs:List Expr):TT:=fun σ H Q=>∀ s0 H0 C cl fp,GG (vE X scope s0 H0 C cl fp) fs σ H Q
def aE (X:Cx) (scope:Scope) (y:Expr):TE:=fun σ H Q=>∀ s0 H0 C cl fp,tW (vE X scope s0 H0 C cl fp) y σ H Q
def aI (X:Cx) (scope:Scope) (t it:Expr):TI:=fun σ H Q=>∀ s0 H0 C cl fp,tWI (vE X scope s0 H0 C cl fp) t it σ H Q
theorem nE {scope:Scope} {t:Expr} (s:Shared) (H:Hp) (C:Addr) (cl:List (Str × Addr)) (fp:List Addr):PG (vE X scope s H C cl fp) t (aG X scope t):=⟨fun pins s1 σ H1 v u Q I r h=>h s H C cl fp pins s1 u I r⟩
theorem eB {scope:Scope} {fs:List Expr} (s:Shared) (H:Hp) (C:Addr) (cl:List (Str × Addr)) (fp:List Addr):PTs (vE X scope s H C cl fp) fs (aTs X scope fs):=⟨fun pins s1 σ H1 Q I h=>h s H C cl fp pins s1 I⟩
theorem qG {scope:Scope} {y:Expr} (s:Shared) (H:Hp) (C:Addr) (cl:List (Str × Addr)) (fp:List Addr):PE (vE X scope s H C cl fp) y (aE X scope y):=⟨fun pins s1 σ H1 Q I h=>h s H C cl fp pins s1 I⟩
theorem BX {scope:Scope} {t it:Expr} (s:Shared) (H:Hp) (C:Addr) (cl:List (Str × Addr)) (fp:List Addr):PI (vE X scope s H C cl fp) t it (aI X scope t it):=⟨fun pins s1 σ H1 R I h=>h s H C cl fp pins s1 I⟩
def vC (C:Ctx) (n:Nat):Prop:=∀ {X:Cx} {c:Cxt},XOk C X c→∀ {m:Nat} {ifs:List E} {fs:List Expr} {σ:L2.St} {δ:Dl} {F H:Hp} {W:Fp} {b:Bool} {δ':Dl} {Q:Bool→Hp→Prop},mTs m c ifs fs=true→SOk X.K F H σ δ W→cu C n ifs δ=some (b,δ')→Tells X F H W σ δ' b Q→GG X fs σ H Q
variable {C:Ctx} {n m:Nat}
theorem FE (a:ST C n):vC C (n+1):=by
 intro X c ok m ifs fs σ δ F H W b δ' Q hm s he k
 match ifs,he with
 | [],he =>
  simp only [cu] at he
  cases he
  cases kZ hm
  exact jU pts_nil (k _ _ _ (.refl s))
 | [c1],he =>
  simp only [cu] at he
  cases m with
  | zero=>simp [mTs] at hm
  | succ m =>
   cases fs with
   | nil=>simp [mTs] at hm
   | cons f fs =>
    simp only [mTs,Bool.and_eq_true] at hm
    cases kZ hm.2
    exact jU (pts_one fL) (a ok hm.1 s he k)
 | _::_::_,he=>simp [cu] at he
theorem dO {own:List Nat} {t:Tg} (h:uP own t=true):∀ i∈G1 t,i∈own:=fun i hi=>by
 unfold uP at h
 rw [List.all_eq_true] at h
 simpa using h i hi
theorem ua {I:Cxt} {scope:Scope} {own:List Nat} {tg:Tg} {ifs:List E} {elt:E} {t y:Expr} {fs:List Expr} {σ:L2.St} {J:It} {xs ys a:List D} {P L:Dl} {F1 F0 H0 l Q:Hp} {W0 Ws p:Fp} {ad:Addr} {Qe:Hp→Prop}
  (f:∀ s0 H0 R cl fp,XOk C (vE X scope s0 H0 R cl fp) I) (sv:SV C n) (si:vC C n) {m1 m2:Nat} (mt:mTg I tg t=true) (mf:mTs m1 I ifs fs=true) (me:mE m2 I elt y=true) (ti:uP own tg=true)
  (q0:aB X.K F0 H0 W0 l Q (wipe σ own) P Ws p) (o0:Ow X.K l Q (.ref ad) (.lst true a) p) (h0:H0 ad=none) (V:Same F1 l) (w:WkD X.K F1 J xs)
  (e0:lcL (setT C.lock tg) (cu C n ifs) (evV C n elt) own xs a P=some (ys,L))
  (fin:∀ Y He We u,aB X.K F0 H0 W0 Y He (wipe σ own) L We u→Ow X.K Y He (.ref ad) (.lst true ys) u→Same l Y→Qe He) :
  ∃ Wi:Nat→Nat→Hp→Prop,(∃ m,Wi 0 m Q)∧∀ i m H,Wi i m H→(J.stop i H∧Qe H)∨(J.go i H∧∃ Z:Hp→Prop,(∀ H',Z H'→∃ m',m'<m∧Wi (i+1) m' H')∧∀ x H',J.yld i H x H' →
   aG X scope t x (wipe σ own) H' fun M H2=>wipe M own=wipe σ own∧aTs X scope fs M H2 fun b H3=>if b=true then aE X scope y M H3 fun v H4=>∃ acc,H4 ad=some (.lst acc)∧acc.length<sizeLine∧Z (upd H4 ad (.lst (acc++[v]))) else Z H3):=by
 refine ⟨fun i k s=>k=xs.length-i∧i≤xs.length∧∃ Fc Wc δc acc j,aB X.K F0 H0 W0 Fc s (wipe σ own) δc Wc j∧Ow X.K Fc s (.ref ad) (.lst true acc) j∧Same l Fc ∧
  lcL (setT C.lock tg) (cu C n ifs) (evV C n elt) own (xs.drop i) acc δc=some (ys,L),⟨_,rfl,Nat.zero_le _,l,Ws,P,a,p,q0,o0,fun _ _ e=>e,e0⟩,?_⟩
 rintro i k s ⟨rfl,hi,Fc,Wc,δc,acc,j,q,o,sm,e⟩
 by_cases g:i<xs.length
 ·refine .inr ⟨w.goes i Fc s (V.trans sm) q.ok.sub g,fun H'=>∃ Fc Wc δc acc j,aB X.K F0 H0 W0 Fc H' (wipe σ own) δc Wc j∧Ow X.K Fc H' (.ref ad) (.lst true acc) j∧Same l Fc ∧
   lcL (setT C.lock tg) (cu C n ifs) (evV C n elt) own (xs.drop (i+1)) acc δc=some (ys,L),fun H' nx=>⟨xs.length-(i+1),by omega,rfl,g,nx⟩,fun x H' yl=>?_⟩
  obtain ⟨F',rx,nw⟩:=w.yields i Fc s x H' (xs[i]) (V.trans sm) q.ok.sub (by simp [g]) yl
  obtain ⟨_,q1⟩:=q.tX nw
  have o1:=o.ext nw.ext fun _ _ z=>z
  have B:=sm.trans nw.ext.fsub
  rw [List.drop_eq_getElem_cons g] at e
  unfold lcL at e
  split at e
  ·cases e
  ·rename_i δ1 e1
   intro s0 H00 R cl fp
   have r0:aB X.K F' H' Wc F' H' (wipe σ own) δc Wc No:=.refl q1.ok
   refine tu (f s0 H00 R cl fp) mt r0 (.frz rx) e1 fun M W2 r1 _ off=>⟨fS off (dO ti),?_⟩
   have hw:=fS off (dO ti)
   intro s1 F C1 G fp1
   have h:aB X.K F0 H0 W0 F' H' (wipe σ own) δc Wc j:=q1.kQ fun b z=>.inl z
   split at e
   ·cases e
   ·rename_i δ2 e2
    refine si (f s1 F C1 G fp1) mf r1.ok e2 fun F2 H2 W3 N=>?_
    rw [if_neg Bool.false_ne_true]
    have r:=r1.aA N
    obtain ⟨_,O⟩:=h.dF r
    refine ⟨F2,W3,aY δ2 own,acc,j,?_,o1.ext r.ext h.dj,B.trans r.ext.fsub,e⟩
    rw [← hw]
    exact (O.kQ fun b z=>.inl z).state (O.ok.st.iK own)
   ·rename_i δ2 e2
    refine si (f s1 F C1 G fp1) mf r1.ok e2 fun F2 H2 W3 N=>?_
    rw [if_pos rfl]
    split at e
    ·cases e
    ·rename_i d δ3 e3
     split at e
     ·rename_i hl
      have hl:=of_decide_eq_true hl
      intro s2 H02 C2 cl2 fp2
      refine sv (f s2 H02 C2 cl2 fp2) me N.ok e3 fun v F3 H3 W4 Wy r3 oy=>?_
      have c:=(r1.aA N).aA r3
      obtain ⟨dj,O⟩:=h.dF c
      have o2:=o1.ext c.ext h.dj
      obtain ⟨vs,g1,g2,q3,o3⟩:=O.push h0 o2 oy fun b z t=>dj b z (.inl t)
      have:=aJ
      refine ⟨vs,g1,by omega,F3,W4,aY δ3 own,acc++[d],_,?_,o3,B.trans c.ext.fsub,e⟩
      rw [← hw]
      exact q3.state (q3.ok.st.iK own)
     ·cases e
 ·have ei:i=xs.length:=by omega
  subst ei
  rw [List.drop_length] at e
  simp only [lcL] at e
  cases e
  exact .inl ⟨w.stops Fc s (V.trans sm) q.ok.sub,fin _ _ _ _ q o sm⟩
structure LcP (C:Ctx) (X:Cx) (c:Cxt) (n:Nat) (elt:E) (tg:Tg) (k:ItK) (its:List E) (ifs:List E) (own:List Nat) (y t it:Expr) (fs:List Expr) (scope:Scope):Prop where
 blk:blkC c.N c.sc scope (qF c own)=true
 tgm:mTg (c.blk scope) tg t=true
 it:∃ m,mI m c t k its it=true
 ifs:∃ m,mTs m (c.blk scope) ifs fs=true
 elt:∃ m,mE m (c.blk scope) elt y=true
 tin:uP own tg=true
 cm:c.cm=true
theorem dt (c:Cxt) (own:List Nat):(qF c own).map (·.2)=own:=by
 unfold qF
 rw [List.map_map]
 exact (List.map_congr_left fun _ _=>rfl).trans (List.map_id _)
variable {c:Cxt}
theorem LcP.ok {elt:E} {tg:Tg} {k:ItK} {its ifs:List E} {own:List Nat} {y t it:Expr} {fs:List Expr} {scope:Scope} (h:LcP C X c n elt tg k its ifs own y t it fs scope) (ok:XOk C X c):BlkOk X.N X.env.scope scope (qF c own):=by
 rw [ok.hN,ok.sc]
 exact blkOk_by h.blk
def lcT (X:Cx) (own:List Nat) (y t it:Expr) (fs:List Expr) (scope:Scope):TE:=tLc (tWI X t it) (aG X scope t) (aTs X scope fs) (aE X scope y) own
theorem Ho {elt:E} {tg:Tg} {l:ItK} {its ifs:List E} {own:List Nat} {y t it:Expr} {fs:List Expr} {scope:Scope} (h:LcP C X c n elt tg l its ifs own y t it fs scope) (ok:XOk C X c) (b:SIt C n) (r:SV C n) (si:vC C n) {σ:L2.St} {δ δ':Dl} {F H:Hp} {W:Fp} {a:A} {Q:VK}
  (s:SOk X.K F H σ δ W) (he:evE C (n+1) (.lc elt tg l its ifs own) δ=some (a,δ')) (k:ah X F H W σ δ' a Q):lcT X own y t it fs scope σ H Q:=by
 unfold evE at he
 simp only at he
 split at he
 ·rename_i xs δ1 u
  split at he
  ·rename_i fz
   split at he
   ·rename_i ys δ2 B
    cases he
    obtain ⟨N,e⟩:=h.it
    obtain ⟨O,f⟩:=h.ifs
    obtain ⟨P,i⟩:=h.elt
    refine b ok e s u fun F1 H1 W1 J p w=>?_
    intro D j
    have p1:=(p.state (p.ok.st.iK own)).vp (New.list (vs:=[]) p.ok.sub j)
    have o1:Ow X.K F1 (upd H1 D (.lst [])) (.ref D) (.lst true []) (At D):=Ow.list p.ok.sub j .nil
    refine ua (F1:=F1) (fun s0 H0 G cl fp=>ok.blk h.blk s0 H0 G cl fp) r si h.tgm f i h.tin p1 o1 (p.ext.live D j) (fun _ _ z=>z) w B fun V He Y I q o sm=>?_
    refine k _ _ _ _ _ (q.state (kK q.ok.st.fN fun v L d m=>?_)) (.tmp o)
    obtain ⟨x,U,R,g,M,_⟩:=p.ok.st.zip m
    exact ⟨x,g,(M.fz (eY fz v L d m)).mono sm⟩
   ·cases he
  ·cases he
 ·cases he
theorem MI.free {k:ItK} {es:List E} {t x:Expr} {m:Nat} (h:mI m c t k es x=true) (env:Env):∀ v,foldedSetIterable x env v=pure v:=by
 intro v
 unfold mI at h
 split at h
 ·cases h
 split at h
 ·rw [Bool.and_eq_true,Bool.not_eq_true'] at h
  cases x<;>first | rfl | simp [cX] at h
 ·simp only [Bool.and_eq_true,Bool.not_eq_true'] at h
  cases x<;>first | rfl | simp [cX] at h
 all_goals
  split at h<;>first | rfl | cases h
theorem HL {elt:E} {tg:Tg} {b:ItK} {its ifs:List E} {own:List Nat} {x:Expr} {σ:L2.St} {δ δ':Dl} {F H:Hp} {W:Fp} {a:A} (ok:XOk C X c) (d:SIt C n) (g:SV C n) (si:vC C n) (hm:mE (m+1) c (.lc elt tg b its ifs own) x=true)
  (s:SOk X.K F H σ δ W) (he:evE C (n+1) (.lc elt tg b its ifs own) δ=some (a,δ')) :
  ∃ y t it fs scope pos,x=.ListComp y [⟨t,it,fs,0⟩] scope pos∧LcP C X c n elt tg b its ifs own y t it fs scope∧(∀ v,foldedSetIterable it X.env v=pure v)∧∀ {Q:VK},ah X F H W σ δ' a Q→lcT X own y t it fs scope σ H Q:=by
 unfold mE at hm
 simp only at hm
 split at hm
 ·simp only [Bool.and_eq_true] at hm
  obtain ⟨⟨⟨⟨⟨⟨h,i⟩,f⟩,j⟩,l⟩,o⟩,e⟩:=hm
  have L:LcP C X c n elt tg b its ifs own _ _ _ _ _:=⟨h,i,⟨_,f⟩,⟨_,j⟩,⟨_,l⟩,o,e⟩
  exact ⟨_,_,_,_,_,_,rfl,L,MI.free f _,fun {Q} k=>Ho L ok d g si s he k⟩
 ·cases hm
theorem Ge {own:List Nat} {y t it:Expr} {fs:List Expr} {scope:Scope} {pos:Pos} {elt:E} {tg:Tg} {a:ItK} {its ifs:List E} (ok:XOk C X c) (L:LcP C X c n elt tg a its ifs own y t it fs scope) (hf:∀ v,foldedSetIterable it X.env v=pure v):PE X (.ListComp y [⟨t,it,fs,0⟩] scope pos) (lcT X own y t it fs scope):=by
 have:=pe_lc (X:=X) (pos:=pos) (elt:=y) (tg:=t) (ifs:=fs) (g:=aG X scope t) (tt:=aTs X scope fs) (te:=aE X scope y) (ok.calm L.cm) ok.nd qQ (L.ok ok) (fun s H C cl fp=>nE s H C cl fp) (fun s H C cl fp=>eB s H C cl fp) (fun s H C cl fp=>qG s H C cl fp) hf
 rw [dt] at this
 exact this
theorem G9 {elt:E} {tg:Tg} {d:ItK} {its ifs:List E} {own:List Nat} {x:Expr} {σ:L2.St} {δ δ':Dl} {F H:Hp} {W:Fp} {a:A} {Q:VK} (ok:XOk C X c) (b:SIt C n) (e:SV C n) (si:vC C n) (hm:mE (m+1) c (.lc elt tg d its ifs own) x=true)
  (s:SOk X.K F H σ δ W) (he:evE C (n+1) (.lc elt tg d its ifs own) δ=some (a,δ')) (k:ah X F H W σ δ' a Q):tW X x σ H Q:=by
 obtain ⟨y,t,it,fs,scope,pos,rfl,L,hf,go⟩:=HL ok b e si hm s he
 exact av (Ge ok L hf) (go k)
structure Bf (C:Ctx) (X:Cx) (c:Cxt) (elt:E) (tg:Tg) (k:ItK) (its:List E) (tg2:Tg) (k2:ItK) (its2:List E) (own own2:List Nat) (y t it t2 it2:Expr) (scope:Scope):Prop where
 blk:blkC c.N c.sc scope (qF c own)=true
 tgm:mTg (c.blk scope) tg t=true
 it:∃ m,mI m c t k its it=true
 tgm2:mTg (c.blk scope) tg2 t2=true
 it2:∃ m,mI m (c.blk scope) t2 k2 its2 it2=true
 elt:∃ m,mE m (c.blk scope) elt y=true
 sub:∀ i∈own2,i∈own
 tin:uP own tg=true
 tin2:uP own2 tg2=true
 cm:c.cm=true
theorem Bf.ok {elt:E} {tg tg2:Tg} {k k2:ItK} {its its2:List E} {own own2:List Nat} {y t it t2 it2:Expr} {scope:Scope} (h:Bf C X c elt tg k its tg2 k2 its2 own own2 y t it t2 it2 scope) (ok:XOk C X c):BlkOk X.N X.env.scope scope (qF c own):=by
 rw [ok.hN,ok.sc]
 exact blkOk_by h.blk
def Hh (X:Cx) (own own2:List Nat) (y t it t2 it2:Expr) (scope:Scope):TE:=tLc2 (tWI X t it) (aG X scope t) (aTs X scope []) (aI X scope t2 it2) (aG X scope t2) (aTs X scope []) (aE X scope y) own own2
theorem CF {elt:E} {tg tg2:Tg} {kk k2:ItK} {its its2:List E} {own own2:List Nat} {y t it t2 it2:Expr} {scope:Scope} (h:Bf C X c elt tg kk its tg2 k2 its2 own own2 y t it t2 it2 scope) (ok:XOk C X c) (u:SIt C n) (sv:SV C n) (si:vC C n) {σ:L2.St} {δ δ':Dl} {F H:Hp} {W:Fp} {a:A} {Q:VK}
  (s:SOk X.K F H σ δ W) (he:evE C (n+1) (.lc2 elt tg kk its tg2 k2 its2 own own2) δ=some (a,δ')) (k:ah X F H W σ δ' a Q):Hh X own own2 y t it t2 it2 scope σ H Q:=by
 unfold evE at he
 simp only at he
 split at he
 ·rename_i xs δ1 e1
  split at he
  ·rename_i fz
   split at he
   ·rename_i ys δ2 e2
    cases he
    obtain ⟨mi,L⟩:=h.it
    obtain ⟨ab,B⟩:=h.it2
    obtain ⟨me,M⟩:=h.elt
    refine u ok L s e1 fun F1 H1 W1 J p w=>?_
    intro D N
    have p1:=(p.state (p.ok.st.iK own)).vp (New.list (vs:=[]) p.ok.sub N)
    have o1:Ow X.K F1 (upd H1 D (.lst [])) (.ref D) (.lst true []) (At D):=Ow.list p.ok.sub N .nil
    have O:=p.ext.live D N
    let stp:=zu (setT C.lock tg) (dB C n k2 its2) (lcL (setT C.lock tg2) (cu C n []) (evV C n elt) own2) own own2
    have P:stp xs [] (aY δ1 own)=some (ys,δ2):=e2
    refine ⟨fun i m r=>m=xs.length-i∧i≤xs.length∧∃ Fc Wc δc acc j,aB X.K F H W Fc r (wipe σ own) δc Wc j∧Ow X.K Fc r (.ref D) (.lst true acc) j∧Same F1 Fc∧stp (xs.drop i) acc δc=some (ys,δ2),
     ⟨_,rfl,Nat.zero_le _,F1,W1,_,[],_,p1,o1,fun _ _ z=>z,P⟩,?_⟩
    rintro i m r ⟨rfl,hi,Fc,Wc,δc,acc,j,q,o,sm,e⟩
    by_cases f:i<xs.length
    ·refine .inr ⟨w.goes i Fc r sm q.ok.sub f,fun H'=>∃ Fc Wc δc acc j,aB X.K F H W Fc H' (wipe σ own) δc Wc j∧Ow X.K Fc H' (.ref D) (.lst true acc) j∧Same F1 Fc∧stp (xs.drop (i+1)) acc δc=some (ys,δ2),
      fun H' nx=>⟨xs.length-(i+1),by omega,rfl,f,nx⟩,fun x H' yl=>?_⟩
     obtain ⟨F',rx,nw⟩:=w.yields i Fc r x H' (xs[i]) sm q.ok.sub (by simp [f]) yl
     obtain ⟨_,q1⟩:=q.tX nw
     have o1:=o.ext nw.ext fun _ _ z=>z
     have V:=sm.trans nw.ext.fsub
     rw [List.drop_eq_getElem_cons f] at e
     have e:zu (setT C.lock tg) (dB C n k2 its2) (lcL (setT C.lock tg2) (cu C n []) (evV C n elt) own2) own own2 (xs[i]::xs.drop (i+1)) acc δc=some (ys,δ2):=e
     unfold zu at e
     split at e
     ·cases e
     ·rename_i δ3 e3
      split at e
      ·cases e
      ·rename_i zs δ4 e4
       split at e
       ·cases e
       ·rename_i G δ5 e5
        intro s0 H00 Y cl fp
        have r0:aB X.K F' H' Wc F' H' (wipe σ own) δc Wc No:=.refl q1.ok
        refine tu (ok.blk h.blk s0 H00 Y cl fp) h.tgm r0 (.frz rx) e3 fun σ2 W2 r1 _ off=>⟨fS off (dO h.tin),?_⟩
        have hw:=fS off (dO h.tin)
        have I:aB X.K F H W F' H' (wipe σ own) δc Wc j:=q1.kQ fun b z=>.inl z
        refine fun s1 ac C1 ad fp1=>jU pts_nil ?_
        unfold tYes
        dsimp only
        rw [if_pos rfl]
        intro s2 H02 C2 cl2 fp2
        refine u (ok.blk h.blk s2 H02 C2 cl2 fp2) B r1.ok e4 fun F2 H2 W3 J1 r2 w1=>?_
        have l:=r1.aA r2
        obtain ⟨_,q2⟩:=I.dF l
        have q3:aB X.K F H W F2 H2 (wipe σ2 own2) (aY δ4 own2) W3 j:=(q2.kQ fun b z=>.inl z).state (q2.ok.st.iK own2)
        have o3:=o1.ext l.ext I.dj
        refine ua (m1:=1) (F1:=F2) (fun s0 H0 Y cl fp=>ok.blk h.blk s0 H0 Y cl fp) sv si h.tgm2 rfl M h.tin2 q3 o3 O (fun _ _ z=>z) w1 e5 fun Fe He We Z q4 o4 aa=>?_
        refine ⟨Fe,We,aY δ5 own,G,Z,?_,o4,(V.trans l.ext.fsub).trans aa,e⟩
        rw [← hw]
        exact q4.state (q4.ok.st.fN.iK own)
    ·have ei:i=xs.length:=by omega
     subst ei
     rw [List.drop_length] at e
     have e:zu (setT C.lock tg) (dB C n k2 its2) (lcL (setT C.lock tg2) (cu C n []) (evV C n elt) own2) own own2 [] acc δc=some (ys,δ2):=e
     simp only [zu] at e
     cases e
     refine .inl ⟨w.stops Fc r sm q.ok.sub,?_⟩
     refine k _ _ _ _ _ (q.state (kK q.ok.st.fN fun v hv d ed=>?_)) (.tmp o)
     obtain ⟨x,U,R,g,ow,_⟩:=p.ok.st.zip ed
     exact ⟨x,g,(ow.fz (eY fz v hv d ed)).mono sm⟩
   ·cases he
  ·cases he
 ·cases he
theorem De {elt:E} {tg tg2:Tg} {b k2:ItK} {its its2:List E} {own own2:List Nat} {x:Expr} {σ:L2.St} {δ δ':Dl} {F H:Hp} {W:Fp} {a:A} (ok:XOk C X c) (d:SIt C n) (j:SV C n) (si:vC C n) (hm:mE (m+1) c (.lc2 elt tg b its tg2 k2 its2 own own2) x=true)
  (s:SOk X.K F H σ δ W) (he:evE C (n+1) (.lc2 elt tg b its tg2 k2 its2 own own2) δ=some (a,δ')) :
  ∃ y t it t2 it2 scope pos,x=.ListComp y [⟨t,it,[],0⟩,⟨t2,it2,[],0⟩] scope pos∧Bf C X c elt tg b its tg2 k2 its2 own own2 y t it t2 it2 scope∧(∀ v,foldedSetIterable it X.env v=pure v)∧(∀ env v,foldedSetIterable it2 env v=pure v)∧∀ {Q:VK},ah X F H W σ δ' a Q→Hh X own own2 y t it t2 it2 scope σ H Q:=by
 unfold mE at hm
 simp only at hm
 split at hm
 ·simp only [Bool.and_eq_true] at hm
  obtain ⟨⟨⟨⟨⟨⟨⟨⟨⟨l,o⟩,f⟩,p⟩,g⟩,q⟩,h⟩,r⟩,u⟩,e⟩:=hm
  have L:Bf C X c elt tg b its tg2 k2 its2 own own2 _ _ _ _ _ _:=⟨l,o,⟨_,f⟩,p,⟨_,g⟩,⟨_,q⟩,fun i hi=>by
   rw [List.all_eq_true] at h
   simpa using h i hi,r,u,e⟩
  exact ⟨_,_,_,_,_,_,_,rfl,L,MI.free f _,fun env=>MI.free g env,fun {Q} k=>CF L ok d j si s he k⟩
 ·cases hm
theorem BI {elt:E} {tg tg2:Tg} {b k2:ItK} {its its2:List E} {own own2:List Nat} {y t it t2 it2:Expr} {scope:Scope} {pos:Pos} (ok:XOk C X c) (L:Bf C X c elt tg b its tg2 k2 its2 own own2 y t it t2 it2 scope) (hf:∀ v,foldedSetIterable it X.env v=pure v) (a:∀ env v,foldedSetIterable it2 env v=pure v) :
  PE X (.ListComp y [⟨t,it,[],0⟩,⟨t2,it2,[],0⟩] scope pos) (Hh X own own2 y t it t2 it2 scope):=by
 have:=pe_lc2 (X:=X) (pos:=pos) (elt:=y) (tg:=t) (tg1:=t2) (ifs:=[]) (ifs1:=[]) (g:=aG X scope t) (g1:=aG X scope t2) (tt:=aTs X scope []) (tt1:=aTs X scope []) (wi1:=aI X scope t2 it2) (te:=aE X scope y) (vs1:=own2) (ok.calm L.cm) ok.nd qQ (L.ok ok) (fun i hi=>by rw [dt];exact L.sub i hi)
  (fun s H C cl fp=>nE s H C cl fp) (fun s H C cl fp=>eB s H C cl fp) (fun s H C cl fp=>BX s H C cl fp) (fun s H C cl fp=>nE s H C cl fp) (fun s H C cl fp=>eB s H C cl fp) (fun s H C cl fp=>qG s H C cl fp) hf a
 rw [dt] at this
 exact this
theorem BY {elt:E} {tg tg2:Tg} {e k2:ItK} {its its2:List E} {own own2:List Nat} {x:Expr} {σ:L2.St} {δ δ':Dl} {F H:Hp} {W:Fp} {a:A} {Q:VK} (ok:XOk C X c) (b:SIt C n) (f:SV C n) (si:vC C n) (hm:mE (m+1) c (.lc2 elt tg e its tg2 k2 its2 own own2) x=true)
  (s:SOk X.K F H σ δ W) (he:evE C (n+1) (.lc2 elt tg e its tg2 k2 its2 own own2) δ=some (a,δ')) (k:ah X F H W σ δ' a Q):tW X x σ H Q:=by
 obtain ⟨y,t,it,t2,it2,scope,pos,rfl,L,hf,d,go⟩:=De ok b f si hm s he
 exact av (BI ok L hf d) (go k)
end
end Ev
namespace L2
open PySem PySem.Spec PyProof.Rows
section
variable {prog:Program} {w:World} {A:Around} {E:Value→Shared→Prop} {s:Shared}
theorem Aw {l:Addr} {items:Array Value} {x:Value} {mids:List Value} {Q:List Value→Shared→Prop} (f:s.heap.IsList l items) (q:A.handled=none) (g:items.toList=x::mids) (r:items.size≤sizeLine)
  (h:∀ (h':Heap) (tk:Nat),(∀ b o,s.heap.get? b=some o→h'.get? b=some o)→Q [x,.ref h'.objs.size] { s with heap:=h'.push { cls:=.type "list",data:=.seq mids.toArray },toks:=tk }):wpAny (model prog w) A (unpackItems (.ref l) 2 (some 1)) Q E s:=by
 have hsz:items.size=mids.length+1:=by
  have:=congrArg List.length g
  simpa using this
 have a:l≠s.heap.objs.size:=by obtain ⟨o,i,_⟩:=f;exact Nat.ne_of_lt (Heap.lt_size i)
 have t:l<s.heap.objs.size:=by obtain ⟨o,i,_⟩:=f;exact Heap.lt_size i
 unfold unpackItems
 refine wpAny_bind ?_
 unfold notIterableAtAll
 refine wpAny_bind (wpAny_specialOf f.typeIs slot_list_iter.lookup ?_)
 refine wpAny_pure ?_
 simp only [Bool.false_eq_true,if_false]
 refine wpAny_bind (wpAny_holding (wpAny_pyIter_list f ?_))
 refine wpAny_bind (wpAny_holding (PySem.W.kun_draw a 1 0 _ _ ⟨_,Heap.get?_push_size _ rfl,rfl,rfl⟩ (f.push _) (by omega) fun h₁ hit₁ hs₁=>?_))
 have hl₁:Heap.IsList h₁ l items:=(f.push _).extBut hs₁.extBut a
 rw [Nat.zero_add] at hit₁
 have hit₁':=hit₁
 obtain ⟨v,m,_⟩:=hit₁'
 have hl₁':=hl₁
 obtain ⟨ol,n,_⟩:=hl₁'
 rw [List.drop_zero]
 have p:(items.toList.take 1).length=1:=by rw [g];rfl
 rw [if_neg (show ¬ ((items.toList.take 1).length<1) by rw [p];omega)]
 refine wpAny_bind (wpAny_holding (PySem.W.kun_collect (s:={ s with heap:=h₁ }) (T:="list_iterator") (.inr (.inr (.inl rfl))) (Walks.list (A:=A.in1) q s.heap.objs.size l a items) (fun j u st=>st.1.typeIs) (k:=1) (by omega) ⟨hit₁,hl₁⟩ (Heap.lt_size m) (Heap.lt_size n) (fun h₂ tk hk=>?_) r))
 have hd:items.toList.drop 1=mids:=by rw [g];rfl
 have ht:items.toList.take 1=[x]:=by rw [g];rfl
 rw [hd,ht]
 show wpAny _ _ (if mids.length<2-1-1 then _ else _) _ _ _
 rw [if_neg (by omega)]
 show wpAny _ _ (newList (mids.take (mids.length-0)) >>= fun d=>pure ([x]++[d]++mids.drop (mids.length-0))) _ _ _
 rw [Nat.sub_zero,List.take_length,List.drop_length]
 have c:∀ b o,s.heap.get? b=some o→h₂.get? b=some o:=fun b o e=>hk b o (Nat.ne_of_lt (Heap.lt_size e)) (hs₁.extBut b o (Nat.ne_of_lt (Heap.lt_size e)) (Heap.get?_push_of_some _ e))
 exact wpAny_bind (wpAny_newObj_type (wpAny_pure (h h₂ tk c)) (by show mids.toArray.size≤sizeLine;rw [List.size_toArray];omega))
theorem DE {l:Addr} {items:Array Value} {x:Value} {mids:List Value} {Q:List Value→Shared→Prop} (f:IsTup s.heap l items) (q:A.handled=none) (g:items.toList=x::mids) (r:items.size≤sizeLine)
  (h:∀ (h':Heap) (tk:Nat),(∀ b o,s.heap.get? b=some o→h'.get? b=some o)→Q [x,.ref h'.objs.size] { s with heap:=h'.push { cls:=.type "list",data:=.seq mids.toArray },toks:=tk }):wpAny (model prog w) A (unpackItems (.ref l) 2 (some 1)) Q E s:=by
 have hsz:items.size=mids.length+1:=by
  have:=congrArg List.length g
  simpa using this
 have a:l≠s.heap.objs.size:=by obtain ⟨o,i,_⟩:=f;exact Nat.ne_of_lt (Heap.lt_size i)
 have t:l<s.heap.objs.size:=by obtain ⟨o,i,_⟩:=f;exact Heap.lt_size i
 unfold unpackItems
 refine wpAny_bind ?_
 unfold notIterableAtAll
 refine wpAny_bind (wpAny_specialOf f.typeIs slot_tuple_iter.lookup ?_)
 refine wpAny_pure ?_
 simp only [Bool.false_eq_true,if_false]
 refine wpAny_bind (wpAny_holding (iter_tuple f ?_))
 refine wpAny_bind (wpAny_holding (draw_tuple a 1 0 _ _ ⟨_,Heap.get?_push_size _ rfl,rfl,rfl⟩ (f.push _) (by omega) fun h₁ hit₁ hs₁=>?_))
 have hl₁:IsTup h₁ l items:=(f.push _).extBut hs₁.extBut a
 rw [Nat.zero_add] at hit₁
 have hit₁':=hit₁
 obtain ⟨v,m,_⟩:=hit₁'
 have hl₁':=hl₁
 obtain ⟨ol,n,_⟩:=hl₁'
 rw [List.drop_zero]
 have p:(items.toList.take 1).length=1:=by rw [g];rfl
 rw [if_neg (show ¬ ((items.toList.take 1).length<1) by rw [p];omega)]
 refine wpAny_bind (wpAny_holding (PySem.W.kun_collect (s:={ s with heap:=h₁ }) (T:="tuple_iterator") (.inr (.inr (.inr rfl))) (Walks.tuple (A:=A.in1) q s.heap.objs.size l a items) (fun j u st=>st.1.typeIs) (k:=1) (by omega) ⟨hit₁,hl₁⟩ (Heap.lt_size m) (Heap.lt_size n) (fun h₂ tk hk=>?_) r))
 have hd:items.toList.drop 1=mids:=by rw [g];rfl
 have ht:items.toList.take 1=[x]:=by rw [g];rfl
 rw [hd,ht]
 show wpAny _ _ (if mids.length<2-1-1 then _ else _) _ _ _
 rw [if_neg (by omega)]
 show wpAny _ _ (newList (mids.take (mids.length-0)) >>= fun d=>pure ([x]++[d]++mids.drop (mids.length-0))) _ _ _
 rw [Nat.sub_zero,List.take_length,List.drop_length]
 have c:∀ b o,s.heap.get? b=some o→h₂.get? b=some o:=fun b o e=>hk b o (Nat.ne_of_lt (Heap.lt_size e)) (hs₁.extBut b o (Nat.ne_of_lt (Heap.lt_size e)) (Heap.get?_push_of_some _ e))
 exact wpAny_bind (wpAny_newObj_type (wpAny_pure (h h₂ tk c)) (by show mids.toArray.size≤sizeLine;rw [List.size_toArray];omega))
end
section
variable {X:Cx}
def FH (K:Frag) (i j:Nat):TG:=fun v σ H Q=>∃ a x xs,v=.ref a∧(H a=some (.lst (x::xs))∨SqT K H a (x::xs))∧∀ D,H D=none→Q ((σ.set i (some x)).set j (some (.ref D))) (upd H D (.lst xs))
theorem AE {i j:Nat} {x y:Str} {l py ps pos:Pos} {k:Nat} (p:X.calm=true) (hN:X.N.Nodup) (hi:X.N[i]?=some x) (z:X.N[j]?=some y) (B:Loc X.env.scope x) (C:Loc X.env.scope y) (F:X.fn x=true∨X.env.scope.names.lookup x=some .local) (G:X.fn y=true∨X.env.scope.names.lookup y=some .local) :
  PG X (.Tuple [.Name x l,.Starred (.Name y py) ps] k pos) (FH X.K i j):=by
 refine ⟨fun pins s σ H v u Q I r hw=>?_⟩
 obtain ⟨a,x0,xs,J,g,hw⟩:=hw
 subst J
 cases r
 have fin:∀ (c:Value) (mids:List Value),RelV x0 c→Vals xs mids→xs.length≤sizeLine→∀ (h':Heap) (tk:Nat),(∀ b o,s.heap.get? b=some o→h'.get? b=some o) →
   wpAny (model X.prog X.w) X.A (assignInOrder [assign (.Name x l) X.env,assign (.Name y py) X.env] [c,.ref h'.objs.size]) (fun _ L=>∃ q H',Inv X pins q H' L∧Q q H') X.xe { s with heap:=h'.push { cls:=.type "list",data:=.seq mids.toArray },toks:=tk }:=fun c mids h d f h' tk hk=>by
  have t:Inv X pins σ H { s with heap:=h',toks:=tk }:=I.kept (t':=tk) hk
  have fr:H h'.objs.size=none:=t.hok.fresh (Nat.le_refl _)
  have M:Inv X pins σ (upd H h'.objs.size (.lst xs)) { s with heap:=h'.push { cls:=.type "list",data:=.seq mids.toArray },toks:=tk } :=
   t.laid (t':=tk) (fun b o e=>Heap.get?_push_of_some _ e) (Nat.le_refl _) ⟨f,mids,0,d,Heap.get?_push_size _ rfl⟩
  refine assignInOrder_cons (wpAny_assign_Name (store_ok M hN hi B h (fun s2 O=>?_) F))
  refine assignInOrder_cons (wpAny_assign_Name (store_ok (v:=V.ref h'.objs.size) O hN z C rfl (fun s3 P=>assignInOrder_nil ?_) G))
  exact ⟨_,_,P,hw _ fr⟩
 rw [assign_Tuple]
 refine wpAny_bind (wpAny_standAt ?_)
 unfold unpack
 show wpAny _ _ (holding [.ref a] (unpackItems (.ref a) 2 (some 1)) >>= fun vs=>assignInOrder [assign (.Name x l) X.env,assign (.Name y py) X.env] vs) _ _ _
 rcases g with g | g
 ·obtain ⟨f,its,n,m,e⟩:=(show ObjOk X.prog X.w H s.heap a (.lst (x0::xs)) from I.hok a _ g)
  cases m with
  | cons h d =>
   rename_i c mids
   refine wpAny_bind (wpAny_holding (Aw (x:=c) (mids:=mids) (items:=(c::mids).toArray) ⟨_,e,rfl,n,rfl⟩ (I.ok.hd p) (by simp) (by have:=d.length;simp only [List.length_cons] at f;simp;omega) fun h' tk hk=>?_))
   exact fin c mids h d (by simp only [List.length_cons] at f;omega) h' tk hk
 ·obtain ⟨its,m,e,f⟩:=I.tuple g
  cases m with
  | cons h d =>
   rename_i c mids
   refine wpAny_bind (wpAny_holding (DE (x:=c) (mids:=mids) (items:=(c::mids).toArray) e (I.ok.hd p) (by simp) (by have:=d.length;simp only [List.length_cons] at f;simp;omega) fun h' tk hk=>?_))
   exact fin c mids h d (by simp only [List.length_cons] at f;omega) h' tk hk
end
end L2
namespace Ev
open PySem PySem.Spec PyProof.Rows L2
def Fin (X:Cx) (lock:List Nat) (F H:Hp) (W:Fp) (σ:L2.St) (D:Ends):Fl→Prop
 | .nx δ'=>∀ σ' F' H' W',aB X.K F H W F' H' σ' δ' W' No→bH lock σ σ'→D.nx σ' H'
 | .ct δ'=>∀ σ' F' H' W',aB X.K F H W F' H' σ' δ' W' No→bH lock σ σ'→D.ct σ' H'
 | .bk δ'=>∀ σ' F' H' W',aB X.K F H W F' H' σ' δ' W' No→bH lock σ σ'→D.bk σ' H'
 | .rt d δ'=>∀ v σ' F' H' W' Wt,aB X.K F H W F' H' σ' δ' W' Wt→Ow X.K F' H' v d Wt→bH lock σ σ'→D.rt v H'
def SS (C:Ctx) (n:Nat):Prop:=∀ {X:Cx} {c:Cxt},XOk C X c→∀ {m:Nat} {st:S} {x:Stmt} {σ:L2.St} {δ:Dl} {F H:Hp} {W:Fp} {fl:Fl} {D:Ends},mS m c st x=true→SOk X.K F H σ δ W→evS C n st δ=some fl→Fin X C.lock F H W σ D fl→tWS X x D σ H
def SSs (C:Ctx) (n:Nat):Prop:=∀ {X:Cx} {c:Cxt},XOk C X c→∀ {m:Nat} {ss:List S} {xs:List Stmt} {σ:L2.St} {δ:Dl} {F H:Hp} {W:Fp} {fl:Fl} {D:Ends},mSs m c ss xs=true→SOk X.K F H σ δ W→bg C n ss δ=some fl→Fin X C.lock F H W σ D fl→vW X xs D σ H
section
variable {C:Ctx} {X:Cx} {c:Cxt} {n m:Nat} {σ σ1:L2.St} {δ δ' δ1:Dl} {F H F1 H1:Hp} {W W1:Fp} {D:Ends} {lock:List Nat}
theorem Fin.after {fl:Fl} (h:Fin X lock F H W σ D fl) (p:aB X.K F H W F1 H1 σ1 δ1 W1 No) (b:bH lock σ σ1):Fin X lock F1 H1 W1 σ1 D fl:=by
 cases fl with
 | nx δ'=>exact fun a F' H' W' q l=>h a F' H' W' (p.aA q) (b.trans l)
 | ct δ'=>exact fun a F' H' W' q l=>h a F' H' W' (p.aA q) (b.trans l)
 | bk δ'=>exact fun a F' H' W' q l=>h a F' H' W' (p.aA q) (b.trans l)
 | rt d δ'=>exact fun v a F' H' W' Wt q o l=>h v a F' H' W' Wt (p.aA q) o (b.trans l)
theorem IW (a:SS C n) (ih:SSs C n):SSs C (n+1):=by
 intro X c ok m ss xs σ δ F H W fl D hm s he k
 cases m with
 | zero=>simp [mSs] at hm
 | succ m =>
 cases ss with
 | nil =>
  cases xs with
  | cons _ _=>simp [mSs] at hm
  | nil =>
   simp only [bg] at he
   cases he
   exact n8 pss_nil (k _ _ _ _ (.refl s) .refl)
 | cons st ss =>
  cases xs with
  | nil=>simp [mSs] at hm
  | cons x xs =>
   simp only [mSs,Bool.and_eq_true] at hm
   simp only [bg] at he
   refine n8 (pss_cons Di e8) ?_
   split at he
   ·rename_i δ1 e
    exact a ok hm.1 s e fun g F' H' W' p f=>ih ok hm.2 p.ok he (k.after p f)
   ·rename_i b
    refine a ok hm.1 s he ?_
    cases fl with
    | nx δ1=>exact absurd he (b δ1)
    | ct δ1=>exact k
    | bk δ1=>exact k
    | rt d δ1=>exact k
theorem HM {y:Expr} (h:qb y=false) (t:Option Expr) (l:Nat) (env:Env):swapsWith y t l env=pure false:=by
 cases y<;>first | rfl | simp [qb] at h
theorem GV {nm:Str} {y:Expr} {p:Pos} {env:Env} (l:Nat) (h:env.scope.names.lookup nm=some .cell):swapsWith y (some (.Name nm p)) l env=pure false:=by
  have a:(env.kindOf nm==some NameKind.local)=false:=by
    have:env.kindOf nm=some .cell:=h
    rw [this]
    rfl
  unfold swapsWith
  cases y<;>first
    | rfl
    | (show pure (env.blockKind==.function&&env.kindOf nm==some .local&&_&&_)=_
       rw [a,Bool.and_false,Bool.false_and,Bool.false_and])
theorem zJ {y:Expr} {ts:List Expr} {k:Nat} {p:Pos} (l:Nat) (env:Env):swapsWith y (some (.Tuple ts k p)) l env=pure false:=by
 cases y<;>rfl
theorem Fj {y o i:Expr} {p:Pos} (l:Nat) (env:Env):swapsWith y (some (.Subscript o i p)) l env=pure false:=by
 cases y<;>rfl
theorem BW (a:SE C n) (ok:XOk C X c) {e:E} {x:Stmt} {fl:Fl} (hm:mS (m+1) c (.ret e) x=true) (s:SOk X.K F H σ δ W) (he:evS C (n+1) (.ret e) δ=some fl) (k:Fin X C.lock F H W σ D fl):tWS X x D σ H:=by
 unfold mS at hm
 simp only at hm
 split at hm
 ·unfold evS at he
  simp only at he
  split at he
  ·rename_i d δ1 f
   cases he
   refine bf (ps_ret ao) (a ok hm s f fun v F' H' W' Wt p h=>?_)
   cases h with
   | tmp o=>exact k v σ F' H' W' Wt p o .refl
  ·rename_i i δ1 f
   split at he
   ·rename_i d j
    split at he
    ·cases he
    ·cases he
     refine bf (ps_ret ao) (a ok hm s f fun v F' H' W' Wt p h=>?_)
     cases h with
     | @bor v0 _ _ _ _ g q =>
      cases q
      obtain ⟨r,U,R,l,o,s1,s2,dj,st,_⟩:=p.ok.st.zip (aL j)
      rw [g] at l
      cases l
      refine k _ σ F' H' R U ⟨⟨p.ok.sub,st,fun b z=>p.ok.lv b (s2 b z)⟩,dj,fun b z=>p.ok.lv b (s1 b z),p.ext.mono (fun _ z=>z) fun b z=>.inl ?_⟩ o .refl
      rcases z with z | z
      ·exact .inr (s1 b z)
      ·exact .inr (s2 b z)
   ·cases he
  ·rename_i i p0 δ1 _ f
   split at he
   ·rename_i d δ2 j
    cases he
    refine bf (ps_ret ao) (a ok hm s f fun v F' H' W' Wt p h=>?_)
    obtain ⟨t,p2,o⟩:=p.toV h j
    exact k v σ t H' W' Wt p2 o .refl
   ·cases he
  ·cases he
 ·cases hm
theorem zY (b:SE C n) (ok:XOk C X c) {e:E} {x:Stmt} {fl:Fl} (hm:mS (m+1) c (.expr e) x=true) (s:SOk X.K F H σ δ W) (he:evS C (n+1) (.expr e) δ=some fl) (k:Fin X C.lock F H W σ D fl):tWS X x D σ H:=by
 unfold mS at hm
 simp only at hm
 split at hm
 ·rw [Bool.and_eq_true,Bool.not_eq_true'] at hm
  unfold evS at he
  simp only at he
  split at he
  ·rename_i a δ1 d
   cases he
   exact bf (ps_expr ao (HM hm.2 _ _ _)) (b ok hm.1 s d fun v F' H' W' Wt p h=>k σ F' H' W' p.drop .refl)
  ·cases he
 ·cases hm
theorem GL (d:ST C n) (ih:SSs C n) (ok:XOk C X c) {e:E} {a b:List S} {x:Stmt} {fl:Fl} (hm:mS (m+1) c (.ifs e a b) x=true) (s:SOk X.K F H σ δ W) (he:evS C (n+1) (.ifs e a b) δ=some fl) (k:Fin X C.lock F H W σ D fl):tWS X x D σ H:=by
 unfold mS at hm
 simp only at hm
 split at hm
 ·simp only [Bool.and_eq_true] at hm
  obtain ⟨⟨g,h⟩,i⟩:=hm
  unfold evS at he
  simp only at he
  split at he
  ·rename_i δ1 f
   refine bf (ps_if fL e8 e8) (d ok g s f fun F' H' W' p=>?_)
   rw [if_pos rfl]
   exact ih ok h p.ok he (k.after p .refl)
  ·rename_i δ1 f
   refine bf (ps_if fL e8 e8) (d ok g s f fun F' H' W' p=>?_)
   rw [if_neg Bool.false_ne_true]
   exact ih ok i p.ok he (k.after p .refl)
  ·cases he
 ·cases hm
theorem sW {ts ys:List Expr} {k k2:Nat} {p p2:Pos} {env:Env} (h:(ts.length==2||ts.length==3)=false):swappedStores [.Tuple ts k p] (.Tuple ys k2 p2) env=pure none:=by
 unfold swappedStores
 simp [h]
theorem nB {ts ys:List Expr} {k k2:Nat} {p p2:Pos} {env:Env} (h:ys.all (foldedForSure 8)=true):swappedStores [.Tuple ts k p] (.Tuple ys k2 p2) env=pure none:=by
 unfold swappedStores
 simp only [h]
 simp
theorem pf (ok:XOk C X c) {ts ys:List Expr} {k k2:Nat} {p p2:Pos} (h:ts.all (zt c (lE ts))=false):swappedStores [.Tuple ts k p] (.Tuple ys k2 p2) X.env=pure none:=by
 have b:(ts.head?.map (·.pos.line)).getD 0=lE ts:=by cases ts<;>rfl
 unfold swappedStores
 simp only [b]
 simp
 intro _ _ _ _ hall
 exfalso
 rw [List.all_eq_false] at h
 obtain ⟨x,d,hn⟩:=h
 have a:=hall x d
 apply hn
 unfold zt
 cases x with
 | Name id pos =>
  simp only at a ⊢
  split at a
  ·rename_i cc
   have c1:c.sc.names.lookup id=some .local:=by
    have:=cc.1
    rw [show X.env.kindOf id=c.sc.names.lookup id by show X.env.scope.names.lookup id=_;rw [ok.sc]] at this
    exact this
   rw [Bool.and_eq_true]
   exact ⟨by unfold loB;rw [c1],by simpa using cc.2⟩
  ·simp at a
 | _=>simp at a
theorem xV {x y:Str} {c py p p2:Pos} {a b:Expr} {k k2:Nat} {env:Env} (hk:env.scope.kind=.function) (d:env.scope.names.lookup x=some .local) (f:env.scope.names.lookup y=some .local) (g:(py.line==c.line)=true) (ne:x≠y) (ns:noStar [a,b]=true) (hf:BM [a,b]=true) :
  swappedStores [.Tuple [.Name x c,.Name y py] k p] (.Tuple [a,b] k2 p2) env=pure (some [x,y]):=by
 have kx:(env.kindOf x==some .local)=true:=by show (env.scope.names.lookup x==some .local)=true;rw [d];rfl
 have i:(env.kindOf y==some .local)=true:=by show (env.scope.names.lookup y==some .local)=true;rw [f];rfl
 have j:(env.blockKind != .function)=false:=by unfold Env.blockKind;rw [hk];rfl
 unfold BM at hf
 rw [Bool.and_eq_true,Bool.not_eq_true',Bool.not_eq_true'] at hf
 have st:([a,b].any fun | .Starred ..=>true | _=>false)=false:=by
  cases a<;>first | (cases b<;>first | rfl | simp [noStar] at ns) | simp [noStar] at ns
 have dd:[x,y].eraseDups=[x,y]:=by
  have:(y==x)=false:=by rw [beq_eq_false_iff_ne];exact fun e=>ne e.symm
  simp [List.eraseDups_cons,this]
 unfold swappedStores
 simp only [List.head?_cons,Option.map_some,Option.getD_some,Expr.pos,List.filterMap_cons,kx,i,g,j,hf.1,hf.2,st,dd]
 simp [dd]
 intro h
 exfalso
 rcases h with h | h
 ·cases a<;>simp_all [noStar]
 ·cases b<;>first | (simp at h;done) | (cases a<;>simp [noStar] at ns)
theorem qP {x y z:Str} {c py g p p2:Pos} {a b d:Expr} {k k2:Nat} {env:Env} (hk:env.scope.kind=.function) (i:env.scope.names.lookup x=some .local) (j:env.scope.names.lookup y=some .local) (l:env.scope.names.lookup z=some .local) (m:(py.line==c.line)=true) (f:(g.line==c.line)=true)
  (ne:x≠y) (ne2:x≠z) (ne3:y≠z) (ns:noStar [a,b,d]=true) (hf:BM [a,b,d]=true) :
  swappedStores [.Tuple [.Name x c,.Name y py,.Name z g] k p] (.Tuple [a,b,d] k2 p2) env=pure (some [x,y,z]):=by
 have kx:(env.kindOf x==some .local)=true:=by show (env.scope.names.lookup x==some .local)=true;rw [i];rfl
 have n:(env.kindOf y==some .local)=true:=by show (env.scope.names.lookup y==some .local)=true;rw [j];rfl
 have o:(env.kindOf z==some .local)=true:=by show (env.scope.names.lookup z==some .local)=true;rw [l];rfl
 have q:(env.blockKind != .function)=false:=by unfold Env.blockKind;rw [hk];rfl
 unfold BM at hf
 rw [Bool.and_eq_true,Bool.not_eq_true',Bool.not_eq_true'] at hf
 have dd:[x,y,z].eraseDups=[x,y,z]:=by
  have r:(y==x)=false:=by rw [beq_eq_false_iff_ne];exact fun e=>ne e.symm
  have s:(z==x)=false:=by rw [beq_eq_false_iff_ne];exact fun e=>ne2 e.symm
  have t:(z==y)=false:=by rw [beq_eq_false_iff_ne];exact fun e=>ne3 e.symm
  simp [List.eraseDups_cons,r,s,t]
 unfold swappedStores
 simp only [List.head?_cons,Option.map_some,Option.getD_some,Expr.pos,List.filterMap_cons,kx,n,o,m,f,q,hf.1,hf.2,dd]
 simp [dd]
 intro h
 exfalso
 rcases h with h | h | h
 ·cases a<;>simp_all [noStar]
 ·cases b<;>first | (simp at h;done) | (cases a<;>simp [noStar] at ns)
 ·cases d<;>first | (simp at h;done) | (cases a<;>cases b<;>simp [noStar] at ns)
theorem tD:∀ {is:List Nat},dist is=true→is.Nodup
 | [],_=>.nil
 | i::is,h=>by
  unfold dist at h
  rw [Bool.and_eq_true,Bool.not_eq_true'] at h
  refine List.nodup_cons.mpr ⟨fun q=>?_,tD h.2⟩
  have:is.contains i=true:=by simpa using q
  rw [this] at h
  cases h.1
theorem iD {l:Nat} {x:Expr} (h:zt c l x=true):∃ n p,x=.Name n p∧loB c n=true∧(p.line==l)=true:=by
 unfold zt at h
 split at h
 ·rw [Bool.and_eq_true] at h
  exact ⟨_,_,rfl,h.1,h.2⟩
 ·cases h
theorem iX {i:Nat} {n:Str} {p:Pos} (h:mNm c i (.Name n p)=true):nmB c i n=true∧stB c n=true:=by
 simpa [mNm] using h
theorem CW (ih:SAs C n) (ok:XOk C X c) {is:List Nat} {es:List E} {x:Stmt} {fl:Fl} (hm:mS (m+1) c (.par is es) x=true) (s:SOk X.K F H σ δ W) (he:evS C (n+1) (.par is es) δ=some fl) (k:Fin X C.lock F H W σ D fl):tWS X x D σ H:=by
 unfold mS at hm
 simp only at hm
 split at hm
 ·rename_i ts k1 p1 ys k2 p2 pos
  rw [Bool.and_eq_true,Bool.and_eq_true,Bool.and_eq_true,Bool.and_eq_true,Bool.and_eq_true,Bool.and_eq_true] at hm
  obtain ⟨⟨⟨⟨⟨⟨J,B⟩,f⟩,h4⟩,h5⟩,G⟩,M⟩:=hm
  have h4:=beq_iff_eq.mp h4
  have h5:=of_decide_eq_true h5
  unfold evS at he
  simp only at he
  split at he
  ·rename_i as δ1 e1
   split at he
   ·rename_i ds δ2 e2
    split at he
    ·rename_i δ3 N
     cases he
     have P:ts.length=is.length:=by
      have:∀ {is:List Nat} {ts:List Expr},mm c is ts=true→ts.length=is.length:=by
       intro is
       induction is with
       | nil=>intro ts h;cases ts<;>simp_all [mm]
       | cons i is ih =>
        intro ts h
        cases ts with
        | nil=>simp [mm] at h
        | cons t ts =>
         simp only [mm,Bool.and_eq_true] at h
         rw [List.length_cons,List.length_cons,ih h.2]
      exact this f
     have d:swappedStores [.Tuple ts k1 p1] (.Tuple ys k2 p2) X.env=pure none→tWS X (.Assign [.Tuple ts k1 p1] (.Tuple ys k2 p2) pos) D σ H:=fun hw=>by
      obtain ⟨n1,n2⟩:=eS X.env f
      refine bf (ps_asg (pe_tup (aw B)) (pg_tup (ok.calm M) (jN ok f) n1 n2) rfl hw rfl) (ih ok J s e1 fun vs F' H' W' Wt p h=>?_)
      obtain ⟨F2,g,o⟩:=p.bL h e2
      have l2:=o.length
      have l3:=kH e2
      have l4:=kJ e1
      have l5:=nQ J
      have:=aJ
      have:(10:Nat)≤cap:=by decide
      refine ⟨by omega,fun q hq=>⟨q,vs,rfl,SqT.of upd_same,by omega,?_⟩⟩
      have nw:=New.tuple (vs:=vs) g.ok.sub hq
      obtain ⟨dj,p3⟩:=g.tX nw
      have o3:=o.keep (F':=upd F2 q (.tup vs)) (H':=upd H' q (.tup vs)) nw.ext.fsub (nw.ext.apart fun _ _ z=>z)
      exact fj (p3.kQ fun b z=>.inl z) o3 N fun σ' W'' R V _=>k _ _ _ _ R V
     simp only [Bool.or_eq_true,Bool.and_eq_true,Bool.not_eq_true',decide_eq_true_eq] at G
     rcases G with ((G | G) | G) | G
     ·obtain ⟨⟨⟨a1,a2⟩,a3⟩,a4⟩:=G
      have nd:=tD a3
      rw [List.all_eq_true] at a1
      rcases a4 with a4 | a4
      ·match is,ts,ys,P,a4,h4,a1,f,B,J,nd,N,a2 with
       | [i,j],[t1,t2],[y1,y2],_,_,_,a1,f,B,J,nd,N,a2 =>
        obtain ⟨Y,q1,rfl,lo1,_⟩:=iD (a1 t1 (by simp))
        obtain ⟨x2,q2,rfl,y,ln⟩:=iD (a1 t2 (by simp))
        simp only [mm,Bool.and_eq_true] at f
        obtain ⟨m1,_⟩:=iX f.1
        obtain ⟨L,_⟩:=iX f.2.1
        have I:i≠j:=by
         have:=nd
         simp at this
         exact this
        have nx:Y≠x2:=fun e=>by
         have g1:=ok.nm m1
         have g2:=ok.nm L
         rw [e] at g1
         exact I ((List.getElem?_inj (List.getElem?_eq_some_iff.mp g1).1 ok.nd).mp (g1.trans g2.symm))
        refine bf (ps_par (ok.calm M) ok.nd (ok.nm m1) (ok.nm L) I (ok.lo lo1) (ok.lo y) (aw B) (xV (by rw [ok.sc];exact ok.kind) (ok.lo lo1) (ok.lo y) ln nx B a2)) (ih ok J s e1 fun vs F' H' W' Wt p h=>?_)
        obtain ⟨F2,g,o⟩:=p.bL h e2
        obtain ⟨v,r,rfl,w,r2,rfl,rfl,q⟩:=fj (Q:=D.nx) g o N fun σ' W'' R V _=>k _ _ _ _ R V
        exact ⟨v,w,rfl,q⟩
      ·match is,ts,ys,P,a4,h4,a1,f,B,J,nd,N,a2 with
       | [i,j,l],[t1,t2,t3],[y1,y2,y3],_,_,_,a1,f,B,J,nd,N,a2 =>
        obtain ⟨Y,q1,rfl,lo1,_⟩:=iD (a1 t1 (by simp))
        obtain ⟨x2,q2,rfl,y,ln⟩:=iD (a1 t2 (by simp))
        obtain ⟨x3,q3,rfl,Z,aa⟩:=iD (a1 t3 (by simp))
        simp only [mm,Bool.and_eq_true] at f
        obtain ⟨m1,_⟩:=iX f.1
        obtain ⟨L,_⟩:=iX f.2.1
        obtain ⟨m3,_⟩:=iX f.2.2.1
        have a:i≠j∧i≠l∧j≠l:=by
         have:=nd
         simp at this
         exact ⟨this.1.1,this.1.2,this.2⟩
        have O:∀ {i j:Nat} {Y x2:Str},i≠j→nmB c i Y=true→nmB c j x2=true→Y≠x2:=fun I m1 L e=>by
         have g1:=ok.nm m1
         have g2:=ok.nm L
         rw [e] at g1
         exact I ((List.getElem?_inj (List.getElem?_eq_some_iff.mp g1).1 ok.nd).mp (g1.trans g2.symm))
        refine bf (ps_par3 (ok.calm M) ok.nd (ok.nm m1) (ok.nm L) (ok.nm m3) a.1 a.2.1 a.2.2 (ok.lo lo1) (ok.lo y) (ok.lo Z) (aw B)
         (qP (by rw [ok.sc];exact ok.kind) (ok.lo lo1) (ok.lo y) (ok.lo Z) ln aa (O a.1 m1 L) (O a.2.1 m1 m3) (O a.2.2 L m3) B a2)) (ih ok J s e1 fun vs F' H' W' Wt p h=>?_)
        obtain ⟨F2,g,o⟩:=p.bL h e2
        obtain ⟨v,r,rfl,w,r2,rfl,u,r3,rfl,rfl,q⟩:=fj (Q:=D.nx) g o N fun σ' W'' R V _=>k _ _ _ _ R V
        exact ⟨v,w,u,rfl,q⟩
     ·exact d (sW (by simp;omega))
     ·exact d (nB G)
     ·exact d (pf ok G)
    ·cases he
   ·cases he
  ·cases he
 ·cases hm
theorem uE (a:SV C n) (ok:XOk C X c) {t:Tg} {e:E} {tx y:Expr} {pos:Pos} {m1:Nat} {d:Ev.D} {δ2:Dl} (b:mE m1 c e y=true) (f:mTg c t tx=true) (hs:swapsWithSole [tx] y pos.line X.env=pure false) (hw:swappedStores [tx] y X.env=pure none) (g:(assignEach [tx] X.env).map (·.2)=[assign tx X.env])
  (s:SOk X.K F H σ δ W) (h:evV C n e δ=some (d,δ1)) (i:setT C.lock t d δ1=some δ2) (k:Fin X C.lock F H W σ D (.nx δ2)):tWS X (.Assign [tx] y pos) D σ H :=
 bf (ps_asg ao yn hs hw g) (a ok b s h fun v F' H' W' Wt p o=>tu ok f p o i fun l W'' q j _=>k _ _ _ _ q j)
def NxF (C:Ctx) (X:Cx) (n:Nat) (F H:Hp) (W:Fp) (σ:L2.St) (F1:Hp) (tg:Tg) (body:List S) (xs:List Ev.D) (fl:Fl):L2.St→Hp→Prop:=fun σ' H'=>∃ Fc Wc δc,aB X.K F H W Fc H' σ' δc Wc No∧bH C.lock σ σ'∧Same F1 Fc∧forL (setT C.lock tg) (bg C n body) xs δc=some fl
theorem Ac (r:SSs C n) (ok:XOk C X c) (hn:PassesOwn (model X.prog X.w) X.A X.env X.xe) {m1 m2 m3:Nat} {tg:Tg} {R:ItK} {its:List E} {body:List S} {t it:Expr} {l:List Stmt} {pos:Pos} {xs:List Ev.D} {fl:Fl} (M:SIt C n) (h1:mTg c tg t=true) (V:mI m1 c t R its it=true) (h3:mSs m2 c body l=true) (N:c.cm=true)
  (s:SOk X.K F H σ δ W) (e1:dB C n R its δ=some (xs,δ1)) (e2:forL (setT C.lock tg) (bg C n body) xs δ1=some fl) (k:Fin X C.lock F H W σ D fl):tWS X (.For t it l [] pos) D σ H:=by
 refine bf (ps_for hn (ok.calm N) qQ yn e8 (MI.free V X.env)) (M ok V s e1 fun F1 H1 W1 J p w=>?_)
 refine ⟨fun i m σc u=>m=xs.length-i∧i≤xs.length∧∃ Fc Wc δc,aB X.K F H W Fc u σc δc Wc No∧bH C.lock σ σc∧Same F1 Fc∧forL (setT C.lock tg) (bg C n body) (xs.drop i) δc=some fl,
  ⟨_,rfl,Nat.zero_le _,F1,W1,δ1,p,.refl,fun _ _ z=>z,e2⟩,?_⟩
 rintro i m σc u ⟨rfl,hi,Fc,Wc,δc,q,Y,sm,e⟩
 by_cases b:i<xs.length
 ·refine .inr ⟨w.goes i Fc u sm q.ok.sub b,NxF C X n F H W σ F1 tg body (xs.drop (i+1)) fl,
   fun I H' nx=>⟨xs.length-(i+1),by omega,rfl,b,nx⟩,fun x H' yl=>?_⟩
  obtain ⟨F',rx,nw⟩:=w.yields i Fc u x H' (xs[i]) sm q.ok.sub (by simp [b]) yl
  have Z:=q.vp nw
  have y:=sm.trans nw.ext.fsub
  rw [List.drop_eq_getElem_cons b] at e
  unfold forL at e
  split at e
  ·cases e
  ·rename_i δ2 e3
   refine tu ok h1 (.refl Z.ok) (.frz rx) e3 fun σ2 W2 r1 O _=>?_
   have f:=Y.trans O
   have L:=Z.aA r1
   have go:∀ {j:Fl} {P:Ends},bg C n body δ2=some j→Fin X C.lock F' H' W2 σ2 P j→vW X l P σ2 H':=fun {j P} g kf=>r ok h3 r1.ok g kf
   split at e
   ·rename_i δ3 g
    exact go g fun I B Q G h a=>⟨B,G,δ3,L.aA h,f.trans a,y.trans h.ext.fsub,e⟩
   ·rename_i δ3 g
    exact go g fun I B Q G h a=>⟨B,G,δ3,L.aA h,f.trans a,y.trans h.ext.fsub,e⟩
   ·rename_i δ3 g
    cases e
    exact go g fun I B Q G h a=>k _ _ _ _ (L.aA h) (f.trans a)
   ·rename_i d δ3 g
    cases e
    exact go g fun v I B Q G Wt h o a=>k _ _ _ _ _ _ (L.aA h) o (f.trans a)
   ·cases e
 ·have ei:i=xs.length:=by omega
  subst ei
  rw [List.drop_length] at e
  simp only [forL] at e
  cases e
  exact .inl ⟨w.stops Fc u sm q.ok.sub,k _ _ _ _ q Y⟩
theorem sT (p:ST C n) (b:SSs C n) (ok:XOk C X c) (hn:PassesOwn (model X.prog X.w) X.A X.env X.xe) {m1 M f:Nat} {e:E} {body:List S} {t:Expr} {l:List Stmt} {pos:Pos} {fl:Fl} (J:mT m1 c e t=true) (z:mSs M c body l=true)
  (s:SOk X.K F H σ δ W) (N:fY (evT C n e) (bg C n body) f δ=some fl) (k:Fin X C.lock F H W σ D fl):tWS X (.While t l [] pos) D σ H:=by
 refine bf (ps_while hn fL e8) ?_
 refine ⟨fun i σc L=>∃ Fc Wc δc,aB X.K F H W Fc L σc δc Wc No∧bH C.lock σ σc∧fY (evT C n e) (bg C n body) i δc=some fl,⟨f,F,W,δ,.refl s,.refl,N⟩,?_⟩
 rintro i σc L ⟨Fc,Wc,δc,q,u,g⟩
 cases i with
 | zero=>simp [fY] at g
 | succ i =>
  unfold fY at g
  split at g
  ·cases g
  ·rename_i δ2 G
   cases g
   refine p ok J q.ok G fun O P W2 r=>?_
   rw [if_neg Bool.false_ne_true]
   exact k _ _ _ _ (q.aA r) u
  ·rename_i δ2 G
   refine p ok J q.ok G fun O P W2 r=>?_
   rw [if_pos rfl]
   have B:=q.aA r
   refine ⟨fun h H'=>∃ Fc Wc δc,aB X.K F H W Fc H' h δc Wc No∧bH C.lock σ h∧fY (evT C n e) (bg C n body) i δc=some fl,fun h H' nx=>⟨i,Nat.lt_succ_self _,nx⟩,?_⟩
   split at g
   ·rename_i δ3 j
    exact b ok z r.ok j fun h x I y m a=>⟨x,y,δ3,B.aA m,u.trans a,g⟩
   ·rename_i δ3 j
    exact b ok z r.ok j fun h x I y m a=>⟨x,y,δ3,B.aA m,u.trans a,g⟩
   ·rename_i δ3 j
    cases g
    exact b ok z r.ok j fun h x I y m a=>k _ _ _ _ (B.aA m) (u.trans a)
   ·rename_i d δ3 j
    cases g
    exact b ok z r.ok j fun v h x I y Wt m o a=>k _ _ _ _ _ _ (B.aA m) o (u.trans a)
   ·cases g
end
end Ev
namespace Ev.Ob
open PySem PySem.Spec L2 PyProof.Rows
def gSl (K:Frag) (ta:TE) (f:Str):TG:=fun v σ H Q=>ta σ H fun x H2=>∃ a C dx p vs i,x=.ref a∧SlX.Slt H2 a C dx vs∧SlX.SCls K C∧SlX.Slot1 K C f p i∧Q σ (SlX.slH H2 a C dx (SlX.putS i v vs))
theorem Gf {X:Cx} {o:Expr} {f:Str} {ta:TE} {pos:Pos} (ha:PE X o ta) (he:∀ v,assign (.Attribute o f pos) X.env v=(do
   let b ← holding [v] (eval o X.env)
   standAt pos.atName
   holding [v,b] (setAttr b f v)
   release [v,b] []):=by intro _;rfl):PG X (.Attribute o f pos) (gSl X.K ta f):=by
 refine ⟨fun pins s σ H v u Q I r h=>?_⟩
 rw [he]
 refine wpAny_bind (wpAny_holding (thn (ha.run pins s σ H _ I h) fun b s2 ⟨x,k,d,e,a,C,dx,p,vs,i,ex,hsl,c,t,g⟩=>?_))
 subst ex
 obtain rfl:b=Value.ref a:=e
 refine wpAny_bind (wpAny_standAt (wpAny_bind (wpAny_holding (SlX.setslot_ok d hsl c t r fun s3 j=>?_))))
 exact wpAny_release ⟨σ,_,j,g⟩
end Ev.Ob
namespace Ob
open PySem PySem.Spec PyProof.Rows L2
end Ob
namespace Ev
open PySem PySem.Spec PyProof.Rows L2
section
variable {K:Frag} {F H F0 H0:Hp} {W0 W Wt:Fp} {σ:L2.St} {δ:Dl}
theorem OwL.vwl:∀ {vs:List V} {ds:List D} {W:Fp},OwL K F H vs ds W→VwL K F H vs ds
 | _,_,_,.nil=>.nil
 | _,_,_,.cons h t _ _ _=>.cons ⟨_,h⟩ (OwL.vwl t)
theorem VwL.rpl:∀ {vs:List V} {ds:List D},VwL K F H vs ds→fzs ds=true→RpL K F vs ds
 | _,_,.nil,_=>.nil
 | _,_,.cons h t,e=>by
  simp only [fzs,Bool.and_eq_true] at e
  obtain ⟨U,o⟩:=h
  exact .cons (o.fz e.1) (VwL.rpl t e.2)
theorem fm {k:Str} {ks:List Str} {y:Option Expr} {keys:List (Option Expr)} (h:dX (k::ks) (y::keys)=true):∃ i p,y=some (.Constant (.str k) i p)∧dX ks keys=true:=by
 unfold dX at h
 split at h
 ·cases ‹_::_=[]›
 ·rename_i a b
  cases a
  cases b
  rw [Bool.and_eq_true] at h
  cases au h.1
  exact ⟨_,_,rfl,h.2⟩
 ·cases h
theorem jz:∀ {ks:List Str} {keys:List (Option Expr)},dX ks keys=true→keys.all (·.isSome)=true∧ks.length=keys.length
 | [],[],_=>⟨rfl,rfl⟩
 | [],_::_,h=>by simp [dX] at h
 | _::_,[],h=>by simp [dX] at h
 | k::ks,y::keys,h=>by
  obtain ⟨i,p,rfl,a⟩:=fm h
  obtain ⟨b,c⟩:=jz a
  exact ⟨by rw [List.all_cons,b];rfl,by rw [List.length_cons,List.length_cons,c]⟩
theorem yD:∀ {ks:List Str},ks.Nodup→(ks.map (Sum.inr:Str→Key)).Nodup
 | [],_=>List.nodup_nil
 | k::ks,h=>by
  rw [List.nodup_cons] at h
  rw [List.map_cons,List.nodup_cons]
  refine ⟨fun z=>?_,yD h.2⟩
  obtain ⟨y,a,e⟩:=List.mem_map.mp z
  exact h.1 (Sum.inr.inj e▸a)
theorem gq {ks:List Str} {vs:List V} (e:ks.length=vs.length):(e9 ks vs).length=ks.length:=by
 unfold e9
 rw [List.length_zip,List.length_map,e,Nat.min_self]
theorem pX {k:Str}:∀ {ks:List Str} {vs:List V} {ds:List D} {d:D},RpL K F vs ds→(ks.zip ds).lookup k=some d→∃ v,valV (e9 ks vs) (.inr k:Key)=some v∧Rp K F v d
 | [],_,_,d,_,e=>by simp at e
 | _::_,_,_,d,.nil,e=>by simp at e
 | x::ks,_,_,d,.cons (v:=v) (d:=d0) h t,e=>by
  simp only [List.zip_cons_cons,List.lookup_cons] at e
  by_cases a:k=x
  ·subst a
   simp only [beq_self_eq_true,Option.some.injEq] at e
   subst e
   refine ⟨v,?_,h⟩
   unfold e9 valV
   simp
  ·have:(k==x)=false:=by simpa using a
   simp only [this] at e
   obtain ⟨u,b,r⟩:=pX (ks:=ks) t e
   refine ⟨u,?_,r⟩
   unfold e9 valV at b ⊢
   rw [List.map_cons,List.zip_cons_cons,List.find?_cons_of_neg (by simpa using Ne.symm a)]
   exact b
theorem uO {k:Str}:∀ {ks:List Str} {i:Nat},ixK k ks=some i→ks[i]?=some k
 | [],i,e=>by simp [ixK] at e
 | x::ks,i,e=>by
  unfold ixK at e
  split at e
  ·rename_i h
   cases e
   simp [h]
  ·rw [Option.map_eq_some_iff] at e
   obtain ⟨j,a,rfl⟩:=e
   simpa using uO a
theorem vP {k:Str} {v:V} {ks:List Str} {vs:List V} {i:Nat} (nd:ks.Nodup) (e:ks.length=vs.length) (g:ks[i]?=some k):putK (e9 ks vs) (.inr k:Key) v=e9 ks (vs.set i v):=by
 have hi:i<ks.length:=(List.getElem?_eq_some_iff.mp g).1
 have a:ks[i]=k:=(List.getElem?_eq_some_iff.mp g).2
 have c:=gq e
 have any:(e9 ks vs).any (fun d=>decide (d.1=(.inr k:Key)))=true:=by
  rw [List.any_eq_true]
  refine ⟨(.inr k,vs[i]),?_,by simp⟩
  rw [List.mem_iff_getElem]
  refine ⟨i,by omega,?_⟩
  simp [e9,a]
 unfold putK
 rw [if_pos any]
 apply List.ext_getElem
 ·rw [List.length_map,c,gq (by rw [List.length_set];exact e)]
 ·intro j f h
  rw [List.length_map] at f
  simp only [List.getElem_map,e9,List.getElem_zip]
  by_cases b:j=i
  ·subst b
   simp [a]
  ·have:ks[j]'(by omega)≠k:=fun z=>b (List.getElem_inj nd |>.mp (z.trans a.symm))
   rw [if_neg (by simpa using this),List.getElem_set_ne (Ne.symm b)]
theorem uc {v0:V} {i:Nat} {ks:List Str} {xs:List D} {j:Nat} {k:Str} {y:V} {d:D} (q:aB K F0 H0 W0 F H σ δ W Wt) (es:slot δ i=some (.dct true ks xs)) (v:σ[i]?=some (some v0)) (G:j<xs.length) (w:ks[j]?=some k) (r:Rp K F y d) :
  ∃ (a:Addr) (vs:List V),v0=.ref a∧H a=some (.dK (e9 ks vs))∧ks.length=vs.length∧∃ W',aB K F0 H0 W0 F (upd H a (.dK (putK (e9 ks vs) (.inr k:Key) y))) σ (δ.set i (some (.dct true ks (xs.set j d)))) W' No:=by
 obtain ⟨x,u,R,g,o0,s1,s2,z,st,z0⟩:=q.ok.st.zip (aL es)
 rw [v] at g
 cases g
 cases o0 with
 | frz r=>cases r
 | @dct a _ vs _ _ h e0 nd f1 t l =>
  refine ⟨a,vs,rfl,h,e0,?_⟩
  rw [vP nd e0 w]
  have B:W a:=s1 _ t
  have c:∀ b,b≠a→upd H a (.dK (e9 ks (vs.set j y))) b=H b:=fun b C=>upd_ne C
  have m:upd H a (.dK (e9 ks (vs.set j y))) a=some (.dK (e9 ks (vs.set j y))):=upd_same
  generalize upd H a (.dK (e9 ks (vs.set j y)))=H' at *
  have o:Ow K F H' (.ref a) (.dct true ks (xs.set j d)) u:=.dct m (by rw [List.length_set];exact e0) nd f1 t (l.set j r)
  have k0:Kept F H F H' W u:=fun b y n ob e f=>⟨by rw [c b (fun p=>n (p▸t))];exact e,f⟩
  have stN:=z0 (fun _ _ e=>e) o k0 (fun b y=>.inl y) (W':=Un2 W Wt) (fun b y=>.inl y) fun b y=>.inl (s1 b y)
  have lv:∀ b,H b≠none→H' b≠none:=fun b y=>by
   by_cases s:b=a
   ·rw [s,m];simp
   ·rw [c b s];exact y
  refine ⟨Un2 W Wt,⟨fun b ob e=>?_,stN,fun b y=>?_⟩,fun _ y=>y.elim,fun _ y=>y.elim,?_⟩
  ·rw [c b (fun p=>by rw [p,f1] at e;cases e)]
   exact q.ok.sub b ob e
  ·rcases y with y | y
   ·exact lv b (q.ok.lv b y)
   ·exact lv b (q.lt b y)
  ·refine q.ext.trans ⟨fun _ _ e=>e,fun b ob e=>.inl e,fun b ob e n=>?_,fun b e=>?_,fun b y=>?_⟩
   ·rw [c b (fun p=>n (.inr (p▸B)))]
    exact e
   ·by_cases s:b=a
    ·rw [s,m] at e;cases e
    ·rw [c b s] at e;exact e
   ·rcases y with y | y | y
    ·exact y.elim
    ·exact .inl (.inr y)
    ·exact .inl (.inl y)
end
section
variable {C:Ctx} {X:Cx} {c:Cxt} {n m:Nat} {σ:L2.St} {δ δ':Dl} {F H:Hp} {W:Fp} {a:A} {Q:VK}
theorem Fu (ih:SE C n) (ok:XOk C X c) {b:E} {nm:Str} {x:Expr} (hm:mE (m+1) c (.key b nm) x=true) (s:SOk X.K F H σ δ W) (he:evE C (n+1) (.key b nm) δ=some (a,δ')) (k:ah X F H W σ δ' a Q):tW X x σ H Q:=by
 unfold mE at hm
 simp only at hm
 split at hm
 ·rename_i l s0 p1 p2 pos
  simp only [Bool.and_eq_true] at hm
  obtain ⟨f,i⟩:=hm
  cases au f
  unfold evE at he
  simp only at he
  split at he
  ·rename_i x0 δ1 b
   split at he
   ·rename_i o ks xs j
    split at he
    ·rename_i d q
     cases he
     have e:X.A.units+1<cLine:=by have:=ok.units;omega
     refine av (pe_dget e ao pe_str (j4 rfl)) (ih ok i s b fun v F' H' W' Wt p h=>?_)
     obtain ⟨t,vs,rfl,hd,u,nd,l⟩:=(h.look p.ok j).dct p.ok.sub
     obtain ⟨v,g,r⟩:=pX l q
     exact ⟨t,v,rfl,by rw [← g];exact DGet.k (k:=.inr _) hd,k.atom p r⟩
    ·cases he
   ·cases he
  ·cases he
 ·cases hm
theorem AH {x:Stmt} {v:Nat} {b:Str} {e:E} {D:Ends} {fl:Fl} (ih:SE C n) (f:SV C n) (ok:XOk C X c) (hm:mS (m+1) c (.setK v b e) x=true) (s:SOk X.K F H σ δ W) (he:evS C (n+1) (.setK v b e) δ=some fl) (k:Fin X C.lock F H W σ D fl):tWS X x D σ H:=by
 unfold mS at hm
 simp only at hm
 split at hm
 ·rename_i y p s0 p1 p2 p3 z pos
  simp only [Bool.and_eq_true] at hm
  obtain ⟨⟨l,q⟩,t⟩:=hm
  cases au l
  unfold evS at he
  simp only at he
  split at he
  ·rename_i d δ1 u
   split at he
   ·rename_i sl δ2 w
    split at he
    ·rename_i ks xs B
     split at he
     ·rename_i j ej
      split at he
      ·rename_i i
       simp only [Bool.and_eq_true,decide_eq_true_eq] at i
       obtain ⟨c3,c4⟩:=i
       cases he
       have g:X.A.units+1<cLine:=by have:=ok.units;omega
       refine bf (ps_dput g ao pe_str ao (by cases z<;>rfl)) ?_
       refine f ok q s u fun M F1 H1 W1 Wt p1 o=>?_
       obtain ⟨F1,p1,r⟩:=p1.dz o
       refine ih ok t p1.ok w fun N O P W2 G p2 h=>?_
       cases h with
       | @bor v0 _ _ _ _ I pt =>
        cases pt
        obtain ⟨a,vs,rfl,hs,J,W',p3⟩:=uc p2 B I c3 (uO ej) (r.mono p2.ext.fsub)
        have L:(e9 ks vs).length<sizeLine:=by
         rw [gq J]
         rw [sizeLine_eq];omega
        exact ⟨a,_,rfl,.inl ⟨_,.inr b,hs,rfl,L,rfl⟩,k _ _ _ _ (p1.drop.aA p3) .refl⟩
      ·cases he
     ·cases he
    ·cases he
   ·cases he
  ·cases he
 ·cases hm
def AM (X:Cx):List (Option Expr)→List Expr→List (TE × TE)
 | some k::ks,v::vs=>(tW X k,tW X v)::AM X ks vs
 | _,_=>[]
theorem lS {pos:Pos}:∀ {ks:List Str} {keys:List (Option Expr)} {vals:List Expr},dX ks keys=true→keys.length=vals.length→PPs X pos keys vals (AM X keys vals)
 | [],[],[],_,_=>pps_nil
 | [],[],_::_,_,h=>by cases h
 | [],_::_,_,h,_=>by simp [dX] at h
 | _::_,[],_,h,_=>by simp [dX] at h
 | _::_,none::_,_,h,_=>by simp [dX] at h
 | _::_,some _::_,[],_,h=>by cases h
 | k::ks,some e::keys,v::vals,h,a=>by
  obtain ⟨i,p,e0,hk⟩:=fm h
  exact pps_cons ao ao (lS hk (by simpa using a))
theorem lW:∀ {ks:List Str} {keys:List (Option Expr)} {vals:List Expr} {σ:L2.St} {H:Hp} {R:List V→Hp→Prop} {Q:List (V × V)→Hp→Prop},dX ks keys=true→keys.length=vals.length→bQ X vals σ H R→(∀ vs a,ks.length=vs.length→R vs a→Q ((ks.map V.str).zip vs) a)→tPairs (AM X keys vals) σ H Q
 | [],[],[],_,_,_,_,_,_,h,q=>q [] _ rfl h
 | [],[],_::_,_,_,_,_,_,h,_,_=>by cases h
 | [],_::_,_,_,_,_,_,h,_,_,_=>by simp [dX] at h
 | _::_,[],_,_,_,_,_,h,_,_,_=>by simp [dX] at h
 | _::_,none::_,_,_,_,_,_,h,_,_,_=>by simp [dX] at h
 | _::_,some _::_,[],_,_,_,_,_,h,_,_=>by cases h
 | k::ks,some e::keys,v::vals,σ,H,R,Q,h,b,hn,q=>by
  obtain ⟨i,p,e0,hk⟩:=fm h
  cases e0
  refine av pe_str (ay hn fun y H1 z=>?_)
  exact lW hk (by simpa using b) z fun vs a l r=>q (y::vs) a (by rw [List.length_cons,List.length_cons,l]) r
theorem putK_new {acc:List (Key × V)} {k:Key} {v:V} (h:∀ z∈acc,z.1≠k):putK acc k v=acc++[(k,v)]:=by
 unfold putK
 rw [if_neg]
 simp only [List.any_eq_true,decide_eq_true_eq,not_exists,not_and]
 exact h
theorem oH:∀ {more acc:List (Key × V)},(more.map (·.1)).Nodup→(∀ z∈acc,∀ y∈more,z.1≠y.1)→mergeK acc more=acc++more
 | [],acc,_,_=>by simp [mergeK]
 | p::more,acc,nd,h=>by
  rw [List.map_cons,List.nodup_cons] at nd
  show mergeK (putK acc p.1 p.2) more=_
  rw [putK_new fun z a=>h z a p List.mem_cons_self,oH nd.2,List.append_assoc]
  ·rfl
  ·intro z a y b
   rcases List.mem_append.mp a with a | a
   ·exact h z a y (List.mem_cons_of_mem _ b)
   ·simp only [List.mem_cons,List.not_mem_nil,or_false] at a
    rw [a]
    exact fun e=>nd.1 (List.mem_map.mpr ⟨y,b,e.symm⟩)
theorem u5 {ks:List Str} {vs:List V} (e:ks.length=vs.length):(e9 ks vs).map (·.1)=ks.map Sum.inr:=by
 unfold e9
 rw [List.map_fst_zip (by rw [List.length_map,e];exact Nat.le_refl _)]
theorem jh:∀ {ks:List Str} {vs:List V},(ks.map V.str).zip vs=(e9 ks vs).map fun a=>(kV a.1,a.2)
 | [],_=>by simp [e9]
 | _::_,[]=>by simp [e9]
 | k::ks,v::vs=>by
  have:=jh (ks:=ks) (vs:=vs)
  simp only [e9,List.map_cons,List.zip_cons_cons] at this ⊢
  rw [this]
  rfl
theorem HC (ih:SAs C n) (ok:XOk C X c) {ks:List Str} {es:List E} {x:Expr} (hm:mE (m+1) c (.dct ks es) x=true) (s:SOk X.K F H σ δ W) (he:evE C (n+1) (.dct ks es) δ=some (a,δ')) (k:ah X F H W σ δ' a Q):tW X x σ H Q:=by
 unfold mE at hm
 simp only at hm
 split at hm
 ·rename_i keys vals pos
  simp only [Bool.and_eq_true,decide_eq_true_eq,Bool.not_eq_true'] at hm
  obtain ⟨⟨⟨⟨⟨R,v⟩,V⟩,L⟩,M⟩,w⟩:=hm
  unfold evE at he
  simp only at he
  split at he
  ·rename_i as δ1 Y
   split at he
   ·rename_i ds δ2 Z
    split at he
    ·rename_i hc
     cases he
     simp only [decide_eq_true_eq] at hc
     obtain ⟨d,aa⟩:=jz v
     refine av (pe_disp (lS v w) d w (fun z=>by rw [z] at M;cases M) V) ?_
     intro p g
     have B:∀ {G:Hp},Same G H→G p=none:=fun {G} sm=>by
      cases e:G p with
      | none=>rfl
      | some o=>rw [sm _ _ e] at g;cases g
     have N:aB X.K F H W F (upd H p (.dK [])) σ δ W No:=aB.new s (New.nc s.sub g)
     have I:¬ W p:=fun z=>s.lv p z g
     refine lW v w (ih ok R N.ok Y (Q:=fun vs j=>ks.length=vs.length→j p=some (.dK [])∧Q (.ref p) (upd j p (.dK (e9 ks vs)))) fun vs F2 j W2 Wt p2 h hlen=>?_) fun vs j l r=>?_
     ·obtain ⟨u,p3,o3⟩:=p2.bL h Z
      obtain ⟨u,p3,rz⟩:=p3.gL o3
      have J:j p=some (.dK []):=p3.ext.keep p _ upd_same I
      refine ⟨J,?_⟩
      have O:u p=none:=by
       cases e:u p with
       | none=>rfl
       | some o =>
        rcases p3.ext.fnew p o e with z | z | z
        ·rw [B s.sub] at z;cases z
        ·exact absurd z I
        ·rw [upd_same] at z;cases z
      have i:¬ W2 p:=fun z=>by
       rcases p3.ext.wnew p (.inr z) with y | y
       ·exact I y
       ·rw [upd_same] at y;cases y
      have t:=N.ext.trans (p3.ext.mono (fun b q=>.inr q) fun b q=>.inl q)
      refine k (.ref p) u (upd j p (.dK (e9 ks vs))) W2 (At p) ⟨⟨fun b o e=>?_,p3.ok.st.keep (fun _ _ e=>e) fun b q o e f=>⟨by rw [upd_ne (fun z:b=p=>i (by rw [← z];exact q))];exact e,f⟩,fun b q z=>?_⟩,fun b q r=>by rw [show b=p from q] at r;exact i r,fun b q z=>?_,⟨t.fsub,t.fnew,fun b o e n=>?_,fun b e=>?_,fun b q=>?_⟩⟩ (.tmp (.dct upd_same hlen L O rfl rz))
      ·rw [upd_ne fun z=>by rw [z,O] at e;cases e]
       exact p3.ok.sub _ _ e
      ·rw [upd_ne (fun z:b=p=>i (by rw [← z];exact q))] at z
       exact p3.ok.lv b q z
      ·rw [show b=p from q,upd_same] at z;cases z
      ·rw [upd_ne fun z=>by rw [z,g] at e;cases e]
       exact t.keep b o e n
      ·by_cases P:b=p
       ·rw [P];exact g
       ·rw [upd_ne P] at e
        exact t.live b e
      ·rcases q with q | q
       ·refine Or.inr ?_
        rw [show b=p from q];exact g
       ·exact t.wnew b (Or.inr q)
     ·obtain ⟨r1,r2⟩:=r l
      refine ⟨r1,e9 ks vs,jh,?_,?_⟩
      ·rw [gq l]
       omega
      ·rw [oH (by rw [u5 l];exact yD L) (fun z hz=>by cases hz)]
       exact r2
    ·cases he
   ·cases he
  ·cases he
 ·cases hm
theorem none_of {F H:Hp} (s:Same F H) {q:Addr} (a:H q=none):F q=none:=by
 cases e:F q with
 | none=>rfl
 | some o=>rw [s _ _ e] at a;cases a
theorem New.HJ {F H:Hp} {q:Addr} {o:HO} (s:Same F H) (a:H q=none):New F H F (upd H q o) (At q) where
 sub:=fun b u e=>by
  have c:=s b u e
  rw [upd_ne (ne_of_none c a)]
  exact c
 lt:=fun b e=>by rw [show b=q from e,upd_same];simp
 ext:=⟨fun _ _ e=>e,fun _ _ e=>.inl e,fun b u e _=>by rw [upd_ne (ne_of_none e a)];exact e,fun b e=>by
  by_cases d:b=q
  ·rw [d];exact a
  ·rw [upd_ne d] at e
   exact e,fun b e=>.inr (by rw [show b=q from e];exact a)⟩
def gFs (K:Frag) (v:Nat):List (Str × Nat)→TGs
 | []=>gNil
 | p::fs=>gCons (Ev.Ob.gSl K (tVar v) p.1) (gFs K v fs)
theorem mV {v:Nat} {cn:Str} {p:Str × Nat} {fs:List (Str × Nat)} {t:Expr} {ts:List Expr} (h:mFs c v cn (p::fs) (t::ts)=true):∃ y a b,t=.Attribute (.Name y a) p.1 b∧(cn,p.1,p.2)∈c.sl∧nmB c v y=true∧i9 c y=true∧az y=true∧mFs c v cn fs ts=true:=by
 unfold mFs at h
 split at h
 ·cases ‹_::_=[]›
 ·rename_i d e
  cases d
  cases e
  simp only [Bool.and_eq_true] at h
  obtain ⟨⟨⟨⟨⟨f,g⟩,i⟩,j⟩,k⟩,l⟩:=h
  cases au f
  exact ⟨_,_,_,rfl,of_decide_eq_true g,i,j,k,l⟩
 ·cases h
theorem yb (ok:XOk C X c) {v:Nat} {cn:Str}:∀ {fs:List (Str × Nat)} {ts:List Expr},mFs c v cn fs ts=true→PGs X ts (gFs X.K v fs)
 | [],[],_=>pgs_nil
 | [],_::_,h=>by simp [mFs] at h
 | _::_,[],h=>by simp [mFs] at h
 | p::fs,t::ts,h=>by
  obtain ⟨y,f,g,rfl,_,a,b,d,e⟩:=mV h
  obtain ⟨d1,d2⟩:=aX d
  exact pgs_cons (Ev.Ob.Gf (pe_var (ok.nm a) (ok.vis b) d1 d2)) (yb ok e) rfl
theorem oX (env:Env) {v:Nat} {cn:Str}:∀ {fs:List (Str × Nat)} {ts:List Expr},mFs c v cn fs ts=true→(assignEach ts env).length=fs.length∧(assignEach ts env).findIdx? (·.1)=none
 | [],[],_=>⟨rfl,rfl⟩
 | [],_::_,h=>by simp [mFs] at h
 | _::_,[],h=>by simp [mFs] at h
 | p::fs,t::ts,h=>by
  obtain ⟨y,a,b,rfl,_,e,f,g,d⟩:=mV h
  obtain ⟨l1,l2⟩:=oX env d
  have q:assignEach (.Attribute (.Name y a) p.1 b::ts) env=(false,assign (.Attribute (.Name y a) p.1 b) env)::assignEach ts env:=rfl
  rw [q]
  exact ⟨by rw [List.length_cons,l1];rfl,by rw [List.findIdx?_cons];simp [l2]⟩
theorem yr (ok:XOk C X c) {v:Nat} {cn:Str} {v0:V} (f:σ[v]?=some (some v0)) {F0 H0:Hp} {W0:Fp}:∀ {fs:List (Str × Nat)} {ts:List Expr} {ds:List Ev.D} {vs:List V} {xs:List Ev.D} {δ:Dl} {H:Hp} {W:Fp} {Q:L2.St→Hp→Prop},mFs c v cn fs ts=true→aB X.K F0 H0 W0 F H σ δ W No→slot δ v=some (.mob cn xs)→v<δ.length→RpL X.K F vs ds→ds.length=fs.length→fs.all (fun p=>decide (p.2<xs.length))=true →
  (∀ H' W',aB X.K F0 H0 W0 F H' σ (δ.set v (some (.mob cn (xZ xs fs ds)))) W' No→Q σ H')→gFs X.K v fs vs σ H Q
 | [],_,[],_,xs,δ,H,W,Q,hm,p,es,lt,.nil,b,e,k=>by
  refine ⟨rfl,k H W ?_⟩
  have:δ.set v (some (.mob cn (xZ xs [] [])))=δ:=gC (aL es)
  rw [this]
  exact p
 | [],_,_::_,_,_,_,_,_,_,_,_,_,_,_,b,_,_=>by cases b
 | _::_,_,[],_,_,_,_,_,_,_,_,_,_,_,b,_,_=>by cases b
 | _::_,[],_::_,_,_,_,_,_,_,hm,_,_,_,_,_,_,_=>by simp [mFs] at hm
 | g::fs,t::ts,d::ds,_,xs,δ,H,W,Q,hm,p,es,lt,.cons (v:=y) r rs,b,e,k=>by
  obtain ⟨_,_,_,_,h,_,_,_,i⟩:=mV hm
  rw [List.all_cons,Bool.and_eq_true,decide_eq_true_eq] at e
  obtain ⟨j,e⟩:=e
  obtain ⟨Ca,l,sc,m,s1⟩:=ok.sl _ _ _ h
  obtain ⟨a,n,dx,vs',rfl,hn,hs,W',p3⟩:=mr p es f j r
  cases bu l hn
  refine ⟨y,_,rfl,_,f,a,_,dx,m,_,g.2,rfl,hs,sc,s1,?_⟩
  have es':slot (δ.set v (some (.mob cn (xs.set g.2 d)))) v=some (.mob cn (xs.set g.2 d)):=slot_of (by rw [List.getElem?_set_self lt])
  refine yr ok f i p3 es' (by rw [List.length_set];exact lt) rs (by simpa using b) (by rw [List.length_set];exact e) fun H' W' p4=>?_
  rw [List.set_set] at p4
  exact k H' W' p4
theorem zV {x:Stmt} {v:Nat} {cn:Str} {fs:List (Str × Nat)} {es:List E} {D:Ends} {fl:Fl} (ih:SE C n) (d:SAs C n) (ok:XOk C X c) (hm:mS (m+1) c (.parF v cn fs es) x=true) (s:SOk X.K F H σ δ W) (he:evS C (n+1) (.parF v cn fs es) δ=some fl) (k:Ev.Fin X C.lock F H W σ D fl):tWS X x D σ H:=by
 unfold mS at hm
 simp only at hm
 split at hm
 ·rename_i ts k1 p1 ys k2 p2 pos
  simp only [Bool.and_eq_true,decide_eq_true_eq,Bool.not_eq_true'] at hm
  obtain ⟨⟨⟨⟨⟨l,r⟩,e⟩,I⟩,t⟩,f⟩:=hm
  unfold evS at he
  simp only at he
  split at he
  ·rename_i as δ1 u
   split at he
   ·rename_i ds δ2 w
    split at he
    ·rename_i sl δ3 a
     split at he
     ·rename_i cn' xs g
      split at he
      ·rename_i j
       simp only [Bool.and_eq_true,decide_eq_true_eq] at j
       obtain ⟨⟨⟨c1,c2⟩,c3⟩,c4⟩:=j
       subst c1
       cases he
       obtain ⟨y,z⟩:=oX X.env e
       refine bf (ps_asg (pe_tup (aw r)) (pg_tup (ok.calm f) (yb ok e) y z) rfl (pf ok t) rfl) (d ok l s u fun vs F' H' W' Wt p h=>?_)
       obtain ⟨J,b,o⟩:=p.bL h w
       have l2:=o.length
       have:=aJ
       have:(10:Nat)≤cap:=by decide
       have rz:=o.vwl.rpl c2
       have i:sl=v∧δ3=δ2:=by
        cases n with
        | zero=>simp [evE] at a
        | succ n =>
         unfold evE at a
         simp only at a
         split at a
         ·split at a
          ·cases a
          ·cases a;exact ⟨rfl,rfl⟩
         ·cases a
       obtain ⟨rfl,rfl⟩:=i
       obtain ⟨v0,_,_,B,_⟩:=b.ok.st.zip (aL g)
       refine ⟨by omega,fun q G=>⟨q,vs,rfl,SqT.of upd_same,by omega,?_⟩⟩
       have nw:=New.tuple (vs:=vs) b.ok.sub G
       obtain ⟨dj,p3⟩:=b.tX nw
       refine yr ok B e p3.drop g ?_ (rz.mono nw.ext.fsub) c3 c4 fun L W2 p4=>k _ _ _ _ p4 .refl
       exact (List.getElem?_eq_some_iff.mp (aL g)).1
      ·cases he
     ·cases he
    ·cases he
   ·cases he
  ·cases he
 ·cases hm
end
end Ev
namespace Ev
open PySem PySem.Spec PyProof.Rows L2
section
variable {X:Cx}
end
section
variable {C:Ctx} {X:Cx} {c:Cxt} {n m:Nat} {σ:L2.St} {δ δ':Dl} {F H:Hp} {W:Fp} {a:A} {Q:VK}
end
end Ev
namespace Ev
open PySem PySem.Spec PyProof.Rows L2
section
variable {C:Ctx} {X:Cx} {c:Cxt} {n m:Nat} {σ:L2.St} {δ δ':Dl} {F H:Hp} {W:Fp} {a:A} {Q:VK}
theorem oB {CX:CXT} {b:Nat} {f Ca:Addr} {fd:FuncData} {ps:List Str} {sp:Sp} {E:XK} {x:Str} {e:Expr} {es:List Expr} {t:TA} {p pos:Pos} (M:Mk X.K Ca f) (d:FnOk X.prog X.w X.K X.mg X.base CX b f fd ps sp) (g:Room (b+1) X.A) (i:Binds X.K fd ps []) (j:Passes CX X E) (ha:PA X (e::es) t)
  (he:starEach (e::es) X.env=(false,eval e X.env)::starEach es X.env) (a:(backTo pos (starEach es X.env)).any (·.1)=false)
  (h:tW X (.Name x p) σ H fun v H1=>v=.ref Ca∧tMake Ca sp [] E t σ H1 Q):tW X (.Call (.Name x p) (e::es) [] pos) σ H Q:=by
 intro pins s I
 refine wpAny_Call_Name_kw (thn (h pins s I) fun u s1 ⟨v,H1,k,r1,ev,q⟩=>?_)
 subst ev
 cases r1
 refine PySem.W.callWith_K (h₀:=X.base) I.ok.mod.kin M.kp (thn (ha.run pos pins s1 σ H1 _ k q) fun us s2 ⟨vs,l,c,r,q⟩=>⟨c.kIn,?_⟩) he a
 exact run_make M d g i .nil j c r q
theorem Vw.cls {K:Frag} {x:V} {cn:Str} (h:Vw K F H x (.cls cn)):∃ Ca:Addr,x=.ref Ca∧nsIn K mainGlobals cn=some (some (.ref Ca)):=by
 obtain ⟨W,h⟩:=h
 cases h with
 | frz r =>
  cases r with
  | cls n=>exact ⟨_,rfl,n⟩
theorem Cf (l:SE C n) (ih:SAs C n) (ok:XOk C X c) {v:Nat} {cn nm:Str} {f:Nat} {st:Bool} {es:List E} {x:Expr} (hm:mE (m+1) c (.clsC v cn nm f st es) x=true) (s:SOk X.K F H σ δ W) (he:evE C (n+1) (.clsC v cn nm f st es) δ=some (a,δ')) (k:ah X F H W σ δ' a Q):tW X x σ H Q:=by
 unfold mE at hm
 simp only at hm
 split at hm
 ·rename_i g p0 y ys pos
  simp only [Bool.and_eq_true] at hm
  obtain ⟨⟨⟨⟨⟨i,M⟩,N⟩,j⟩,h6⟩,_⟩:=hm
  have i:=of_decide_eq_true i
  unfold evE at he
  simp only at he
  split at he
  ·rename_i cn' δ0 e0
   split at he
   ·rename_i b
    have b:=of_decide_eq_true b
    subst b
    split at he
    ·rename_i as δ1 O
     cases st with
     | false =>
      simp only [Bool.false_eq_true,if_false] at he i
      unfold obD at he
      simp only at he
      split at he
      ·rename_i a0
       split at he
       ·rename_i rs δ2 P
        cases he
        obtain ⟨ds,r,outs,ec⟩:=bC P
        obtain ⟨Ca,o,hn | ⟨w,room,B,d⟩⟩:=ok.vn f _ i
        ·rw [hn] at ec
         cases ec
        ·obtain ⟨fI,fi,fl,fdI,fdl,mk,G,Z,aa,I,c3,F3,b3,fdi,F4,b4⟩:=w.ex
         refine oB mk G (room.mono (by omega)) I pass0 (aw j) (aj _ j) (aq _ _ (ak j)) (l ok M s e0 fun v1 F1 H1 W1 J p1 o1=>?_)
         obtain ⟨Cb,rfl,hn⟩:=(o1.look p1.ok rfl).cls
         cases bu o.nsC hn
         refine ⟨rfl,?_⟩
         have go:=ih ok N p1.ok O (Q:=fun vs H1=>lg X.K ((obC C cn').call f) [] vs H1 Q) fun vs F' H' W' Wt p h=>by
          have cc:=(cP (p1.drop.aA p) h (hO P) fun v F2 R W2 Wu q hq=>k v F2 R W2 Wu q hq).2
          rwa [show (obC C cn').io f=[] from B] at cc
         exact ax go fun vs H1 h=>oG o d h
       ·cases he
      ·cases he
     | true =>
      simp only [if_true] at he i
      unfold obD at he
      simp only at he
      obtain ⟨V,B0,Y,rfl,rfl,r,rs,outs,ec,rfl⟩:=rH he
      obtain ⟨Ca,o,OA,hn | ⟨w,room,d⟩⟩:=ok.vs f _ i
      ·rw [hn] at ec
       cases ec
      ·obtain ⟨A1,B1,U1,ea,u⟩:=d _ _ _ ec
       cases ea
       by_cases lt:Y<V
       ·rw [if_pos lt] at u
        cases u
        obtain ⟨fI,fdI,mk,G,I,_⟩:=w.ex
        refine oB mk G (room.mono (by omega)) I pass0 (aw j) (aj _ j) (aq _ _ (ak j)) (l ok M s e0 fun v1 F1 H1 W1 J p1 o1=>?_)
        obtain ⟨Cb,rfl,hn⟩:=(o1.look p1.ok rfl).cls
        cases bu o.nsC hn
        refine ⟨rfl,?_⟩
        refine ih ok N p1.ok O fun vs F' H' W' Wt p h=>?_
        intro x dx hx L e
        rw [List.append_nil,qW p.ok h]
        exact ⟨x,dx,V,B0,Y,rfl,lt,(.inl ⟨upd_same,rfl⟩),by rw [upd_ne e,upd_same];exact fun z=>(nomatch z),e,fun R t hs ht nt fr lv=>⟨rfl,rk k (p1.drop.aA p) o.nsC hx L e hs ht nt fr lv⟩⟩
       ·rw [if_neg lt] at u
        cases u
    ·cases he
   ·cases he
  ·cases he
 ·cases hm
end
end Ev
namespace Ev
open PySem PySem.Spec PyProof.Rows L2
theorem tZ:∀ ns:List Int,frzs (ns.map D.int)=ns.map D.int
 | []=>rfl
 | n::ns=>by
  simp only [List.map_cons,frzs,D.frz,tZ ns]
theorem fh {K:Frag} {F:Hp} {x:V} {a:D} {q:List Int} (h:nk a=some q) (r:Rp K F x a.frz):∃ b,x=.ref b∧SqT K F b (q.map V.int):=by
 cases a with
 | tup ys =>
  have e:intsOf ys=some q:=h
  have c:=dG e
  subst c
  simp only [D.frz,tZ] at r
  cases r with
  | tup h l =>
   obtain ⟨rfl,_⟩:=l.ints e
   exact ⟨_,rfl,h⟩
 | _=>cases h
theorem oV {K:Frag} {F:Hp} {q:List Int}:∀ {L:List Dt.Row} {xs:List D},RpL K F (Dt.mM L) xs→(∀ d,atK (Dt.cF L) xs q=some d→∃ v,Dt.atL L q=some v∧Rp K F v d)∧(atK (Dt.cF L) xs q=none→Dt.atL L q=none)
 | [],_,.nil=>⟨fun d h=>by simp [Dt.cF,atK] at h,fun _=>rfl⟩
 | p::L,_,.cons (d:=d0) (ds:=ds) r t=>by
  obtain ⟨i1,i2⟩:=oV (q:=q) (L:=L) t
  unfold atK Dt.atL at i1 i2 ⊢
  unfold Dt.cF at i1 i2 ⊢
  rw [List.map_cons,List.zip_cons_cons,List.find?_cons,List.find?_cons]
  by_cases a:p.2.1=q
  ·rw [decide_eq_true a]
   exact ⟨fun d e=>by cases e;exact ⟨_,rfl,r⟩,fun e=>by cases e⟩
  ·rw [decide_eq_false a]
   exact ⟨i1,i2⟩
theorem sI {q:List Int}:∀ L:List Dt.Row,(Dt.atL L q).isSome=(Dt.cF L).contains q
 | []=>rfl
 | p::L=>by
  have ih:=sI (q:=q) L
  unfold Dt.atL Dt.cF at ih ⊢
  rw [List.find?_cons,List.map_cons,List.contains_cons]
  by_cases a:p.2.1=q
  ·rw [decide_eq_true a,a]
   simp
  ·rw [decide_eq_false a,← ih]
   have:(q==p.2.1)=false:=by simpa using fun z=>a z.symm
   rw [this,Bool.false_or]
theorem uX {K:Frag} {F:Hp} {q:List Int} {v:V} {d:D} (r:Rp K F v d):∀ {L:List Dt.Row} {xs:List D},RpL K F (Dt.mM L) xs →
  Dt.cF (L.map fun p:Dt.Row=>if p.2.1=q then (p.1,p.2.1,v) else p)=Dt.cF L∧RpL K F (Dt.mM (L.map fun p:Dt.Row=>if p.2.1=q then (p.1,p.2.1,v) else p)) (((Dt.cF L).zip xs).map fun p=>if p.1=q then d else p.2)
 | [],_,.nil=>⟨rfl,.nil⟩
 | p::L,_,.cons (d:=d0) (ds:=ds) h t=>by
  obtain ⟨i1,i2⟩:=uX (q:=q) r (L:=L) t
  simp only [Dt.cF,Dt.mM] at i1 i2 ⊢
  simp only [List.map_cons,List.zip_cons_cons]
  rw [i1]
  by_cases a:p.2.1=q
  ·simp only [a,if_true]
   exact ⟨trivial,.cons r i2⟩
  ·simp only [a,if_false]
   exact ⟨trivial,.cons h i2⟩
theorem nZ {K:Frag} {F:Hp} {q:List Int} {b:Addr} {v:V} {d:D} {L:List Dt.Row} {xs:List D} (r:Rp K F v d) (l:RpL K F (Dt.mM L) xs) :
  Dt.cF (Dt.putL L q b v)=(putD (Dt.cF L) xs q d).1∧RpL K F (Dt.mM (Dt.putL L q b v)) (putD (Dt.cF L) xs q d).2:=by
 unfold Dt.putL putD
 rw [sI]
 split
 ·exact uX r l
 ·unfold Dt.cF Dt.mM at *
  rw [List.map_append,List.map_append]
  exact ⟨rfl,l.append (.cons r .nil)⟩
theorem hX {K:Frag} {F:Hp} {q:List Int} {b:Addr} {v:V} {L:List Dt.Row} (ks:Dt.aT K F L) (c:SqT K F b (q.map V.int)):Dt.aT K F (Dt.putL L q b v):=by
 unfold Dt.putL
 intro p a
 split at a
 ·obtain ⟨p0,h0,rfl⟩:=List.mem_map.mp a
  have:=ks p0 h0
  split
  ·exact this
  ·exact this
 ·rcases List.mem_append.mp a with a | a
  ·exact ks p a
  ·cases List.mem_singleton.mp a
   exact c
section
variable {C:Ctx} {X:Cx} {c:Cxt} {n m:Nat} {σ:L2.St} {δ δ':Dl} {F H:Hp} {W:Fp} {a:A} {Q:VK}
theorem lT {K:Frag} {δ2:Dl} {d h:Hp} {W2:Fp} {p:Addr} {o0 o:HO} (s:SOk K F H σ δ W) (c:H p=none) (no:¬ mQ o0) (P:aB K F (upd H p o0) W d h σ δ2 W2 No) :
  h p=some o0∧d p=none∧aB K F H W d (upd h p o) σ δ2 W2 (At p):=by
 have m:aB K F H W F (upd H p o0) σ δ W No:=aB.new s (New.nc s.sub c)
 have i:¬ W p:=fun z=>s.lv p z c
 have j:h p=some o0:=P.ext.keep p _ upd_same i
 have k:d p=none:=by
  cases e:d p with
  | none=>rfl
  | some o =>
   rcases P.ext.fnew p o e with z | z | z
   ·rw [none_of s.sub c] at z;cases z
   ·exact absurd z i
   ·rw [upd_same] at z;cases z
 have a:¬ W2 p:=fun z=>by
  rcases P.ext.wnew p (.inr z) with y | y
  ·exact i y
  ·rw [upd_same] at y;cases y
 have g:=m.ext.trans (P.ext.mono (fun b q=>.inr q) fun b q=>.inl q)
 refine ⟨j,k,⟨fun b o e=>?_,P.ok.st.keep (fun _ _ e=>e) fun b q o e f=>⟨by rw [upd_ne (fun z:b=p=>a (by rw [← z];exact q))];exact e,f⟩,fun b q z=>?_⟩,fun b q r=>by rw [show b=p from q] at r;exact a r,fun b q z=>?_,⟨g.fsub,g.fnew,fun b o e n=>?_,fun b e=>?_,fun b q=>?_⟩⟩
 ·rw [upd_ne fun z=>by rw [z,k] at e;cases e]
  exact P.ok.sub _ _ e
 ·rw [upd_ne (fun z:b=p=>a (by rw [← z];exact q))] at z
  exact P.ok.lv b q z
 ·rw [show b=p from q,upd_same] at z;cases z
 ·rw [upd_ne fun z=>by rw [z,c] at e;cases e]
  exact g.keep b o e n
 ·by_cases l:b=p
  ·rw [l];exact c
  ·rw [upd_ne l] at e
   exact g.live b e
 ·rcases q with q | q
  ·refine Or.inr ?_
   rw [show b=p from q];exact c
  ·exact g.wnew b (Or.inr q)
theorem B7 (ok:XOk C X c) {x:Expr} (hm:mE (m+1) c .dtk0 x=true) (s:SOk X.K F H σ δ W) (he:evE C (n+1) .dtk0 δ=some (a,δ')) (k:ah X F H W σ δ' a Q):tW X x σ H Q:=by
 unfold mE at hm
 simp only at hm
 split at hm
 ·unfold evE at he
  cases he
  exact av Dt.AJ fun p ob b=>k.goes (aB.refl s) (.ref p) F (upd H p (Dt.DkO p ob [])) (At p) (.dtk upd_same (fun q h=>nomatch h) rfl rfl (none_of s.sub b) rfl .nil) (New.HJ s.sub b)
 ·cases hm
theorem By (e:SV C n) (ok:XOk C X c) {g h:E} {x:Expr} (hm:mE (m+1) c (.dtk1 g h) x=true) (s:SOk X.K F H σ δ W) (he:evE C (n+1) (.dtk1 g h) δ=some (a,δ')) (k:ah X F H W σ δ' a Q):tW X x σ H Q:=by
 unfold mE at hm
 simp only at hm
 split at hm
 ·simp only [Bool.and_eq_true] at hm
  obtain ⟨j,l⟩:=hm
  unfold evE at he
  simp only at he
  split at he
  ·rename_i J δ1 r
   split at he
   ·rename_i q t
    split at he
    ·rename_i d δ2 u
     cases he
     have L:=ok.units
     refine av (Dt.AF (by omega) ao ao) fun p ob0 f=>?_
     have v:aB X.K F H W F (upd H p (Dt.DkO p ob0 [])) σ δ W No:=aB.new s (New.nc s.sub f)
     refine e ok j v.ok r fun M F1 H1 W1 Wt p1 o1=>?_
     obtain ⟨F1,p1,r1⟩:=p1.dz o1
     refine e ok l p1.ok u fun w i N W2 y p2 o2=>?_
     obtain ⟨i,p2,B⟩:=p2.dz o2
     obtain ⟨b,rfl,G⟩:=fh t r1
     have kb2:=af p2.ext.fsub G
     have P:=p1.aA p2
     obtain ⟨g1,g2,_⟩:=lT (o:=Dt.DkO p ob0 []) s f dS P
     refine ⟨b,q,rfl,af p2.ok.sub kb2,g1,fun ob=>?_⟩
     obtain ⟨_,_,g3⟩:=lT (o:=Dt.DkO p ob [(b,q,w)]) s f dS P
     exact k (.ref p) i _ W2 (At p) g3 (.tmp (.dtk upd_same (fun z I=>by cases List.mem_singleton.mp I;exact kb2) rfl rfl g2 rfl (.cons B .nil)))
    ·cases he
   ·cases he
  ·cases he
 ·cases hm
theorem fu {K:Frag} {F0 H0:Hp} {W0 Wt:Fp} {i:Nat} {v0:V} {o:Bool} {ks:List (List Int)} {xs:List D} (p:aB K F0 H0 W0 F H σ δ W Wt) (a:σ[i]?=some (some v0)) (e:slot δ i=some (.dtk o ks xs)) :
  ∃ d ob L,v0=.ref d∧H d=some (Dt.DkO d ob L)∧Dt.aT K F L∧Dt.cF L=ks∧RpL K F (Dt.mM L) xs:=by
 obtain ⟨b,f,R,g,o0,s1,s2,c,st,z0⟩:=p.ok.st.zip (aL e)
 rw [a] at g
 cases g
 exact Vw.dtk p.ok.sub ⟨_,o0⟩
theorem kB {d:Option D} (h:xN d=true):∃ o ks xs,d=some (.dtk o ks xs):=by
 unfold xN at h
 split at h
 ·exact ⟨_,_,_,rfl⟩
 ·cases h
theorem BZ (ih:SE C n) (e:SV C n) (ok:XOk C X c) {v:Nat} {r:E} {x:Expr} (hm:mE (m+1) c (.dgt1 v r) x=true) (s:SOk X.K F H σ δ W) (he:evE C (n+1) (.dgt1 v r) δ=some (a,δ')) (k:ah X F H W σ δ' a Q):tW X x σ H Q:=by
 unfold mE at hm
 simp only at hm
 split at hm
 ·rename_i y p0 nm ap t cp
  simp only [Bool.and_eq_true] at hm
  obtain ⟨⟨⟨⟨z,B⟩,G⟩,I⟩,u⟩:=hm
  cases au z
  unfold evE at he
  simp only at he
  split at he
  ·rename_i sl δ1 J
   split at he
   ·rename_i hd
    obtain ⟨o1,L,M,f⟩:=kB hd
    split at he
    ·rename_i kd δ2 N
     split at he
     ·rename_i q O
      split at he
      ·rename_i o2 R g V
       cases he
       have h:X.A.units+1<cLine:=by have:=ok.units;omega
       have st:starEach [t] X.env=[(false,eval t X.env)]:=aj _ u
       refine av (Dt.x6 h ao ao ⟨rfl,Ob.jf X.env cp u (by simp),B,by rw [st];rfl⟩) (ih ok G s J fun xo F1 H1 W1 Y p1 g1=>?_)
       cases g1 with
       | @bor v0 _ _ _ _ w pt =>
        cases pt
        obtain ⟨d1,i,Z,rfl,j,l,_,_⟩:=fu p1 w f
        refine ⟨d1,Z,rfl,⟨⟨i,j⟩,aD p1.ok.sub l⟩,e ok I p1.ok N fun xv F2 H2 W2 aa p2 g2=>?_⟩
        obtain ⟨F2,p2,r2⟩:=p2.dz g2
        obtain ⟨b,rfl,kb⟩:=fh O r2
        obtain ⟨d2,o,L2,ed,hd2,p,rfl,l2⟩:=fu p2 w V
        cases ed
        refine ⟨b,L2,q,rfl,⟨⟨o,hd2⟩,aD p2.ok.sub p⟩,af p2.ok.sub kb,?_⟩
        have P:=p1.drop.aA p2
        obtain ⟨i1,i2⟩:=oV (q:=q) l2
        cases d:atK (Dt.cF L2) g q with
        | none =>
         rw [i2 d]
         rw [d] at k
         exact k.atom P .non
        | some dv =>
         obtain ⟨v,ev,rv⟩:=i1 _ d
         rw [ev]
         rw [d] at k
         exact k.atom P rv
      ·cases he
     ·cases he
    ·cases he
   ·cases he
  ·cases he
 ·cases hm
theorem HA (ih:SE C n) (d:SV C n) (ok:XOk C X c) {v:Nat} {t u:E} {x:Expr} (hm:mE (m+1) c (.dgt v t u) x=true) (s:SOk X.K F H σ δ W) (he:evE C (n+1) (.dgt v t u) δ=some (a,δ')) (k:ah X F H W σ δ' a Q):tW X x σ H Q:=by
 unfold mE at hm
 simp only at hm
 split at hm
 ·rename_i y p0 nm ap w z cp
  simp only [Bool.and_eq_true] at hm
  obtain ⟨⟨⟨⟨⟨G,I⟩,J⟩,L⟩,M⟩,f⟩:=hm
  cases au G
  unfold evE at he
  simp only at he
  split at he
  ·rename_i sl δ1 N
   split at he
   ·rename_i hd
    obtain ⟨o1,O,R,g⟩:=kB hd
    split at he
    ·rename_i kd δ2 V
     split at he
     ·rename_i q Y
      split at he
      ·rename_i dd δ3 Z
       split at he
       ·rename_i o2 aa h e4
        cases he
        have i:X.A.units+1<cLine:=by have:=ok.units;omega
        have st:starEach [w,z] X.env=[(false,eval w X.env),(false,eval z X.env)]:=by
         rw [aj _ f,aj _ (ak f)]
         rfl
        refine av (Dt.vV i ao ao ao ⟨rfl,Ob.jf X.env cp f (by simp),I,by rw [st];rfl⟩) (ih ok J s N fun xo F1 H1 W1 ab p1 g1=>?_)
        cases g1 with
        | @bor v0 _ _ _ _ B pt =>
         cases pt
         obtain ⟨d1,j,L1,rfl,l,o,_,_⟩:=fu p1 B g
         refine ⟨d1,L1,rfl,⟨⟨j,l⟩,aD p1.ok.sub o⟩,d ok L p1.ok V fun xv F2 H2 W2 ac p2 g2=>?_⟩
         obtain ⟨F2,p2,r2⟩:=p2.dz g2
         obtain ⟨b,rfl,kb⟩:=fh Y r2
         refine d ok M p2.ok Z fun zv F3 H3 W3 ad p3 g3=>?_
         obtain ⟨F3,p3,r3⟩:=p3.dz g3
         obtain ⟨d2,p,L2,ed,hd2,r,rfl,l2⟩:=fu p3 B e4
         cases ed
         refine ⟨b,L2,q,rfl,⟨⟨p,hd2⟩,aD p3.ok.sub r⟩,af p3.ok.sub (af p3.ext.fsub kb),?_⟩
         have P:=(p1.drop.aA p2).aA p3
         obtain ⟨i1,i2⟩:=oV (q:=q) l2
         cases e:atK (Dt.cF L2) h q with
         | none =>
          rw [i2 e]
          rw [e] at k
          exact k.atom P r3
         | some dv =>
          obtain ⟨v,ev,rv⟩:=i1 _ e
          rw [ev]
          rw [e] at k
          exact k.atom P rv
       ·cases he
      ·cases he
     ·cases he
    ·cases he
   ·cases he
  ·cases he
 ·cases hm
theorem Hx (ih:SE C n) (d:SV C n) (ok:XOk C X c) {v:Nat} {h:E} {x:Expr} (hm:mE (m+1) c (.dix v h) x=true) (s:SOk X.K F H σ δ W) (he:evE C (n+1) (.dix v h) δ=some (a,δ')) (k:ah X F H W σ δ' a Q):tW X x σ H Q:=by
 unfold mE at hm
 simp only at hm
 split at hm
 ·rename_i y p0 O pos
  simp only [Bool.and_eq_true,Bool.not_eq_true'] at hm
  obtain ⟨⟨i,j⟩,l⟩:=hm
  unfold evE at he
  simp only at he
  split at he
  ·rename_i sl δ1 o
   split at he
   ·rename_i P δ2 p
    split at he
    ·rename_i q r
     split at he
     ·rename_i o2 t u w
      split at he
      ·rename_i R z
       cases he
       have e:X.A.units+1<cLine:=by have:=ok.units;omega
       refine av (Dt.CT e ao ao (j4 l)) (ih ok i s o fun V F1 H1 W1 B p1 g1=>?_)
       cases g1 with
       | @bor v0 _ _ _ _ G pt =>
        cases pt
        refine d ok j p1.ok p fun Y I Z W2 J p2 g2=>?_
        obtain ⟨I,p2,L⟩:=p2.dz g2
        obtain ⟨b,rfl,M⟩:=fh r L
        obtain ⟨d2,f,L2,rfl,hd2,g,rfl,l2⟩:=fu p2 G w
        obtain ⟨v,ev,N⟩:=(oV (q:=q) l2).1 _ z
        exact ⟨d2,b,L2,q,v,rfl,rfl,⟨⟨f,hd2⟩,aD p2.ok.sub g⟩,af p2.ok.sub M,ev,k.atom (p1.drop.aA p2) N⟩
      ·cases he
     ·cases he
    ·cases he
   ·cases he
  ·cases he
 ·cases hm
theorem wK {K:Frag} {F0 H0:Hp} {W0 Wt:Fp} {v0:V} {i:Nat} {ks:List (List Int)} {xs:List D} {q:List Int} {b:Addr} {y:V} {d:D} (p:aB K F0 H0 W0 F H σ δ W Wt) (es:slot δ i=some (.dtk true ks xs)) (x:σ[i]?=some (some v0)) (z:SqT K F b (q.map V.int)) (r:Rp K F y d) :
  ∃ (a:Addr) (ob:Obj) (L:List Dt.Row),v0=.ref a∧H a=some (Dt.DkO a ob L)∧Dt.aT K F L∧L.length=ks.length∧∀ c,∃ W',aB K F0 H0 W0 F (upd H a (Dt.DkO a c (Dt.putL L q b y))) σ (δ.set i (some (.dtk true (putD ks xs q d).1 (putD ks xs q d).2))) W' No:=by
 obtain ⟨B,v,R,g,o0,s1,s2,C,st,z0⟩:=p.ok.st.zip (aL es)
 rw [x] at g
 cases g
 cases o0 with
 | frz r=>cases r
 | @dtk a ob L _ vs _ _ h w k G f1 u l =>
  subst k G
  refine ⟨a,ob,L,rfl,h,w,by simp [Dt.cF],fun c=>?_⟩
  have I:W a:=s1 _ u
  have j:∀ t,t≠a→upd H a (Dt.DkO a c (Dt.putL L q b y)) t=H t:=fun t J=>upd_ne J
  have m:upd H a (Dt.DkO a c (Dt.putL L q b y)) a=some (Dt.DkO a c (Dt.putL L q b y)):=upd_same
  generalize upd H a (Dt.DkO a c (Dt.putL L q b y))=H' at *
  obtain ⟨M,N⟩:=nZ (q:=q) (b:=b) r l
  have o:Ow K F H' (.ref a) (.dtk true (putD (Dt.cF L) xs q d).1 (putD (Dt.cF L) xs q d).2) v:=.dtk m (hX w z) M rfl f1 u N
  have k0:Kept F H F H' W v:=fun b y n ob e f=>⟨by rw [j b (fun s=>n (s▸u))];exact e,f⟩
  have stN:=z0 (fun _ _ e=>e) o k0 (fun b y=>.inl y) (W':=Un2 W Wt) (fun b y=>.inl y) fun b y=>.inl (s1 b y)
  have lv:∀ b,H b≠none→H' b≠none:=fun b y=>by
   by_cases k:b=a
   ·rw [k,m];simp
   ·rw [j b k];exact y
  refine ⟨Un2 W Wt,⟨fun b ob e=>?_,stN,fun b y=>?_⟩,fun _ y=>y.elim,fun _ y=>y.elim,?_⟩
  ·rw [j b (fun s=>by rw [s,f1] at e;cases e)]
   exact p.ok.sub b ob e
  ·rcases y with y | y
   ·exact lv b (p.ok.lv b y)
   ·exact lv b (p.lt b y)
  ·refine p.ext.trans ⟨fun _ _ e=>e,fun b ob e=>.inl e,fun b ob e n=>?_,fun b e=>?_,fun b y=>?_⟩
   ·rw [j b (fun s=>n (.inr (s▸I)))]
    exact e
   ·by_cases k:b=a
    ·rw [k,m] at e;cases e
    ·rw [j b k] at e;exact e
   ·rcases y with y | y | y
    ·exact y.elim
    ·exact .inl (.inr y)
    ·exact .inl (.inl y)
theorem AR {x:Stmt} {v:Nat} {j e:E} {D:Ends} {fl:Fl} (ih:SE C n) (f:SV C n) (ok:XOk C X c) (hm:mS (m+1) c (.setD v j e) x=true) (s:SOk X.K F H σ δ W) (he:evS C (n+1) (.setD v j e) δ=some fl) (k:Fin X C.lock F H W σ D fl):tWS X x D σ H:=by
 unfold mS at hm
 simp only at hm
 split at hm
 ·rename_i y p0 ka p1 z pos
  simp only [Bool.and_eq_true] at hm
  obtain ⟨⟨p,t⟩,u⟩:=hm
  unfold evS at he
  simp only at he
  split at he
  ·rename_i d δ1 w
   split at he
   ·rename_i sl δ2 B
    split at he
    ·rename_i kd δ3 G
     split at he
     ·rename_i q I
      split at he
      ·rename_i ks xs J
       split at he
       ·rename_i M
        cases he
        have g:X.A.units+1<cLine:=by have:=ok.units;omega
        refine bf (Dt.Ar g ao ao ao (by cases z<;>rfl)) ?_
        refine f ok p s w fun xv F1 H1 W1 Wt p1 o=>?_
        obtain ⟨F1,p1,r⟩:=p1.dz o
        refine ih ok t p1.ok B fun xo F2 H2 W2 N p2 h=>?_
        cases h with
        | @bor v0 _ _ _ _ O pt =>
         cases pt
         refine f ok u p2.ok G fun kv Q H3 W3 R p3 V=>?_
         obtain ⟨Q,p3,Y⟩:=p3.dz V
         obtain ⟨b,rfl,l⟩:=fh I Y
         have P:=(p1.aA p2.drop).aA p3
         obtain ⟨a,ob,L,rfl,hd,Z,ln,fin⟩:=wK P J O l ((r.mono p2.ext.fsub).mono p3.ext.fsub)
         refine ⟨a,b,ob,L,q,rfl,rfl,hd,aD P.ok.sub Z,af P.ok.sub l,by
          have:=Nat.ble_eq.mp M
          rw [ln,sizeLine_eq]
          omega,fun i=>?_⟩
         obtain ⟨W',P'⟩:=fin i
         exact k _ _ _ _ P' .refl
       ·cases he
      ·cases he
     ·cases he
    ·cases he
   ·cases he
  ·cases he
 ·cases hm
end
end Ev
namespace Ev
open PySem PySem.Spec PyProof.Rows L2
section
variable {K:Frag} {F H F0 H0:Hp} {W W0:Fp} {σ:L2.St} {δ:Dl}
theorem aB.IG {j:Fp} {ad b:Addr} {ks:List (List Int)} {xs:List D} {q:List Int} {y:V} {d:D} (p:aB K F0 H0 W0 F H σ δ W j) (h0:H0 ad=none) (o:Ow K F H (.ref ad) (.dtk true ks xs) j) (w:SqT K F b (q.map V.int)) (r:Rp K F y d) :
  ∃ (ob:Obj) (L:List Dt.Row),H ad=some (Dt.DkO ad ob L)∧Dt.aT K F L∧L.length=ks.length∧∀ c,aB K F0 H0 W0 F (upd H ad (Dt.DkO ad c (Dt.putL L q b y))) σ δ W j ∧
   Ow K F (upd H ad (Dt.DkO ad c (Dt.putL L q b y))) (.ref ad) (.dtk true (putD ks xs q d).1 (putD ks xs q d).2) j:=by
 cases o with
 | frz r=>cases r
 | @dtk a ob L _ vs _ _ h u k x f1 v l =>
  subst k x
  refine ⟨ob,L,h,u,by simp [Dt.cF],fun c=>?_⟩
  have g:∀ m,m≠ad→upd H ad (Dt.DkO ad c (Dt.putL L q b y)) m=H m:=fun m z=>upd_ne z
  have i:upd H ad (Dt.DkO ad c (Dt.putL L q b y)) ad=some (Dt.DkO ad c (Dt.putL L q b y)):=upd_same
  generalize upd H ad (Dt.DkO ad c (Dt.putL L q b y))=H' at *
  obtain ⟨B,C⟩:=nZ (q:=q) (b:=b) r l
  have G:¬ W ad:=fun t=>p.dj _ v t
  have lv:∀ b,H b≠none→H' b≠none:=fun b y=>by
   by_cases k:b=ad
   ·rw [k,i];simp
   ·rw [g b k];exact y
  refine ⟨⟨⟨fun b ob e=>?_,p.ok.st.keep (fun _ _ e=>e) fun b q ob e f=>⟨by rw [g b (fun e=>G (e▸q))];exact e,f⟩,fun b q=>lv b (p.ok.lv b q)⟩,p.dj,fun b q=>lv b (p.lt b q),?_⟩,.dtk i (hX u w) B rfl f1 v C⟩
  ·rw [g b (fun s=>by rw [s,f1] at e;cases e)]
   exact p.ok.sub b ob e
  ·refine ⟨p.ext.fsub,p.ext.fnew,fun b ob e n=>?_,fun b e=>?_,p.ext.wnew⟩
   ·rw [g b (ne_of_none e h0)]
    exact p.ext.keep b ob e n
   ·by_cases s:b=ad
    ·rw [s];exact h0
    ·rw [g b s] at e;exact p.ext.live b e
end
section
variable {X:Cx} {C:Ctx} {n m:Nat}
theorem Ae {F:Cxt} {scope:Scope} {own:List Nat} {tg:Tg} {G H:E} {t yk yv:Expr} {σ:L2.St} {J:It} {xs f:List D} {g:List (List Int)} {r:List (List Int) × List D} {O I:Dl} {F1 F0 H0 h P:Hp} {W0 Ws j:Fp} {ad:Addr} {Qe:Hp→Prop}
  (l:∀ s0 H0 Q cl fp,XOk C (vE X scope s0 H0 Q cl fp) F) (sv:SV C n) {m1 m2:Nat} (mt:mTg F tg t=true) (mk:mE m1 F G yk=true) (mv:mE m2 F H yv=true) (ti:uP own tg=true)
  (q0:aB X.K F0 H0 W0 h P (wipe σ own) O Ws j) (o0:Ow X.K h P (.ref ad) (.dtk true g f) j) (h0:H0 ad=none) (V:Same F1 h) (w:WkD X.K F1 J xs)
  (e0:dcL (setT C.lock tg) (evV C n G) (evV C n H) own xs g f O=some (r,I))
  (fin:∀ Y He We u,aB X.K F0 H0 W0 Y He (wipe σ own) I We u→Ow X.K Y He (.ref ad) (.dtk true r.1 r.2) u→Same h Y→Qe He) :
  ∃ Wi:Nat→Nat→Hp→Prop,(∃ m,Wi 0 m P)∧Dt.BJ X J ad (aG X scope t) (aTs X scope []) (aE X scope yk) (aE X scope yv) own σ Wi Qe:=by
 refine ⟨fun i k s=>k=xs.length-i∧i≤xs.length∧∃ Fc Wc δc ks vs a,aB X.K F0 H0 W0 Fc s (wipe σ own) δc Wc a∧Ow X.K Fc s (.ref ad) (.dtk true ks vs) a∧Same h Fc ∧
  dcL (setT C.lock tg) (evV C n G) (evV C n H) own (xs.drop i) ks vs δc=some (r,I),⟨_,rfl,Nat.zero_le _,h,Ws,O,g,f,j,q0,o0,fun _ _ e=>e,e0⟩,?_⟩
 rintro i k s ⟨rfl,hi,Fc,Wc,δc,ks,vs,a,q,o,sm,e⟩
 by_cases c:i<xs.length
 ·refine .inr ⟨w.goes i Fc s (V.trans sm) q.ok.sub c,fun H'=>∃ Fc Wc δc ks vs a,aB X.K F0 H0 W0 Fc H' (wipe σ own) δc Wc a∧Ow X.K Fc H' (.ref ad) (.dtk true ks vs) a∧Same h Fc ∧
   dcL (setT C.lock tg) (evV C n G) (evV C n H) own (xs.drop (i+1)) ks vs δc=some (r,I),fun H' nx=>⟨xs.length-(i+1),by omega,rfl,c,nx⟩,fun x H' yl=>?_⟩
  obtain ⟨F',rx,nw⟩:=w.yields i Fc s x H' (xs[i]) (V.trans sm) q.ok.sub (by simp [c]) yl
  obtain ⟨_,q1⟩:=q.tX nw
  have o1:=o.ext nw.ext fun _ _ z=>z
  have Z:=sm.trans nw.ext.fsub
  rw [List.drop_eq_getElem_cons c] at e
  unfold dcL at e
  split at e
  ·cases e
  rename_i δ1 e1
  split at e
  ·cases e
  rename_i kd δ2 e2
  split at e
  ·cases e
  rename_i kq e3
  split at e
  ·cases e
  rename_i d δ3 e4
  split at e
  ·rename_i hc
   intro s0 H00 Q cl fp
   have r0:aB X.K F' H' Wc F' H' (wipe σ own) δc Wc No:=.refl q1.ok
   refine tu (l s0 H00 Q cl fp) mt r0 (.frz rx) e1 fun σ2 W2 r1 _ off=>⟨fS off (dO ti),?_⟩
   have hw:=fS off (dO ti)
   intro s1 ac C1 ae fp1
   have y:aB X.K F0 H0 W0 F' H' (wipe σ own) δc Wc a:=q1.kQ fun b z=>.inl z
   refine jU pts_nil ?_
   unfold tYes
   dsimp only
   rw [if_pos rfl]
   intro s2 H02 C2 cl2 fp2
   refine sv (l s2 H02 C2 cl2 fp2) mk r1.ok e2 fun kv F2 H2 W3 Wk M aa=>?_
   obtain ⟨F2,M,kr⟩:=M.dz aa
   obtain ⟨b,rfl,kb⟩:=fh e3 kr
   intro s3 H03 C3 cl3 fp3
   refine sv (l s3 H03 C3 cl3 fp3) mv M.ok e4 fun v F3 H3 W4 Wy N oy=>?_
   obtain ⟨F3,N,vr⟩:=N.dz oy
   have R:=(r1.aA M).aA N
   obtain ⟨_,q2⟩:=y.dF R
   have o2:=o1.ext R.ext y.dj
   have p:=q2.kQ (fun b (z:a b)=>Or.inl z)
   have B:=af N.ext.fsub kb
   obtain ⟨ob,L,g1,kk,ln,go⟩:=p.IG h0 o2 B vr
   refine ⟨b,ob,L,kq,rfl,g1,aD p.ok.sub kk,af p.ok.sub B,by
    have:=Nat.ble_eq.mp hc
    rw [ln,sizeLine_eq]
    omega,fun ab=>?_⟩
   obtain ⟨q3,o3⟩:=go ab
   refine ⟨F3,W4,aY δ3 own,_,_,a,?_,o3,Z.trans R.ext.fsub,e⟩
   rw [← hw]
   exact q3.state (q3.ok.st.iK own)
  ·cases e
 ·have ei:i=xs.length:=by omega
  subst ei
  rw [List.drop_length] at e
  simp only [dcL] at e
  cases e
  exact .inl ⟨w.stops Fc s (V.trans sm) q.ok.sub,fin _ _ _ _ q o sm⟩
variable {c:Cxt}
theorem GA {j l:E} {tg:Tg} {u:ItK} {its:List E} {own:List Nat} {x:Expr} {σ:L2.St} {δ δ':Dl} {F H:Hp} {W:Fp} {a:A} {Q:VK} (ok:XOk C X c) (b:SIt C n) (L:SV C n) (hm:mE (m+1) c (.dck j l tg u its own) x=true)
  (s:SOk X.K F H σ δ W) (he:evE C (n+1) (.dck j l tg u its own) δ=some (a,δ')) (k:ah X F H W σ δ' a Q):tW X x σ H Q:=by
 unfold mE at hm
 simp only at hm
 split at hm
 ·rename_i kx vx t it scope pos
  simp only [Bool.and_eq_true] at hm
  obtain ⟨⟨⟨⟨⟨⟨y,M⟩,B⟩,O⟩,P⟩,V⟩,e⟩:=hm
  have f:BlkOk X.N X.env.scope scope (qF c own):=by
   rw [ok.hN,ok.sc]
   exact blkOk_by y
  have hu:=ok.units
  have G:=Dt.DP (X:=X) (pos:=pos) (kx:=kx) (vx:=vx) (tg:=t) (ifs:=[]) (g:=aG X scope t) (tt:=aTs X scope []) (tk:=aE X scope kx) (tv:=aE X scope vx) (by omega) (ok.calm e) ok.nd (qQ (X:=X) (tg:=t) (iter:=it)) f (fun s H C cl fp=>nE s H C cl fp) (fun s H C cl fp=>eB s H C cl fp) (fun s H C cl fp=>qG s H C cl fp) (fun s H C cl fp=>qG s H C cl fp) (MI.free B _)
  rw [dt] at G
  refine av G ?_
  unfold evE at he
  simp only at he
  split at he
  ·rename_i xs δ1 Y
   split at he
   ·rename_i fz
    split at he
    ·rename_i r δ2 Z
     cases he
     refine b ok B s Y fun F1 H1 W1 J p w=>?_
     intro D i
     have p1:=(p.state (p.ok.st.iK own)).vp (New.HJ (o:=Dt.DkO D Dt.ob0 []) p.ok.sub i)
     have o1:Ow X.K F1 (upd H1 D (Dt.DkO D Dt.ob0 [])) (.ref D) (.dtk true [] []) (At D):=.dtk upd_same (fun q h=>nomatch h) rfl rfl (none_of p.ok.sub i) rfl .nil
     refine Ae (F1:=F1) (fun s0 H0 C' cl fp=>ok.blk y s0 H0 C' cl fp) L M O P V p1 o1 (p.ext.live D i) (fun _ _ z=>z) w Z fun Fe He We aa q o sm=>?_
     refine k _ _ _ _ _ (q.state (kK q.ok.st.fN fun v hv d I=>?_)) (.tmp o)
     obtain ⟨x,U,R,g,ow,_⟩:=p.ok.st.zip I
     exact ⟨x,g,(ow.fz (eY fz v hv d I)).mono sm⟩
    ·cases he
   ·cases he
  ·cases he
 ·cases hm
theorem uL {K:Frag} {F:Hp}:∀ {M:List Dt.Row} {a:List D},RpL K F (Dt.mM M) a→∀ {L:List Dt.Row} {xs:List D},RpL K F (Dt.mM L) xs →
  Dt.cF (Dt.gE L M)=(lq (Dt.cF L) xs (Dt.cF M) a).1∧RpL K F (Dt.mM (Dt.gE L M)) (lq (Dt.cF L) xs (Dt.cF M) a).2
 | [],_,.nil,L,xs,l=>⟨rfl,l⟩
 | p::M,_,.cons (d:=d0) (ds:=ds) r t,L,xs,l=>by
  obtain ⟨c,e⟩:=nZ (q:=p.2.1) (b:=p.1) r l
  have ih:=uL (M:=M) t e
  rw [c] at ih
  exact ih
theorem lG {K:Frag} {F:Hp}:∀ {M L:List Dt.Row},Dt.aT K F M→Dt.aT K F L→Dt.aT K F (Dt.gE L M)
 | [],L,_,l=>l
 | p::M,L,hm,l=>lG (M:=M) (fun q a=>hm q (List.mem_cons_of_mem _ a)) (hX l (hm p List.mem_cons_self))
theorem wd {K:Frag} {F0 H0 F H:Hp} {W0 W Wt:Fp} {σ:L2.St} {δ:Dl} {v0:V} {i:Nat} {ks:List (List Int)} {xs:List D} (p:aB K F0 H0 W0 F H σ δ W Wt) (es:slot δ i=some (.dtk true ks xs)) (B:σ[i]?=some (some v0)) :
  ∃ (a:Addr) (ob:Obj) (L:List Dt.Row),v0=.ref a∧H a=some (Dt.DkO a ob L)∧Dt.aT K F L∧Dt.cF L=ks∧RpL K F (Dt.mM L) xs∧W a∧∀ c (L':List Dt.Row) (j:List (List Int)) (k:List D),Dt.aT K F L'→Dt.cF L'=j→RpL K F (Dt.mM L') k →
   ∃ W',aB K F0 H0 W0 F (upd H a (Dt.DkO a c L')) σ (δ.set i (some (.dtk true j k))) W' No:=by
 obtain ⟨C,x,R,g,o0,s1,s2,G,st,z0⟩:=p.ok.st.zip (aL es)
 rw [B] at g
 cases g
 cases o0 with
 | frz r=>cases r
 | @dtk a ob L _ vs _ _ h I m J f1 u l =>
  subst m J
  have z:W a:=s1 _ u
  refine ⟨a,ob,L,rfl,h,I,rfl,l,z,fun c L' j k v w M=>?_⟩
  have d:∀ t,t≠a→upd H a (Dt.DkO a c L') t=H t:=fun t N=>upd_ne N
  have o:upd H a (Dt.DkO a c L') a=some (Dt.DkO a c L'):=upd_same
  generalize upd H a (Dt.DkO a c L')=H' at *
  have q:Ow K F H' (.ref a) (.dtk true j k) x:=.dtk o v w rfl f1 u M
  have k0:Kept F H F H' W x:=fun b y n ob e f=>⟨by rw [d b (fun s=>n (s▸u))];exact e,f⟩
  have stN:=z0 (fun _ _ e=>e) q k0 (fun b y=>.inl y) (W':=Un2 W Wt) (fun b y=>.inl y) fun b y=>.inl (s1 b y)
  have lv:∀ b,H b≠none→H' b≠none:=fun b y=>by
   by_cases m:b=a
   ·rw [m,o];simp
   ·rw [d b m];exact y
  refine ⟨Un2 W Wt,⟨fun b ob e=>?_,stN,fun b y=>?_⟩,fun _ y=>y.elim,fun _ y=>y.elim,?_⟩
  ·rw [d b (fun s=>by rw [s,f1] at e;cases e)]
   exact p.ok.sub b ob e
  ·rcases y with y | y
   ·exact lv b (p.ok.lv b y)
   ·exact lv b (p.lt b y)
  ·refine p.ext.trans ⟨fun _ _ e=>e,fun b ob e=>.inl e,fun b ob e n=>?_,fun b e=>?_,fun b y=>?_⟩
   ·rw [d b (fun s=>n (.inr (s▸z)))]
    exact e
   ·by_cases m:b=a
    ·rw [m,o] at e;cases e
    ·rw [d b m] at e;exact e
   ·rcases y with y | y | y
    ·exact y.elim
    ·exact .inl (.inr y)
    ·exact .inl (.inl y)
theorem mU {M:List Dt.Row} (h:fX (Dt.cF M)=true):(M.map fun p:Dt.Row=>Dt.mO p.2.1).Nodup:=by
 unfold fX at h
 have:=of_decide_eq_true h
 unfold Dt.cF at this
 rw [List.map_map] at this
 exact this
theorem zI {x:Stmt} {v:Nat} {e:E} {D:Ends} {fl:Fl} {σ:L2.St} {δ:Dl} {F H:Hp} {W:Fp} (ih:SE C n) (f:SV C n) (ok:XOk C X c) (hm:mS (m+1) c (.updD v e) x=true) (s:SOk X.K F H σ δ W) (he:evS C (n+1) (.updD v e) δ=some fl) (k:Fin X C.lock F H W σ D fl):tWS X x D σ H:=by
 unfold mS at hm
 simp only at hm
 split at hm
 ·rename_i y p0 nm ap z cp pos
  simp only [Bool.and_eq_true] at hm
  obtain ⟨⟨⟨⟨J,N⟩,O⟩,Q⟩,B⟩:=hm
  cases au J
  unfold evS at he
  simp only at he
  split at he
  ·rename_i sl δ1 R
   split at he
   ·rename_i hd
    obtain ⟨o1,V,Y,g⟩:=kB hd
    split at he
    ·rename_i Z aa δ2 e2
     split at he
     ·rename_i ks xs e4
      split at he
      ·rename_i i
       cases he
       rw [Bool.and_eq_true,Nat.ble_eq] at i
       have j:X.A.units+1<cLine:=by have:=ok.units;omega
       have st:starEach [z] X.env=[(false,eval z X.env)]:=aj _ B
       refine bf (ps_expr (Dt.AN j ao ao ⟨rfl,Ob.jf X.env cp B (by simp),N,by rw [st];rfl⟩) rfl) (ih ok O s R fun xo F1 H1 W1 ab p1 g1=>?_)
       cases g1 with
       | @bor v0 _ _ _ _ G pt =>
        cases pt
        obtain ⟨d1,o,L1,rfl,p,q,_,_⟩:=fu p1 G g
        refine ⟨d1,L1,rfl,⟨⟨o,p⟩,aD p1.ok.sub q⟩,f ok Q p1.ok e2 fun yv F2 H2 W2 ac p2 o2=>?_⟩
        have P:=p1.drop.aA p2
        obtain ⟨a,ob,L,ea,t,d,ek,la,aW,fin⟩:=wd P e4 G
        cases ea
        cases o2 with
        | frz r=>cases r
        | @dtk b u M _ vs _ _ h I em1 em2 f1 w1 l =>
         subst em1 em2 ek
         have lL:(Dt.cF L).length=L.length:=by simp [Dt.cF]
         have lM:(Dt.cF M).length=M.length:=by simp [Dt.cF]
         obtain ⟨q1,q2⟩:=uL l la
         refine ⟨b,ob,u,L,M,rfl,fun z=>p2.dj b w1 (z▸aW),t,aD P.ok.sub d,h,aD P.ok.sub I,?_,by rw [sizeLine_eq];have:=i.2;omega,fun w=>?_⟩
         ·rcases Bool.or_eq_true_iff.mp i.1 with z | z
          ·left
           intro zz
           subst zz
           simp [Dt.cF] at z
          ·exact .inr (mU z)
         ·obtain ⟨W',P'⟩:=fin w (Dt.gE L M) _ _ (lG I d) q1 q2
          exact k _ _ _ _ P' .refl
      ·cases he
     ·cases he
    ·cases he
   ·cases he
  ·cases he
 ·cases hm
end
end Ev
namespace Ev
open PySem PySem.Spec PyProof.Rows L2
def SEC (C:Ctx) (n:Nat):Prop:=∀ {X:Cx} {c:Cxt},XOk C X c→∀ {m:Nat} {e:E} {x:Expr} {σ:L2.St} {δ:Dl} {F H:Hp} {W:Fp} {a:A} {δ':Dl} {nm:Str} {p:Pos} {spos:Pos} {i:Nat} {D:Ends},mE m c e x=true→swB c nm p.line x=true→nmB c i nm=true→SOk X.K F H σ δ W→evE C n e δ=some (a,δ') →
 ah X F H W σ δ' a (fun v H1=>D.nx (σ.set i (some v)) H1)→tWS X (.Assign [.Name nm p] x spos) D σ H
def SVC (C:Ctx) (n:Nat):Prop:=∀ {X:Cx} {c:Cxt},XOk C X c→∀ {m:Nat} {e:E} {x:Expr} {σ:L2.St} {δ:Dl} {F H:Hp} {W:Fp} {d:D} {δ':Dl} {nm:Str} {p:Pos} {spos:Pos} {i:Nat} {D:Ends},mE m c e x=true→swB c nm p.line x=true→nmB c i nm=true→SOk X.K F H σ δ W→evV C n e δ=some (d,δ') →
 yj X F H W σ δ' d (fun v H1=>D.nx (σ.set i (some v)) H1)→tWS X (.Assign [.Name nm p] x spos) D σ H
section
variable {C:Ctx} {n m:Nat}
theorem Bs {c:Cxt} {nm:Str} {l:Nat} {x:Expr} (h:swB c nm l x=true):∃ y a s p,x=.ListComp y a s p∧loB c nm=true∧(l==p.line)=true∧(s.names.any fun (n,k)=>n==nm&&(k==.local||k==.cell))=false:=by
 unfold swB at h
 split at h
 ·simp only [Bool.and_eq_true,Bool.not_eq_true'] at h
  exact ⟨_,_,_,_,rfl,h.1.1,h.1.2,h.2⟩
 ·cases h
theorem Je (d:SIt C n) (r:SV C n) (si:vC C n):SEC C (n+1):=by
 intro X c ok m e x σ δ F H W a δ' nm p spos i D hm hs hi s he k
 obtain ⟨y,u,sc,j,rfl,lo,ln,na⟩:=Bs hs
 have h:swapsWith (.ListComp y u sc j) (some (.Name nm p)) spos.line X.env=pure true:=sw_true (by rw [ok.sc];exact ok.kind) (ok.lo lo) ln na
 cases m with
 | zero=>simp [mE] at hm
 | succ m =>
 cases e with
 | lc elt tg w its ifs own =>
  obtain ⟨z,t,it,fs,scope,pos,ex,L,hf,go⟩:=HL ok d r si hm s he
  cases ex
  have:=ps_setLc (X:=X) (spos:=spos) (py:=p) (pos:=j) (elt:=y) (tg:=t) (ifs:=fs) (g:=aG X sc t) (tt:=aTs X sc fs) (te:=aE X sc y) (own:=qF c own) (ok.calm L.cm) ok.nd (ok.nm hi) (ok.lo lo) h qQ (L.ok ok) (fun s H C cl fp=>nE s H C cl fp) (fun s H C cl fp=>eB s H C cl fp) (fun s H C cl fp=>qG s H C cl fp) hf
  rw [dt] at this
  exact bf this (go (Q:=fun v H1=>D.nx (σ.set i (some v)) H1) k)
 | lc2 elt tg w its tg2 k2 its2 own own2 =>
  obtain ⟨z,t,it,t2,it2,scope,pos,ex,L,hf,q,go⟩:=De ok d r si hm s he
  cases ex
  have:=ps_setLc2 (X:=X) (spos:=spos) (py:=p) (pos:=j) (elt:=y) (tg:=t) (tg1:=t2) (ifs:=[]) (ifs1:=[]) (g:=aG X sc t) (g1:=aG X sc t2) (tt:=aTs X sc []) (tt1:=aTs X sc []) (wi1:=aI X sc t2 it2) (te:=aE X sc y) (vs1:=own2) (own:=qF c own) (ok.calm L.cm) ok.nd (ok.nm hi) (ok.lo lo) h qQ (L.ok ok) (fun i hi=>by rw [dt];exact L.sub i hi)
   (fun s H C cl fp=>nE s H C cl fp) (fun s H C cl fp=>eB s H C cl fp) (fun s H C cl fp=>BX s H C cl fp) (fun s H C cl fp=>nE s H C cl fp) (fun s H C cl fp=>eB s H C cl fp) (fun s H C cl fp=>qG s H C cl fp) hf q
  rw [dt] at this
  exact bf this (go (Q:=fun v H1=>D.nx (σ.set i (some v)) H1) k)
 | bi b es=>cases b<;>simp [mE] at hm
 | ob o cn nm f es=>cases o<;>simp [mE] at hm
 | disS l pre st post=>cases l<;>simp [mE] at hm
 | _=>simp [mE] at hm
theorem Im (ih:SEC C n):SVC C (n+1):=by
 intro X c ok m e x σ δ F H W d δ' nm p spos i D hm hs hi s he k
 unfold evV at he
 split at he
 ·rename_i a δ1 b
  refine ih ok hm hs hi s b fun v F' H' W' Wt q h=>?_
  obtain ⟨g,f,o⟩:=q.toV h he
  exact k _ _ _ _ _ f o
 ·cases he
theorem nV:∀ {p:List Nat} {d d':Ev.D} {f:Ev.D→Option Ev.D},d.mP p f=some d'→∃ x y,d.at p=some x∧f x=some y
 | [],d,d',f,h=>⟨d,d',rfl,h⟩
 | k::p,d,d',f,h=>by
  cases d with
  | lst o xs =>
   cases o with
   | true =>
    simp only [Ev.D.mP] at h
    split at h
    ·rename_i x ex
     split at h
     ·rename_i y a
      obtain ⟨u,v,b,c⟩:=nV a
      exact ⟨u,v,by simp only [Ev.D.at,ex];exact b,c⟩
     ·cases h
    ·cases h
   | false=>simp [Ev.D.mP] at h
  | _=>simp [Ev.D.mP] at h
theorem OwL.set {K:Frag} {F H:Hp}:∀ {vs:List V} {ds:List Ev.D} {U a Z:Fp} {v:V} {d:Ev.D} (j:Nat),OwL K F H vs ds U→Ow K F H v d a→Dj U a→(∀ b,U b→Z b)→(∀ b,a b→Z b)→OwL K F H (vs.set j v) (ds.set j d) Z
 | _,_,U,a,Z,v,d,j,.nil,o,dj,s1,s2=>by simpa using OwL.nil
 | _,_,U,a,Z,v,d,0,.cons g e h f c,o,dj,s1,s2=>by
  simp only [List.set_cons_zero]
  exact .cons o e (fun b q t=>dj b (c b t) q) s2 fun b q=>s1 b (c b q)
 | _,_,U,a,Z,v,d,j+1,.cons (W1:=W1) (W2:=W2) g e h f c,o,dj,s1,s2=>by
  simp only [List.set_cons_succ]
  refine .cons (W2:=Un2 W2 a) g (OwL.set j e o (fun b q=>dj b (c b q)) (fun b q=>.inl q) fun b q=>.inr q) (fun b q t=>?_) (fun b q=>s1 b (f b q)) fun b q=>?_
  ·rcases t with t | t
   ·exact h b q t
   ·exact dj b (f b q) t
  ·rcases q with q | q
   ·exact s1 b (c b q)
   ·exact s2 b q
theorem tE {o i:Expr} {pos:Pos} {env:Env} (h:isSlice i=false):∀ v,assign (.Subscript o i pos) env v=(do
   let a ← holding [v] (eval o env)
   let iv ← holding [v,a] (eval i env)
   standAt pos
   holding [v,a,iv] (setItem a iv v)
   release [v,a,iv] []):=fun v=>by cases i<;>first | rfl | simp [isSlice] at h
theorem wA {X:Cx} {c:Cxt} {σ:L2.St} {δ:Dl} {F H:Hp} {W:Fp} {D:Ends} (ih:SAs C n) (ok:XOk C X c) {o i e:E} {x:Stmt} {fl:Fl} (hm:mS (m+1) c (.setIx o i e) x=true) (s:SOk X.K F H σ δ W) (he:evS C (n+1) (.setIx o i e) δ=some fl) (k:Fin X C.lock F H W σ D fl):tWS X x D σ H:=by
 unfold mS at hm
 simp only at hm
 split at hm
 ·rename_i l r p1 y pos
  rw [Bool.and_eq_true,Bool.not_eq_true'] at hm
  unfold evS at he
  simp only at he
  split at he
  ·rename_i va sl Y B δ1 G
   split at he
   ·rename_i d δ2 I
    split at he
    ·rename_i δ3 u
     cases he
     refine bf (ps_asg ao (pg_sub ao ao set_list (tE hm.2)) (show swapsWithSole [.Subscript l r p1] y pos.line X.env=pure false from Fj (o:=l) (i:=r) (p:=p1) pos.line X.env) (show swappedStores [.Subscript l r p1] y X.env=pure none by cases y<;>rfl) (by rfl)) ?_
     refine GR (R:=fun g v iv J=>rSetL v iv g J fun L=>D.nx σ L) (ih ok hm.1 s G fun vs F' H' W' Wt p h=>?_)
     rintro g v iv rfl
     cases h with
     | @cons _ _ _ _ _ V1 Z a1 a2 a3 a4 a5 =>
      cases a2 with
      | cons M N b3 b4 b5 =>
       cases N with
       | cons c1 c2 c3 c4 c5 =>
        cases c2
        cases (c1.look p.ok rfl).int
        obtain ⟨F2,p2,t⟩:=(p.kQ a4).toV a1 I
        cases M with
        | @bor v0 _ _ _ _ O pt =>
         have a:=u
         unfold bN at a
         split at a
         ·rename_i d1 es
          split at a
          ·rename_i d2 P
           obtain ⟨z,z',Q,f⟩:=nV P
           split at f
           ·rename_i xs
            split at f
            ·rename_i j ej
             cases f
             obtain ⟨ad,vs,U,rfl,V,w,dj,fin⟩:=jQ p2 es Q O pt
             refine ⟨ad,vs,B,j,rfl,rfl,V,by rw [w.length];exact ej,?_⟩
             obtain ⟨W3,p3⟩:=fin (vs':=vs.set j g) (ds':=xs.set j d) (w.set j t dj (fun b q=>.inl q) fun b q=>.inr q) (by simp only [ej]) u
             exact k _ _ _ _ p3 .refl
            ·cases f
           ·cases f
          ·cases a
         ·cases a
    ·cases he
   ·cases he
  ·cases he
 ·cases hm
theorem GF {y o:Expr} {f:Str} {p:Pos} (l:Nat) (env:Env):swapsWith y (some (.Attribute o f p)) l env=pure false:=by
 cases y<;>rfl
theorem yZ {X:Cx} {c:Cxt} {σ:L2.St} {δ:Dl} {F H:Hp} {W:Fp} {D:Ends} (ih:SE C n) (b:SV C n) (ok:XOk C X c) {v:Nat} {cn nm:Str} {i:Nat} {e:E} {x:Stmt} {fl:Fl} (hm:mS (m+1) c (.setF v cn nm i e) x=true) (s:SOk X.K F H σ δ W) (he:evS C (n+1) (.setF v cn nm i e) δ=some fl) (k:Fin X C.lock F H W σ D fl):tWS X x D σ H:=by
 unfold mS at hm
 simp only at hm
 split at hm
 ·rename_i y p f p1 z pos
  simp only [Bool.and_eq_true] at hm
  obtain ⟨⟨⟨l,g⟩,q⟩,t⟩:=hm
  cases au l
  have g:=of_decide_eq_true g
  unfold evS at he
  simp only at he
  split at he
  ·rename_i d δ1 u
   split at he
   ·rename_i sl δ2 w
    split at he
    ·rename_i cn' xs B
     split at he
     ·rename_i j
      simp only [Bool.and_eq_true,decide_eq_true_eq] at j
      obtain ⟨⟨c1,c2⟩,c3⟩:=j
      subst c1
      cases he
      obtain ⟨Ca,G,sc,L,s1⟩:=ok.sl _ _ _ g
      refine bf (SlX.ps_sl ao ao (GF pos.line X.env)) ?_
      refine b ok q s u fun M F1 H1 W1 Wt p1 o=>?_
      have r:=o.fz c2
      refine ih ok t p1.ok w fun N O P W2 I p2 h=>?_
      cases h with
      | @bor v0 _ _ _ _ J pt =>
       cases pt
       obtain ⟨a,Q,dx,vs,rfl,hn,hs,W',p3⟩:=mr p2 B J c3 (r.mono p2.ext.fsub)
       cases bu G hn
       exact ⟨a,_,dx,_,_,_,rfl,hs,sc,s1,k _ _ _ _ (p1.drop.aA p3) .refl⟩
     ·cases he
    ·cases he
   ·cases he
  ·cases he
 ·cases hm
theorem mC {X:Cx} {c:Cxt} (m:SAs C n) (ok:XOk C X c) {o i:E} {l r:Expr} {m1:Nat} {d:Ev.D} {a:V} {σ:L2.St} {F H F1 H1:Hp} {W W1:Fp} {δ1 δ2 δ3:Dl} {sl:Nat} {s:Int} {Q:L2.St→Hp→Prop}
  (hm:mEs m1 c [o,i] [l,r]=true) (p0:aB X.K F H W F1 H1 σ δ1 W1 No) (B:Rp X.K F1 a d) (e:aN C n [o,i] δ1=some ([.bor sl [],.tmp (.int s)],δ2))
  (t:bN δ2 sl [] (fun x=>match x with
   | .lst true xs=>match ixN xs.length s with
    | some j=>some (.lst true (xs.set j d))
    | none=>none
   | _=>none)=some δ3) (k:∀ u v W2,aB X.K F H W u v σ δ3 W2 No→Same F1 u→Q σ v):gSub (tW X l) (tW X r) rSetL a σ H1 Q:=by
 refine AB (R:=fun w iv G=>rSetL w iv a G fun I=>Q σ I) (m ok hm p0.ok e fun vs F' H' W' Wt p h=>?_)
 rintro w iv rfl
 cases h with
 | @cons _ _ _ _ _ V1 P J L Y Z b5 =>
  cases L with
  | cons c1 c2 c3 c4 c5 =>
   cases c2
   cases (c1.look p.ok rfl).int
   have p2:=(p0.aA p).drop
   have fs:Same F1 F':=p.ext.fsub
   have f:=t
   cases J with
   | @bor v0 _ _ _ _ M pt =>
    unfold bN at f
    split at f
    ·rename_i d1 es
     split at f
     ·rename_i d2 eu2
      obtain ⟨z,z',N,g⟩:=nV eu2
      split at g
      ·rename_i xs
       split at g
       ·rename_i j ej
        cases g
        obtain ⟨ad,vs,U,rfl,O,y,dj,fin⟩:=jQ p2 es N M pt
        refine ⟨ad,vs,s,j,rfl,rfl,O,by rw [y.length];exact ej,?_⟩
        obtain ⟨W3,p3⟩:=fin (vs':=vs.set j a) (ds':=xs.set j d) (y.set j (.frz (B.mono fs):Ow X.K F' H' a d No) (fun _ _ q=>q.elim) (fun b q=>.inl q) fun b q=>q.elim) (by simp only [ej]) t
        exact k _ _ _ p3 fs
       ·cases g
      ·cases g
     ·cases f
    ·cases f
theorem Ff {l1 r1 l2 a:Expr} {b c p:Pos} {kt:Nat} {y:Expr} {env:Env}:swappedStores [.Tuple [.Subscript l1 r1 b,.Subscript l2 a c] kt p] y env=pure none:=by
 cases y with
 | Tuple vs k2 p2 =>
  unfold swappedStores
  simp only
  split
  ·rfl
  ·split
   ·rfl
   ·simp
 | _=>rfl
theorem sZ {X:Cx} {c:Cxt} {σ:L2.St} {δ:Dl} {F H:Hp} {W:Fp} {D:Ends} (g:SV C n) (d:SAs C n) (ok:XOk C X c) {o1 i1 o2 i2 e:E} {x:Stmt} {fl:Fl} (hm:mS (m+1) c (.swapIx o1 i1 o2 i2 e) x=true) (s:SOk X.K F H σ δ W) (he:evS C (n+1) (.swapIx o1 i1 o2 i2 e) δ=some fl) (k:Fin X C.lock F H W σ D fl):tWS X x D σ H:=by
 unfold mS at hm
 simp only at hm
 split at hm
 ·rename_i l1 r1 j l2 f l kt pt y pos
  simp only [Bool.and_eq_true,Bool.not_eq_true'] at hm
  obtain ⟨⟨⟨⟨⟨t,u⟩,w⟩,z⟩,B⟩,h⟩:=hm
  unfold evS at he
  simp only at he
  split at he
  ·rename_i a b δ1 G
   split at he
   ·rename_i s1 k1 δ2 I
    split at he
    ·rename_i δ3 J
     split at he
     ·rename_i s2 k2 P L
      split at he
      ·rename_i δ5 M
       cases he
       refine bf (ps_asg ao (pg_tup (n:=2) (ok.calm h) (pgs_cons (pg_sub ao ao set_list (tE z)) (pgs_cons (pg_sub ao ao set_list (tE B)) pgs_nil)) rfl rfl) (show swapsWithSole [.Tuple [.Subscript l1 r1 j,.Subscript l2 f l] kt pt] y pos.line X.env=pure false from zJ (ts:=[.Subscript l1 r1 j,.Subscript l2 f l]) (k:=kt) (p:=pt) pos.line X.env) Ff rfl) ?_
       refine g ok t s G fun v F' H' W' Wt p o=>?_
       obtain ⟨ad,xs,rfl,sq,r⟩:=Vw.tup ⟨_,o⟩
       cases r with
       | @cons q _ _ _ r1 N =>
        cases N with
        | @cons x2 _ _ _ f i =>
         cases i
         refine ⟨ad,[q,x2],rfl,af p.ok.sub sq,rfl,?_⟩
         refine ⟨q,[x2],rfl,?_⟩
         refine mC d ok u p.drop r1 I J fun Q R W2 p2 fs=>?_
         refine ⟨x2,[],rfl,?_⟩
         refine mC d ok w p2 (f.mono fs) L M fun V Y Z p3 O=>?_
         exact ⟨rfl,k _ _ _ _ p3 .refl⟩
      ·cases he
     ·cases he
    ·cases he
   ·cases he
  ·cases he
 ·cases hm
theorem rN {lock:List Nat} {i:Nat} {d:Ev.D} {δ:Dl} (a:i<δ.length) (b:lock.contains i=false):cR lock i d δ=some (δ.set i (some d)):=by
 unfold cR
 rw [b,decide_eq_true a]
 rfl
theorem zo {D:Ends} (q:SV C n) (ok:XOk C X c) {i j:Nat} {e:E} {t1 t2 y:Expr} {ps kt pt pos} {m1:Nat} {d x:Ev.D} {xs:List Ev.D} {δ1 δ2 δ3:Dl} (N:mE m1 c e y=true) (h:mNm c i t1=true) (l:mNm c j t2=true) (O:isTup y=false) (t:c.cm=true) (m:i≠j)
  (s:SOk X.K F H σ δ W) (P:evV C n e δ=some (d,δ1)) (f:nP d=some (x,xs)) (Q:cR C.lock i x δ1=some δ2) (R:cR C.lock j (.lst true xs) δ2=some δ3) (k:Fin X C.lock F H W σ D (.nx δ3)):tWS X (.Assign [.Tuple [t1,.Starred t2 ps] kt pt] y pos) D σ H:=by
 unfold mNm at h l
 split at h
 ·rename_i nx u
  split at l
  ·rename_i ny py
   rw [Bool.and_eq_true] at h l
   obtain ⟨l1,f1⟩:=ok.st h.2
   obtain ⟨l2,f2⟩:=ok.st l.2
   have hw:swappedStores [.Tuple [.Name nx u,.Starred (.Name ny py) ps] kt pt] y X.env=pure none:=by
    cases y<;>first | rfl | simp [isTup] at O
   refine bf (ps_asg ao (AE (ok.calm t) ok.nd (ok.nm h.1) (ok.nm l.1) l1 l2 f1 f2) (show swapsWithSole [.Tuple [.Name nx u,.Starred (.Name ny py) ps] kt pt] y pos.line X.env=pure false from zJ (ts:=[.Name nx u,.Starred (.Name ny py) ps]) (k:=kt) (p:=pt) pos.line X.env) hw rfl) (q ok N s P fun v F' H' W' Wt p o=>?_)
   obtain ⟨g1,g2,g3⟩:=gR Q
   obtain ⟨J,Y,Z⟩:=gR R
   subst g3
   rw [List.length_set] at J
   have e5:cR C.lock j (.lst true xs) δ1=some (δ1.set j (some (.lst true xs))):=rN J Y
   have e6:cR C.lock i x (δ1.set j (some (.lst true xs)))=some ((δ1.set j (some (.lst true xs))).set i (some x)):=rN (by rw [List.length_set];exact g1) g2
   have fin:∀ (a:Addr) (v0:V) (vs:List V),RpL X.K F' (v0::vs) (x::xs)→∀ g,H' g=none→D.nx ((σ.set i (some v0)).set j (some (.ref g))) (upd H' g (.lst vs)):=fun a v0 vs r g L=>by
    cases r with
    | cons w rs =>
     have q1:=p.drop.vp (New.list (vs:=vs) p.ok.sub L)
     have o1:Ow X.K F' (upd H' g (.lst vs)) (.ref g) (.lst true xs) (At g):=Ow.list p.ok.sub L rs
     obtain ⟨q2,B,_⟩:=q1.put o1 (fun _ z=>z) e5
     obtain ⟨q3,G,_⟩:=q2.put (.frz (W:=No) w) (fun _ z=>z) e6
     rw [List.set_comm _ _ m]
     have eδ:δ3=(δ1.set j (some (.lst true xs))).set i (some x):=by rw [Z,List.set_comm _ _ m]
     exact k _ _ _ _ (by rw [eδ];exact q3) (B.trans G)
   cases d with
   | lst b ys =>
    cases ys with
    | nil=>simp [nP] at f
    | cons y0 ys =>
     simp only [nP] at f
     split at f
     ·rename_i M
      cases f
      rw [Bool.and_eq_true] at M
      obtain ⟨a,vs,rfl,hH,hl,I⟩:=Vw.lst p.ok.sub ⟨_,o⟩
      cases vs with
      | nil=>simp at hl
      | cons v0 vs=>exact ⟨a,v0,vs,rfl,.inl hH,fin a v0 vs (I M.1)⟩
     ·cases f
   | tup ys =>
    cases ys with
    | nil=>simp [nP] at f
    | cons y0 ys =>
     simp only [nP] at f
     split at f
     ·cases f
      obtain ⟨a,vs,rfl,sq,I⟩:=Vw.tup ⟨_,o⟩
      cases I with
      | cons w rs=>exact ⟨a,_,_,rfl,.inr (af p.ok.sub sq),fin a _ _ (.cons w rs)⟩
     ·cases f
   | _=>simp [nP] at f
  ·cases l
 ·cases h
theorem s_s (h:SE C n) (f:SV C n) (l:SAs C n) (K:ST C n) (L:SIt C n) (M:SVC C n) (ih:SSs C n):SS C (n+1):=by
 intro X c ok m st x σ δ F H W fl D hm s he k
 cases m with
 | zero=>simp [mS] at hm
 | succ m =>
 have hn:PassesOwn (model X.prog X.w) X.A X.env X.xe:=ok.own
 cases st with
 | expr e=>exact zY h ok hm s he k
 | ret e=>exact BW h ok hm s he k
 | retN =>
  unfold mS at hm
  simp only at hm
  split at hm
  ·simp only [evS] at he
   cases he
   exact bf ps_retN (k .non σ F H W No (.refl s) (.frz .non) .refl)
  ·cases hm
 | asg t e =>
  unfold mS at hm
  simp only at hm
  split at hm
  ·rename_i tx y pos
   simp only [Bool.and_eq_true] at hm
   obtain ⟨⟨u,r⟩,g⟩:=hm
   simp only [evS] at he
   split at he
   ·rename_i d δ1 B
    split at he
    ·rename_i δ2 J
     cases he
     cases t with
     | nm i =>
      simp only at g
      split at g
      ·rename_i nm p
       rw [Bool.or_eq_true,Bool.or_eq_true,Bool.not_eq_true'] at g
       rcases g with (g | g) | g
       ·exact uE f ok u r (show swapsWithSole [.Name nm p] y pos.line X.env=pure false from HM g (some (.Name nm p)) pos.line X.env) rfl rfl s B J k
       ·have P:nmB c i nm=true:=by
         have:mNm c i (.Name nm p)=true:=r
         exact (iX this).1
        refine M ok u g P s B fun v F' H' W' Wt q o=>?_
        obtain ⟨Q,N,_⟩:=q.put o (fun _ z=>z) (show cR C.lock i d δ1=some δ2 from J)
        exact k _ _ _ _ Q N
       ·have N:X.env.scope.names.lookup nm=some .cell:=by
         rw [ok.sc]
         unfold ceB at g
         split at g
         ·assumption
         ·cases g
        exact uE f ok u r (show swapsWithSole [.Name nm p] y pos.line X.env=pure false from GV pos.line N) rfl rfl s B J k
      ·cases g
     | tp is =>
      simp only [Bool.not_eq_true'] at g
      have G:=r
      simp only [mTg] at G
      split at G
      ·rename_i ts kt pt
       have hw:swappedStores [.Tuple ts kt pt] y X.env=pure none:=by
        cases y<;>first | rfl | simp [isTup] at g
       exact uE (pos:=pos) f ok u r (show swapsWithSole [.Tuple ts kt pt] y pos.line X.env=pure false from zJ (ts:=ts) (k:=kt) (p:=pt) pos.line X.env) hw rfl s B J k
      ·cases G
    ·cases he
   ·cases he
  ·cases hm
 | par is es=>exact CW l ok hm s he k
 | setIx o i e=>exact wA l ok hm s he k
 | setF v cn nm i e=>exact yZ h f ok hm s he k
 | parF v cn fs es=>exact zV h l ok hm s he k
 | setK v R e=>exact AH h f ok hm s he k
 | setD v ke e=>exact AR h f ok hm s he k
 | updD v e=>exact zI h f ok hm s he k
 | parK v ks es=>exact absurd hm (by simp [mS])
 | swapIx o1 i1 o2 i2 e=>exact sZ f l ok hm s he k
 | aug i op e=>exact absurd hm (by simp [mS])
 | ifs e a b=>exact GL K ih ok hm s he k
 | for_ tg R its body =>
  unfold mS at hm
  simp only at hm
  split at hm
  ·simp only [Bool.and_eq_true] at hm
   obtain ⟨⟨⟨u,r⟩,g⟩,I⟩:=hm
   simp only [evS] at he
   split at he
   ·rename_i xs δ1 B
    exact Ac (m3:=0) ih ok hn L u r g I s B he k
   ·cases he
  ·cases hm
 | while_ e body =>
  unfold mS at hm
  simp only at hm
  split at hm
  ·rw [Bool.and_eq_true] at hm
   simp only [evS] at he
   exact sT K ih ok hn hm.1 hm.2 s he k
  ·cases hm
 | pass =>
  unfold mS at hm
  simp only at hm
  split at hm
  ·simp only [evS] at he
   cases he
   exact bf ps_pass (k _ _ _ _ (.refl s) .refl)
  ·cases hm
 | brk =>
  unfold mS at hm
  simp only at hm
  split at hm
  ·simp only [evS] at he
   cases he
   exact bf ps_break (k _ _ _ _ (.refl s) .refl)
  ·cases hm
 | cont =>
  unfold mS at hm
  simp only at hm
  split at hm
  ·simp only [evS] at he
   cases he
   exact bf ps_continue (k _ _ _ _ (.refl s) .refl)
  ·cases hm
 | bad=>simp [evS] at he
 | raise cn nms es=>simp [evS] at he
 | raiseF cn nms es cn2 nms2 es2=>simp [evS] at he
 | asgS i j e =>
  unfold mS at hm
  simp only at hm
  split at hm
  ·rename_i t1 t2 ps kt pt y pos
   simp only [Bool.and_eq_true,Bool.not_eq_true'] at hm
   obtain ⟨⟨⟨⟨u,r⟩,g⟩,V⟩,I⟩:=hm
   simp only [evS] at he
   split at he
   ·rename_i d δ1 B
    split at he
    ·rename_i x xs J
     split at he
     ·rename_i O
      split at he
      ·rename_i δ2 Y
       split at he
       ·rename_i δ3 Z
        cases he
        exact zo f ok u r g V I (by simpa using O) s B J Y Z k
       ·cases he
      ·cases he
     ·cases he
    ·cases he
   ·cases he
  ·cases hm
structure All (C:Ctx) (n:Nat):Prop where
 e:SE C n
 v:SV C n
 vs:SVs C n
 asI:SAI C n
 and:Hz C n
 or:SOr C n
 t:ST C n
 tand:xE C n
 tor:EJ C n
 ct:SCT C n
 it:SIt C n
 ifs:vC C n
 ec:SEC C n
 vc:SVC C n
 s:SS C n
 ss:SSs C n
theorem Ie:All C 0 where
 e:=by intro X c ok m e x σ δ F H W a δ' Q hm s he;simp [evE] at he
 v:=by intro X c ok m e x σ δ F H W a δ' Q hm s he;simp [evV] at he
 vs:=by intro X c ok m e x σ δ F H W a δ' Q hm s he;simp [Ea] at he
 asI:=by intro X c ok m e x σ δ F H W a δ' Q hm s he;simp [aN] at he
 and:=by intro X c ok m e x p σ δ F H W a δ' Q hm s he;simp [jJ] at he
 or:=by intro X c ok m e x p σ δ F H W a δ' Q hm s he;simp [Aq] at he
 t:=by intro X c ok m e x σ δ F H W a δ' Q hm s he;simp [evT] at he
 tand:=by intro X c ok m e x p σ δ F H W a δ' Q hm s he;simp [mB] at he
 tor:=by intro X c ok m e x p σ δ F H W a δ' Q hm s he;simp [kD] at he
 ct:=by intro X c ok m e l os rs p σ δ F H W a δ' hm s he;simp [evE] at he
 it:=by intro X c ok m t k es x σ δ F H W a δ' Q hm s he;simp [dB] at he
 ifs:=by intro X c ok m e x σ δ F H W a δ' Q hm s he;simp [cu] at he
 ec:=by intro X c ok m e x σ δ F H W a δ' nm p sp i D hm hs hi s he;simp [evE] at he
 vc:=by intro X c ok m e x σ δ F H W a δ' nm p sp i D hm hs hi s he;simp [evV] at he
 s:=by intro X c ok m e x σ δ F H W a D hm s he;simp [evS] at he
 ss:=by intro X c ok m e x σ δ F H W a D hm s he;simp [bg] at he
theorem s_e (h:All C n):SE C (n+1):=by
 intro X c ok m e x σ δ F H W a δ' Q hm s he k
 cases m with
 | zero=>simp [mE] at hm
 | succ m =>
 have g:SAs C n:=SAI.as h.asI
 cases e with
 | non=>exact jV ok (.inl rfl) hm s he k
 | bl b=>exact jV ok (.inr (.inl ⟨_,rfl⟩)) hm s he k
 | int i=>exact jV ok (.inr (.inr (.inl ⟨_,rfl⟩))) hm s he k
 | str i=>exact jV ok (.inr (.inr (.inr ⟨_,rfl⟩))) hm s he k
 | con q=>exact G2 ok hm s he k
 | kin ne ps u=>exact BG h.e ok hm s he k
 | kix ps u=>exact Gb h.e ok hm s he k
 | var i=>exact GN ok hm s he k
 | bin op a b=>exact G4 g ok hm s he k
 | neg a=>exact Hk h.e ok hm s he k
 | cmp op a b=>exact Cq g ok hm s he k
 | chain o1 o2 a b d=>exact wq g h.e ok hm s he k
 | band es =>
  unfold mE at hm
  simp only at hm
  split at hm
  ·simp only [evE] at he
   exact h.and ok hm s he k
  ·cases hm
 | bor es =>
  unfold mE at hm
  simp only at hm
  split at hm
  ·simp only [evE] at he
   exact h.or ok hm s he k
  ·cases hm
 | bnot a=>exact BH h.e ok hm s he k
 | ite d a b=>exact GW h.t h.e ok hm s he k
 | tup es=>exact GU g ok hm s he k
 | lst es=>exact FU g ok hm s he k
 | disS l pre st post=>exact Cm h.v h.vs ok hm s he k
 | pur e=>exact absurd hm (by simp [mE])
 | sub a i=>exact G8 g ok hm s he k
 | slice a lo hi=>exact zd h.asI ok hm s he k
 | rev a=>exact absurd hm (by simp [mE])
 | call f es=>exact Df g ok hm s he k
 | callK f es p=>exact absurd hm (by simp [mE])
 | callT f es=>exact absurd hm (by simp [mE])
 | bi b es=>exact Jc g ok hm s he k
 | isi a ts=>exact Hf h.e ok hm s he k
 | xf a nm cns=>exact absurd hm (by simp [mE])
 | isx a t cns=>exact absurd hm (by simp [mE])
 | fld a cn nm i=>exact Gq h.e ok hm s he k
 | wk a=>exact absurd hm (by simp [mE])
 | tupN a=>exact absurd hm (by simp [mE])
 | tix a cn nm i e=>exact absurd hm (by simp [mE])
 | mthM v cn nm f es=>exact C8 h.e g ok hm s he k
 | mthMK v cn nm f ks ps es=>exact absurd hm (by simp [mE])
 | dct ks es=>exact HC g ok hm s he k
 | key a r=>exact Fu h.e ok hm s he k
 | dtk0=>exact B7 ok hm s he k
 | dtk1 j w=>exact By h.v ok hm s he k
 | dgt v j y=>exact HA h.e h.v ok hm s he k
 | dgt1 v j=>exact BZ h.e h.v ok hm s he k
 | dix v j=>exact Hx h.e h.v ok hm s he k
 | dck j w tg r its own=>exact GA ok h.it h.v hm s he k
 | clsC v cn nm f st es=>exact Cf h.e g ok hm s he k
 | ob o cn nm f es =>
  cases o with
  | mth=>exact Fz h.asI ok hm s he k
  | len=>exact FJ g ok hm s he k
  | made=>exact DH g ok hm s he k
  | tupO=>exact BC g ok hm s he k
  | isO=>exact absurd hm (by simp [mE])
  | madeK p=>exact absurd hm (by simp [mE])
  | new=>exact GK g ok hm s he k
  | tX=>exact absurd hm (by simp [mE])
  | newL=>exact absurd hm (by simp [mE])
  | newLK kn=>exact absurd hm (by simp [mE])
  | contO ne=>exact absurd hm (by simp [mE])
  | bin sq=>exact Cc g ok hm s he k
  | una=>exact absurd hm (by simp [mE])
  | dcp=>exact absurd hm (by simp [mE])
  | inMix ne=>exact absurd hm (by simp [mE])
  | cm=>exact absurd hm (by simp [mE])
  | cmK kn=>exact absurd hm (by simp [mE])
  | mthK kn=>exact absurd hm (by simp [mE])
  | eqO ne=>exact absurd hm (by simp [mE])
  | cmpO op=>exact absurd hm (by simp [mE])
  | prop=>exact absurd hm (by simp [mE])
  | mobN ks=>exact absurd hm (by simp [mE])
  | mobP n ks=>exact absurd hm (by simp [mE])
  | st=>exact Ii g ok hm s he k
  | stK p=>exact absurd hm (by simp [mE])
  | binI=>exact absurd hm (by simp [mE])
  | rbinI=>exact absurd hm (by simp [mE])
 | meth mt o es=>exact DA h.e g ok hm s he k
 | lc elt tg r its ifs own=>exact G9 ok h.it h.v h.ifs hm s he k
 | lc2 elt tg r its tg2 k2 its2 own own2=>exact BY ok h.it h.v h.ifs hm s he k
theorem pY:∀ n,All C n
 | 0=>Ie
 | n+1=>by
  have h:=pY n
  have a:SAs C n:=SAI.as h.asI
  exact ⟨s_e h,s_v h.e,Ic a,Gu h.e h.asI,Gn h.e h.and,Io h.e h.or,s_t h.e h.t h.tand h.tor h.ct,DZ h.t h.tand,Fd h.t h.tor,IL a h.e,Jg a,FE h.t,Je h.it h.v h.ifs,Im h.ec,s_s h.e h.v a h.t h.it h.vc h.ss,IW h.s h.ss⟩
end
end Ev
namespace Ev
open PySem PySem.Spec PyProof.Rows L2
section
variable {K:Frag} {F H:Hp}
theorem StL.nr (s:Same F H) {U:Fp}:∀ {σ:L2.St} {δ:Dl} {W:Fp},StL K F H σ δ W→(∀ b,W b→U b)→StL K (fzH F H U) H σ (δ.map (Option.map D.frz)) No
 | _,_,_,.nil,_=>.nil
 | _,_,_,.gap h,k=>.gap (StL.nr s h k)
 | _,_,_,.one a c f d e,k=>.one (W1:=No) (W2:=No) (.frz (a.share s fun b z=>k b (d b z))) (StL.nr s c fun b z=>k b (e b z)) (fun _ z=>z.elim) (fun _ z=>z) (fun _ z=>z)
theorem xp {own:List Nat} {σ a:L2.St} (b:a.length=σ.length) (h:∀ i,i ∉ own→a[i]?=σ[i]?):wipe a own=wipe σ own:=by
 refine List.ext_getElem? fun i=>?_
 rw [dV,dV,b]
 split
 ·rfl
 ·rename_i n
  exact h i n
end
section
variable {C:Ctx} {X:Cx} {c:Cxt}
theorem XOk.Cz (ok:XOk C X c) (L:List Nat):XOk ⟨C.call,C.io,L⟩ X c:={ ok with call:=⟨ok.call.fn⟩ }
theorem nq (ok:XOk C X c):∀ n {m:Nat} {ss:List S} {xs rest:List Stmt} {σ:L2.St} {δ δ1:Dl} {F H:Hp} {W:Fp} {D:Ends},mSs m c ss xs=true→SOk X.K F H σ δ W→bg C n ss δ=some (.nx δ1)→(∀ a F' H' W',aB X.K F H W F' H' a δ1 W' No→bH C.lock σ a→vW X rest D a H')→vW X (xs++rest) D σ H
 | 0,m,ss,xs,rest,σ,δ,δ1,F,H,W,D,hm,s,he,k=>by simp [bg] at he
 | n+1,0,ss,xs,rest,σ,δ,δ1,F,H,W,D,hm,s,he,k=>by simp [mSs] at hm
 | n+1,m+1,ss,xs,rest,σ,δ,δ1,F,H,W,D,hm,s,he,k=>by
  cases ss with
  | nil =>
   cases xs with
   | cons _ _=>simp [mSs] at hm
   | nil =>
    simp only [bg] at he
    cases he
    exact k _ _ _ _ (.refl s) .refl
  | cons st ss =>
   cases xs with
   | nil=>simp [mSs] at hm
   | cons x xs =>
    simp only [mSs,Bool.and_eq_true] at hm
    simp only [bg] at he
    split at he
    ·rename_i δ2 d
     rw [List.cons_append]
     exact n8 (pss_cons Di e8) ((pY n).s ok hm.1 s d fun a F' H' W' p e=>nq ok n hm.2 p.ok he fun f g h W2 q l=>k f g h W2 (p.aA q) (e.trans l))
    ·rename_i b
     exact absurd he (b δ1)
theorem Eh (ok:XOk C X c) {t:Tr} {vars:List Nat} {m:Nat} {xs rest:List Stmt} {σ:L2.St} {δ δ1:Dl} {F H:Hp} {W:Fp} {D:Ends} (hm:mSs m c t.body xs=true) (s:SOk X.K F H σ δ W) (he:BQ C t vars δ=some (.nx δ1))
  (k:∀ d F' H' W',aB X.K F H W F' H' d δ1 W' No→bH C.lock σ d→vW X rest D d H'):vW X (xs++rest) D σ H:=by
 unfold BQ at he
 split at he
 ·rename_i δ2 r
  split at he
  ·rename_i u
   cases he
   have s1:SOk X.K (fzH F H W) H σ (δ.map (Option.map Ev.D.frz)) No:=⟨iU s.sub,s.st.nr s.sub fun _ z=>z,fun _ z=>z.elim⟩
   refine nq (ok.Cz _) 100 hm s1 r fun d F' H' W' p q=>?_
   have g:∀ i,i<δ.length→i ∉ vars→d[i]?=σ[i]?:=fun i hi v=>q i (by
    rw [List.contains_iff_mem,List.mem_append]
    exact .inl (List.mem_filter.mpr ⟨List.mem_range.mpr hi,by simpa using v⟩))
   have kept:∀ b o,W b→H b=some o→H' b=some o:=fun b o w e=>p.ok.sub b o (p.ext.fsub b o (by rw [cw w];exact e))
   have l0:=s.st.length
   have l1:d.length=σ.length:=by
    have a:=p.ok.st.length
    rw [a,u,l0]
   have j:StL X.K F H' σ δ W:=s.st.keep (fun _ _ e=>e) fun b w o e f=>⟨kept b o w e,f⟩
   have l:StL X.K F H' d (aY δ vars) W:=by
    refine StL.fN (own:=vars) ?_
    rw [xp l1 fun i hi=>?_]
    ·exact j.iK vars
    ·by_cases h:i<δ.length
     ·exact g i h hi
     ·rw [List.getElem?_eq_none (by omega),List.getElem?_eq_none (by omega)]
   refine k d F H' W ⟨⟨fun b o e=>p.ok.sub b o (p.ext.fsub b o (bT s.sub b o e)),l,fun b w e=>s.lv b w (p.ext.live b e)⟩,fun _ z=>z.elim,fun _ z=>z.elim,⟨fun _ _ e=>e,fun _ _ e=>.inl e,fun b o e n=>p.ext.keep b o e (fun z=>z.elim),p.ext.live,fun b z=>z.elim (fun z=>z.elim) .inl⟩⟩ fun i hi=>q i (by
    rw [List.contains_iff_mem,List.mem_append]
    exact .inr (by simpa using hi))
  ·cases he
 ·cases he
end
end Ev
namespace Ob
open PySem PySem.Spec PyProof.Rows L2 Ev
section
variable {P:Program} {w:World} {K:Frag} {mg:Str→Option Value} {base:Heap} {C:Addr}
theorem oT {d:D} {rs:List D} (h:vM d=some rs):je d rs:=by
 unfold vM at h
 split at h
 ·rename_i δ1 a
  split at h
  ·rename_i δ2 b
   split at h
   ·rename_i c e
    split at h
    ·rename_i fz
     cases h
     exact ⟨δ1,δ2,a,b,e,fz⟩
    ·cases h
   ·cases h
  ·cases h
 ·cases h
end
end Ob
namespace Ob
open PySem PySem.Spec PyProof.Rows L2 Ev
section
variable {X:Cx} {CX:CXT} {k i:Nat} {f C:Addr} {fd:FuncData} {ps:List Str} {sp:Sp} {E:XK} {x:Str} {e:Expr} {es:List Expr} {t:TA} {p pos:Pos}
end
theorem qi {ways:List (Str × Nat)} (h:ways.length<9):uN ways=none:=by
 unfold uN
 split
 ·simp at h
 ·rfl
theorem xQ {C0:Ev.Ctx} {it:Nat} {ways:List (Str × Nat)} {ds:List D} {rs:List D} (hw:ways.length<9) (h:xM C0 it ways ds=some rs):∃ rule items lap,ds=[rule,items,lap]∧iV C0 it ways rule items lap rs:=by
 unfold xM at h
 split at h
 ·rename_i rule items lap
  split at h
  ·rename_i δ1 a
   split at h
   ·rename_i w δ2 b
    split at h
    ·rename_i f c
     split at h
     ·rename_i e
      split at h
      ·rename_i d δ3 g
       exact ⟨rule,items,lap,rfl,w,f,d,δ1,δ2,δ3,a,b,c,e,g,oT h⟩
      ·cases h
     ·cases h
    ·cases h
   ·cases h
  ·cases h
 ·unfold dkF at h
  split at h
  ·rw [qi hw] at h
   cases h
  ·cases h
 ·cases h
def nO (P:Program) (w:World) (K:Frag) (mg:Str→Option Value) (base:Heap) (k:Nat) (C0:Ev.Ctx) (tab:List Str) (kt:Nat→List KwP):Prop :=
 ∀ f g,tab[f]?=some g→az g=true→∀ ds r outs,C0.call f ds=some (r,outs)→∃ (a:Addr) (fd:FuncData) (ps:List Str) (sp:Sp),mg g=some (.ref a)∧keepIn K (.ref a)=true∧FnOk P w K mg base CX0 k a fd ps sp∧Binds K fd ps []∧(∀ p∈kt f,xH K fd ps p) ∧
  ∀ vs H Q E,lg K (C0.call f) (C0.io f) vs H Q→sp vs H Q E
section
variable {P:Program} {w:World} {K:Frag} {mg:Str→Option Value} {base:Heap} {C:Addr}
end
end Ob
namespace Ob
open PySem PySem.Spec PyProof.Rows L2 Ev
theorem C9 {C0:Ev.Ctx} {it:Nat} {ds rs:List D} (h:ldF C0 it ds=some rs):HX C0 it ds rs:=by
 unfold ldF at h
 split at h
 ·rename_i items rule way wk d en
  split at h
  ·rename_i as δ1 e
   split at h
   ·rename_i a b δ2 f
    split at h
    ·rename_i c
     cases h
     rw [Bool.and_eq_true] at c
     exact ⟨items,rule,a,b,way,en,wk,d,as,δ1,δ2,rfl,rfl,e,f,c.1,c.2⟩
    ·cases h
   ·cases h
  ·cases h
 ·cases h
def RlH (x dx:Addr) (H1 Hn:Hp):Prop:=∀ b,(b≠x→b≠dx→∀ o,H1 b=some o→Hn b=some o)∧(Hn b=none→H1 b=none)
section
variable {P:Program} {w:World} {K:Frag} {mg:Str→Option Value} {base:Heap} {C:Addr}
end
end Ob
namespace Ev
open PySem PySem.Spec PyProof.Rows L2
structure Def where
 name:Str
 st:Stmt
 N:List Str
 ps:List Str
 f:Fn
 kw:List KwP:=[]
 gc:List (Str × Kc):=[]
 cn:Str:=""
 mt:Option (Str × Str × Str):=none
 sl:List (Str × Str × Nat):=[]
 xt:Hi:={}
 pr:Bool:=false
 ko:List (List Str × List Str):=[]
 cmf:Bool:=false
def Def.fnm (d:Def):Str:=match d.mt with
 | some (_,m,_)=>m
 | none=>d.name
def Def.qual (d:Def):Str:=match d.mt with
 | some (_,_,q)=>q
 | none=>d.name
def yw:Nat→List Def→List (Nat × Str × Str)
 | _,[]=>[]
 | i,d::ds=>match d.mt with
  | some (cn,m,_)=>if d.pr||!d.ko.isEmpty||d.cmf then yw (i+1) ds else (i,cn,m)::yw (i+1) ds
  | none=>yw (i+1) ds
theorem p5:∀ (i:Nat) (l:List Def) (f:Nat) (cn nm:Str),(f,cn,nm)∈yw i l→∃ j d q,f=i+j∧l[j]?=some d∧d.mt=some (cn,nm,q)∧d.pr=false∧d.ko=[]∧d.cmf=false
 | i,[],f,cn,nm,h=>by simp [yw] at h
 | i,d::l,f,cn,nm,h=>by
  have a:(f,cn,nm)∈yw (i+1) l→∃ j d' q,f=i+j∧(d::l)[j]?=some d'∧d'.mt=some (cn,nm,q)∧d'.pr=false∧d'.ko=[]∧d'.cmf=false:=fun h=>by
   obtain ⟨j,d',e,o,g,k⟩:=p5 (i+1) l f cn nm h
   exact ⟨j+1,d',e,by omega,by simpa using g,k⟩
  unfold yw at h
  split at h
  ·rename_i c m q n
   split at h
   ·exact a h
   ·rename_i b
    rcases List.mem_cons.mp h with h | h
    ·cases h
     simp only [Bool.or_eq_true,not_or,Bool.not_eq_true,Bool.not_eq_false',List.isEmpty_iff] at b
     exact ⟨0,d,q,rfl,rfl,n,b.1.1,b.1.2,b.2⟩
    ·exact a h
  ·exact a h
def yF:Nat→List Def→List (Nat × Str × Str × List Str × List Str)
 | _,[]=>[]
 | i,d::ds=>match d.mt with
  | some (cn,m,_)=>if d.pr||d.cmf then yF (i+1) ds else (d.ko.map fun p=>(i,cn,m,p.1,p.2))++yF (i+1) ds
  | none=>yF (i+1) ds
theorem pQ:∀ (i:Nat) (l:List Def) (f:Nat) (cn nm:Str) (ks al:List Str),(f,cn,nm,ks,al)∈yF i l→∃ j d q,f=i+j∧l[j]?=some d∧d.mt=some (cn,nm,q)∧(d.pr=false∧d.cmf=false)∧(ks,al)∈d.ko
 | i,[],f,cn,nm,ks,al,h=>by simp [yF] at h
 | i,d::l,f,cn,nm,ks,al,h=>by
  have a:(f,cn,nm,ks,al)∈yF (i+1) l→∃ j d' q,f=i+j∧(d::l)[j]?=some d'∧d'.mt=some (cn,nm,q)∧(d'.pr=false∧d'.cmf=false)∧(ks,al)∈d'.ko:=fun h=>by
   obtain ⟨j,d',g,s,k,n⟩:=pQ (i+1) l f cn nm ks al h
   exact ⟨j+1,d',g,by omega,by simpa using k,n⟩
  unfold yF at h
  split at h
  ·rename_i c m q o
   split at h
   ·exact a h
   ·rename_i r
    rcases List.mem_append.mp h with h | h
    ·obtain ⟨p,b,e⟩:=List.mem_map.mp h
     cases e
     exact ⟨0,d,q,rfl,rfl,o,by simpa using r,b⟩
    ·exact a h
  ·exact a h
def yL:Nat→List Def→List (Nat × Str × Str)
 | _,[]=>[]
 | i,d::ds=>match d.mt with
  | some (cn,m,_)=>if d.pr&&!d.cmf then (i,cn,m)::yL (i+1) ds else yL (i+1) ds
  | none=>yL (i+1) ds
theorem pA:∀ (i:Nat) (l:List Def) (f:Nat) (cn nm:Str),(f,cn,nm)∈yL i l→∃ j d q,f=i+j∧l[j]?=some d∧d.mt=some (cn,nm,q)∧d.pr=true∧d.cmf=false
 | i,[],f,cn,nm,h=>by simp [yL] at h
 | i,d::l,f,cn,nm,h=>by
  have a:(f,cn,nm)∈yL (i+1) l→∃ j d' q,f=i+j∧(d::l)[j]?=some d'∧d'.mt=some (cn,nm,q)∧d'.pr=true∧d'.cmf=false:=fun h=>by
   obtain ⟨j,d',b,o,e,g⟩:=pA (i+1) l f cn nm h
   exact ⟨j+1,d',b,by omega,by simpa using e,g⟩
  unfold yL at h
  split at h
  ·rename_i c m q k
   split at h
   ·rename_i n
    rcases List.mem_cons.mp h with h | h
    ·cases h
     exact ⟨0,d,q,rfl,rfl,k,by simpa using n⟩
    ·exact a h
   ·exact a h
  ·exact a h
def yo:Nat→List Def→List (Nat × Str × Str)
 | _,[]=>[]
 | i,d::ds=>match d.mt with
  | some (cn,m,_)=>if d.cmf&&d.ko.isEmpty then (i,cn,m)::yo (i+1) ds else yo (i+1) ds
  | none=>yo (i+1) ds
theorem pE:∀ (i:Nat) (l:List Def) (f:Nat) (cn nm:Str),(f,cn,nm)∈yo i l→∃ j d q,f=i+j∧l[j]?=some d∧d.mt=some (cn,nm,q)∧d.cmf=true∧d.ko=[]
 | i,[],f,cn,nm,h=>by simp [yo] at h
 | i,d::l,f,cn,nm,h=>by
  have a:(f,cn,nm)∈yo (i+1) l→∃ j d' q,f=i+j∧(d::l)[j]?=some d'∧d'.mt=some (cn,nm,q)∧d'.cmf=true∧d'.ko=[]:=fun h=>by
   obtain ⟨j,d',b,o,e,g⟩:=pE (i+1) l f cn nm h
   exact ⟨j+1,d',b,by omega,by simpa using e,g⟩
  unfold yo at h
  split at h
  ·rename_i c m q k
   split at h
   ·rename_i n
    rcases List.mem_cons.mp h with h | h
    ·cases h
     exact ⟨0,d,q,rfl,rfl,k,by simpa [List.isEmpty_iff] using n⟩
    ·exact a h
   ·exact a h
  ·exact a h
def StandsAt (K:Frag) (mg:Str→Option Value) (d:Def) (a:Addr):Prop:=match d.mt with
 | none=>mg d.name=some (.ref a)
 | some (cn,m,_)=>∃ Ca:Addr,nsIn K mainGlobals cn=some (some (.ref Ca))∧SlX.SCls K Ca∧if d.cmf then (mg cn=some (.ref Ca)∧∃ mc p,ClX.CRead K Ca mc∧ClX.CMet K Ca mc m p a) else if d.pr then ∃ p,Ob.Ee K Ca m p a else L2.Meth K Ca m a
abbrev tabOf (ds:List Def):List Str:=ds.map (·.name)
abbrev eG (ds:List Def):List Fn:=ds.map (·.f)
abbrev iM (ds:List Def):Nat→List KwP:=fun i=>((ds[i]?).map (·.kw)).getD []
def kE (f:Fn):Bool:=match f.vt with
 | some (_,_::ws)=>decide (ws.length<8)
 | _=>false
def oF (f:Fn):Bool:=match f.vt with
 | some (it,[])=>it != stN&&!decide (8000≤it)
 | _=>false
def xF (f:Fn):Bool:=match f.vt with
 | some (it,[])=>it==stN
 | _=>false
def vK (f:Fn):Bool:=match f.vt with
 | some (it,[])=>decide (8000≤it)
 | _=>false
theorem rD {f:Fn} (h:vK f=true):∃ it,f.vt=some (it,[])∧8000≤it:=by
 unfold vK at h
 split at h
 ·exact ⟨_,by assumption,of_decide_eq_true h⟩
 ·cases h
theorem nH {f:Fn} (h:kE f=true):∃ it w ws,f.vt=some (it,w::ws)∧ws.length<8:=by
 unfold kE at h
 split at h
 ·exact ⟨_,_,_,by assumption,of_decide_eq_true h⟩
 ·cases h
theorem qv {f:Fn} (h:oF f=true):∃ it,f.vt=some (it,[])∧it≠stN∧¬ 8000≤it:=by
 unfold oF at h
 split at h
 ·exact ⟨_,by assumption,by simpa using h⟩
 ·cases h
theorem rP {f:Fn} (h:xF f=true):f.vt=some (stN,[]):=by
 unfold xF at h
 split at h
 ·rename_i e
  rw [e,beq_iff_eq.mp h]
 ·cases h
def Ck:Nat→List Def→Option (Nat × Str)
 | _,[]=>none
 | i,d::ds=>if kE d.f then some (i,d.cn) else Ck (i+1) ds
def DM:Nat→List Def→Option (Nat × Str)
 | _,[]=>none
 | i,d::ds=>if oF d.f then some (i,d.cn) else DM (i+1) ds
def DF:Nat→List Def→Option (Nat × Str)
 | _,[]=>none
 | i,d::ds=>if xF d.f then some (i,d.cn) else DF (i+1) ds
theorem pM:∀ (i:Nat) (l:List Def) (f:Nat) (cn:Str),DF i l=some (f,cn)→∃ j d,f=i+j∧l[j]?=some d∧xF d.f=true∧d.cn=cn
 | i,[],f,cn,h=>by simp [DF] at h
 | i,d::l,f,cn,h=>by
  unfold DF at h
  split at h
  ·rename_i a
   cases h
   exact ⟨0,d,rfl,rfl,a,rfl⟩
  ·obtain ⟨j,d',g,b,c,e⟩:=pM (i+1) l f cn h
   exact ⟨j+1,d',by omega,by simpa using b,c,e⟩
def Dx:Nat→List Def→Option (Nat × Str)
 | _,[]=>none
 | i,d::ds=>if vK d.f then some (i,d.cn) else Dx (i+1) ds
theorem o9:∀ (i:Nat) (l:List Def) (f:Nat) (cn:Str),Dx i l=some (f,cn)→∃ j d,f=i+j∧l[j]?=some d∧vK d.f=true∧d.cn=cn
 | i,[],f,cn,h=>by simp [Dx] at h
 | i,d::l,f,cn,h=>by
  unfold Dx at h
  split at h
  ·rename_i a
   cases h
   exact ⟨0,d,rfl,rfl,a,rfl⟩
  ·obtain ⟨j,d',g,b,c,e⟩:=o9 (i+1) l f cn h
   exact ⟨j+1,d',by omega,by simpa using b,c,e⟩
def Def.cxt (d:Def) (ds:List Def):Cxt:=⟨d.N,defScope d.st,fun _=>true,tabOf ds,iM ds,d.gc,Ck 0 ds,yw 0 ds,d.sl,DM 0 ds,d.xt,true,DF 0 ds,yL 0 ds,Dx 0 ds,yF 0 ds,yo 0 ds⟩
def namesOf:List Expr→Option (List Str)
 | []=>some []
 | .Name x _::es=>(namesOf es).map (x::·)
 | _=>none
def yS:Expr→Option (List Str)
 | .Name x _=>some [x]
 | .Tuple es _ _=>namesOf es
 | _=>none
def Gr (d:Def) (ds:List Def) (t:Tr):Bool:=match (defBody d.st).drop d.f.body.length with
 | .Try body [.ExceptHandler (some tst) (some en) [.Assign [.Name xn _] (.Name en' _) q3] _] [] [] _::post =>
  mSs 200 (d.cxt ds) d.f.body ((defBody d.st).take d.f.body.length)&&mSs 200 (d.cxt ds) t.body body&&mSs 200 (d.cxt ds) t.post post&&same en' en&&decide (d.N[t.ei]?=some en)&&decide (d.N[t.ci]?=some xn)&&loB (d.cxt ds) en&&loB (d.cxt ds) xn&&az en &&
   decide (yS tst=some d.xt.xh)&&d.xt.xh.all (fun x=>glB (d.cxt ds) x&&az x)&&d.xt.xc.isEmpty
 | _=>false
def HE (d:Def) (ds:List Def) (t:Tr) (ss:List S):Bool:=match (defBody d.st).drop d.f.body.length with
 | .Try body [.ExceptHandler (some tst) (some en) (b0::suite) _] [] [] _::post =>
  mSs 200 (d.cxt ds) d.f.body ((defBody d.st).take d.f.body.length)&&mSs 200 (d.cxt ds) t.body body&&mSs 200 (d.cxt ds) t.post post&&mSs 200 (d.cxt ds).su ss (b0::suite)&&decide (d.N[t.ei]?=some en)&&loB (d.cxt ds) en &&
   decide (yS tst=some d.xt.xh)&&d.xt.xh.all (fun x=>glB (d.cxt ds) x&&az x)&&d.xt.xc.isEmpty
 | _=>false
def GZ (d:Def) (ds:List Def) (t:Tr) (ss:List S):Bool:=match (defBody d.st).drop d.f.body.length with
 | .Try body [.ExceptHandler (some tst) none (b0::suite) _] [] [] _::post =>
  mSs 200 (d.cxt ds) d.f.body ((defBody d.st).take d.f.body.length)&&mSs 200 (d.cxt ds) t.body body&&mSs 200 (d.cxt ds) t.post post&&mSs 200 (d.cxt ds).su ss (b0::suite) &&
   decide (yS tst=some d.xt.xh)&&d.xt.xh.all (fun x=>glB (d.cxt ds) x&&az x)&&d.xt.xc.isEmpty
 | _=>false
def GO (d:Def) (ds:List Def) (t:Tr) (ss:List S):Bool:=match ss with
 | [.ifs (.isx (.var e) _ _) sa sz]=>match (defBody d.st).drop d.f.body.length with
  | .Try body [.ExceptHandler (some (.Name x1 _)) (some en) (b1::su1) _,.ExceptHandler (some (.Name x2 _)) (some en') (b2::su2) _] [] [] _::post =>
   mSs 200 (d.cxt ds) d.f.body ((defBody d.st).take d.f.body.length)&&mSs 200 (d.cxt ds) t.body body&&mSs 200 (d.cxt ds) t.post post&&mSs 200 (d.cxt ds).su sa (b1::su1)&&mSs 200 (d.cxt ds).su sz (b2::su2)&&decide (d.N[t.ei]?=some en)&&loB (d.cxt ds) en &&
    decide (d.xt.xh=[x1,x2])&&d.xt.xh.all (fun x=>glB (d.cxt ds) x&&az x)&&d.xt.xc.isEmpty&&decide (e=t.ei)&&same en' en
  | _=>false
 | _=>false
def yA (d:Def) (ds:List Def) (t:Tr):Bool:=mSs 200 (d.cxt ds) d.f.body ((defBody d.st).take d.f.body.length)&&mSs 200 (d.cxt ds) t.body (((defBody d.st).drop d.f.body.length).take t.body.length)&&mSs 200 (d.cxt ds) t.post (((defBody d.st).drop d.f.body.length).drop t.body.length)
def Ap (d:Def) (ds:List Def) (t:Tr):Bool:=match t.rz,(defBody d.st).drop d.f.body.length with
 | some (cC,cB),[.Try body [.ExceptHandler (some (.Name x _)) (some en) [.Raise (some (.Call (.Name x2 _) [] [] _)) (some (.Name en' _)) _] _] [] [] _] =>
  mSs 200 (d.cxt ds) d.f.body ((defBody d.st).take d.f.body.length)&&mSs 200 (d.cxt ds) t.body body&&t.post.isEmpty&&t.cs.isEmpty&&t.nm&&t.su.isNone&&t.sco.isNone&&same en' en&&decide (d.N[t.ei]?=some en)&&loB (d.cxt ds) en&&az en &&
   glB (d.cxt ds) x&&az x&&glB (d.cxt ds) x2&&az x2&&decide (x=cC)&&decide (x2=cB)&&d.xt.xz.contains cB
 | _,_=>false
def FT (ds:List Def) (dv:Nat):Bool:=match ds[dv]? with
 | some dd=>match dd.f.vt with
  | some (_,_::ws)=>decide (8≤ws.length)
  | _=>false
 | none=>false
def Gg (d:Def) (ds:List Def) (t:Tr):Bool:=match (defBody d.st).drop d.f.body.length,t.post with
 | [.Assign [.Name xd _] (.Call (.Name cD _) [.Name x1 _,.Name x2 _,.Name x3 _] [] _) _,.Return (some (.ListComp (.Call (.Attribute (.Name xd2 _) mA ap) [.Name xr _] [] cp) [⟨.Name xr2 _,.Name x4 _,[],0⟩] scope _)) _],[.ret (.call dv [.var i1,.var i2,.var i3,.var i4])] =>
  FT ds dv&&mSs 200 (d.cxt ds) d.f.body ((defBody d.st).take d.f.body.length)&&t.body.isEmpty&&same xd2 xd&&same xr2 xr&&same cD "Desk" && same mA "answer" && (ap.endLine==cp.line)&&decide (d.N[i1]?=some x1)&&i9 (d.cxt ds) x1&&az x1&&decide (d.N[i2]?=some x2)&&i9 (d.cxt ds) x2&&az x2 &&
   decide (d.N[i3]?=some x3)&&i9 (d.cxt ds) x3&&az x3&&decide (d.N[i4]?=some x4)&&i9 (d.cxt ds) x4&&az x4&&decide (d.N[t.ei]?=some xd)&&az xd&&stB (d.cxt ds) xd&&glB (d.cxt ds) "Desk" && blkC d.N (defScope d.st) scope (qF (d.cxt ds) [t.ci]) &&
   i9 ((d.cxt ds).blk scope) xd&&decide (d.N[t.ci]?=some xr)&&i9 ((d.cxt ds).blk scope) xr&&az xr&&stB ((d.cxt ds).blk scope) xr&&decide (t.ei≠t.ci)&&decide (i4≠t.ei)
 | _,_=>false
def kg (d:Def) (ds:List Def):Bool:=match d.f.tr with
 | none=>mSs 200 (d.cxt ds) d.f.body (defBody d.st)
 | some t=>if t.rz.isSome then Ap d ds t else if t.sco.isSome then yA d ds t else match t.su with
  | none=>if t.nm then Gr d ds t else Gg d ds t
  | some ss=>if t.nm then HE d ds t ss||GO d ds t ss else GZ d ds t ss
theorem uf {d:Def} {ds:List Def} {t:Tr} (h:Ap d ds t=true):∃ cC cB body x pn en x2 p1 p2 p3 p4 pos' pos,t.rz=some (cC,cB)∧(defBody d.st).drop d.f.body.length=[.Try body [.ExceptHandler (some (.Name cC pn)) (some en) [.Raise (some (.Call (.Name cB p1) [] [] p2)) (some (.Name en p3)) p4] pos'] [] [] pos]∧x=cC∧x2=cB ∧
  mSs 200 (d.cxt ds) d.f.body ((defBody d.st).take d.f.body.length)=true∧mSs 200 (d.cxt ds) t.body body=true∧t.post=[]∧t.cs=[]∧t.nm=true∧t.su=none∧t.sco=none∧d.N[t.ei]?=some en∧loB (d.cxt ds) en=true∧az en=true∧glB (d.cxt ds) cC=true∧az cC=true∧glB (d.cxt ds) cB=true∧az cB=true∧cB∈d.xt.xz:=by
 unfold Ap at h
 split at h
 ·rename_i cC cB body x pn en x2 p1 p2 m p3 p4 pos' pos n hd
  simp only [Bool.and_eq_true,decide_eq_true_eq,List.isEmpty_iff,Option.isNone_iff_eq_none,List.contains_iff_mem] at h
  obtain ⟨⟨⟨⟨⟨⟨⟨⟨⟨⟨⟨⟨⟨⟨⟨⟨⟨m1,o⟩,m3⟩,p⟩,q⟩,r⟩,s⟩,u⟩,v⟩,a⟩,b⟩,c⟩,e⟩,g⟩,i⟩,j⟩,k⟩,l⟩:=h
  have w:=of_decide_eq_true u
  subst w
  subst j
  subst k
  exact ⟨_,_,_,_,_,_,_,_,_,_,_,_,_,n,hd,rfl,rfl,m1,o,m3,p,q,r,s,v,a,b,c,e,g,i,l⟩
 ·cases h
theorem nv {d:Def} {ds:List Def} {t:Tr} {vars:List Nat} (ht:d.f.tr=some t) (hs:t.sco=some vars) (h:kg d ds=true):t.rz=none:=by
 unfold kg at h
 rw [ht] at h
 simp only at h
 cases a:t.rz with
 | none=>rfl
 | some p =>
  simp only [a,Option.isSome_some,if_true] at h
  obtain ⟨_,_,_,_,_,_,_,_,_,_,_,_,_,_,_,_,_,_,_,_,_,_,_,q,_⟩:=uf h
  rw [hs] at q
  cases q
def Def.chk (d:Def) (ds:List Def):Bool:=if d.f.vt.isSome then same d.name "__debug__" && decide (d.f.io=[])&&d.mt.isNone&&d.ko.isEmpty else kg d ds&&decide (d.N.length=d.f.n)&&decide (d.ps.length=d.f.ps)&&decide (d.ps.length≤d.N.length)&&(d.mt.isNone||same d.name "__debug__")&&(d.ko.isEmpty||(d.mt.isSome&&!d.pr))
structure cQ (K:Frag) (w:World) (mg:Str→Option Value) (d:Def):Prop where
 ex:∃ (a:Addr) (fd:FuncData),Fun K d.fnm d.qual d.st a fd∧StandsAt K mg d a∧keepIn K (.ref a)=true∧(d.ko=[]→Binds K fd d.ps [])∧(∀ p∈d.kw,xH K fd d.ps p)∧∀ p∈d.ko,FP K fd d.ps p.1 p.2
 sc:FnScope d.N d.ps (defScope d.st)
 con:∀ y k,d.gc.lookup y=some k→wU K w mg y k
 slo:∀ cn nm i,(cn,nm,i)∈d.sl→∃ Ca:Addr,nsIn K mainGlobals cn=some (some (.ref Ca))∧SlX.SCls K Ca∧∃ p:Addr,SlX.Slot1 K Ca nm p i
 xat:E7 K mg d.xt
theorem cI {K:Frag} {fd:FuncData} {ps:List Str}:∀ p∈([]:List KwP),xH K fd ps p:=fun p a=>by cases a
theorem zP {K:Frag} {w:World} {mg:Str→Option Value}:∀ y k,([]:List (Str × Kc)).lookup y=some k→wU K w mg y k:=fun y k h=>by cases h
section
variable {K:Frag} {F H:Hp}
theorem j5:∀ {vs:List V} {ds:List D} {W:Fp} (k:Nat),OwL K F H vs ds W→StL K F H (vs.map some++List.replicate k none) (ds.map some++List.replicate k none) W
 | [],_,_,0,.nil=>.nil
 | [],_,_,k+1,.nil=>by
  have:=j5 (vs:=[]) (ds:=[]) (W:=No) k (OwL.nil (K:=K) (F:=F) (H:=H))
  simp only [List.map_nil,List.nil_append,List.replicate_succ] at this ⊢
  exact .gap (this.weak fun _ q=>q.elim)
 | _::_,_,_,k,.cons a b c d e=>.one a (j5 k b) c d e
theorem mZ {io:List Nat} {σ:L2.St} {δ:Dl}:∀ {vs:List V} {j:Nat} {outs:List D} {δ2:Dl} {W2:Fp},bc δ io j vs.length=some outs→(∀ i,j≤i→δ2[i]?=δ[i]?)→StL K F H σ δ2 W2→(∀ i v,vs[i]?=some v→io.contains (j+i)=true→σ[j+i]?=some (some v))→yJ K F H io j vs outs W2
 | [],j,outs,δ2,W2,e,ag,st,c=>by
  simp only [List.length_nil,bc] at e
  cases e
  exact .nil
 | v::vs,j,outs,δ2,W2,e,ag,st,c=>by
  simp only [List.length_cons,bc] at e
  have a:∀ i w,vs[i]?=some w→io.contains (j+1+i)=true→σ[j+1+i]?=some (some w):=fun i w k l=>by
   have:=c (i+1) w (by simpa using k) (by rw [show j+(i+1)=j+1+i by omega];exact l)
   rw [show j+(i+1)=j+1+i by omega] at this
   exact this
  split at e
  ·rename_i b
   split at e
   ·rename_i d ds m n
    split at e
    ·rename_i p
     cases e
     have g2:δ2[j]?=some (some d):=by rw [ag j (Nat.le_refl _)];exact aL m
     obtain ⟨v',U,R,g,o,s1,s2,dj,f,_⟩:=st.zip g2
     have h:=c 0 v rfl (by simpa using b)
     rw [Nat.add_zero,g] at h
     cases h
     exact .one b (by simpa using p) o (mZ n (fun i hi=>by rw [List.getElem?_set_ne (by omega)];exact ag i (by omega)) f a) dj s1 s2
    ·cases e
   ·cases e
  ·rename_i b
   exact .skip (by simpa using b) (mZ e (fun i hi=>ag i (by omega)) st a)
end
section
variable {P:Program} {w:World} {K:Frag} {mg:Str→Option Value} {base:Heap} {ds:List Def}
theorem oP:∀ (i:Nat) (l:List Def) (f:Nat) (cn:Str),Ck i l=some (f,cn)→∃ j d,f=i+j∧l[j]?=some d∧kE d.f=true∧d.cn=cn
 | i,[],f,cn,h=>by simp [Ck] at h
 | i,d::l,f,cn,h=>by
  unfold Ck at h
  split at h
  ·rename_i a
   cases h
   exact ⟨0,d,rfl,rfl,a,rfl⟩
  ·obtain ⟨j,d',g,b,c,e⟩:=oP (i+1) l f cn h
   exact ⟨j+1,d',by omega,by simpa using b,c,e⟩
theorem o6:∀ (i:Nat) (l:List Def) (f:Nat) (cn:Str),DM i l=some (f,cn)→∃ j d,f=i+j∧l[j]?=some d∧oF d.f=true∧d.cn=cn
 | i,[],f,cn,h=>by simp [DM] at h
 | i,d::l,f,cn,h=>by
  unfold DM at h
  split at h
  ·rename_i a
   cases h
   exact ⟨0,d,rfl,rfl,a,rfl⟩
  ·obtain ⟨j,d',g,b,c,e⟩:=o6 (i+1) l f cn h
   exact ⟨j+1,d',by omega,by simpa using b,c,e⟩
def gj (K:Frag) (ds:List Def) (k g:Nat) (io:List Nat):Sp:=fun vs H Q _=>lg K (evF (eG ds) k g) io vs H Q
theorem vU {T:List Fn} {k g:Nat} {xs:List D} {r:D × List D} {f:Fn} (a:T[g]?=some f) (b:f.vt=none) (e:evF T k g xs=some r):∃ k',k=k'+1∧xs.length=f.ps:=by
 cases k with
 | zero=>simp [evF] at e
 | succ k =>
  simp only [evF,a,b] at e
  split at e
  ·rename_i c
   exact ⟨k,rfl,c⟩
  ·cases e
theorem cO {T:List Fn} {k g it:Nat} {ways:List (Str × Nat)} {xs:List D} {r:D × List D} {f:Fn} (a:T[g]?=some f) (b:f.vt=some (it,ways)) (e:evF T k g xs=some r) :
  ∃ k' rs,k=k'+9∧rB ⟨evF T k',fun h=>((T[h]?).map (·.io)).getD [],[0]⟩ it ways xs=some rs∧r=(.lst true rs,[]):=by
 cases k with
 | zero=>simp [evF] at e
 | succ k =>
  by_cases hk:k<8
  ·have:evF T (k+1) g xs=none:=by
    rcases k with _ | _ | _ | _ | _ | _ | _ | _ | k<;>first | omega | simp only [evF,a,b]
   rw [this] at e
   cases e
  ·obtain ⟨k',rfl⟩:∃ k',k=k'+8:=⟨k-8,by omega⟩
   simp only [evF,a,b] at e
   rw [Option.map_eq_some_iff] at e
   obtain ⟨rs,c,d⟩:=e
   exact ⟨k',rs,rfl,c,d.symm⟩
theorem Ai {g:Nat} {x:Str} (e:(tabOf ds)[g]?=some x):∃ d,ds[g]?=some d∧d.name=x:=by
 rw [List.getElem?_map] at e
 cases h:ds[g]? with
 | none=>rw [h] at e;cases e
 | some d=>rw [h] at e;exact ⟨d,rfl,by simpa using e⟩
abbrev cq (ds:List Def) (k:Nat) (lock:List Nat):Ctx:=⟨evF (eG ds) k,fun h=>(((eG ds)[h]?).map (·.io)).getD [],lock⟩
def lD (P:Program) (w:World) (K:Frag) (mg:Str→Option Value) (base:Heap) (ds:List Def):Prop :=
 ∀ (gv:Nat) (dv:Def) (it:Nat) (ways:List (Str × Nat)),ds[gv]?=some dv→dv.f.vt=some (it,ways)→ways≠[]→ways.length<9→∀ k',Ob.nO P w K mg base (2*k'+2) (cq ds k' [0]) (tabOf ds) (iM ds)→∃ Ca,Ob.r8 P w K mg base dv.cn Ca (2*k'+3) (cq ds k' [0]) it ways
def tQ (P:Program) (w:World) (K:Frag) (mg:Str→Option Value) (base:Heap) (ds:List Def):Prop :=
 ∀ (gv:Nat) (dv:Def) (it:Nat),ds[gv]?=some dv→dv.f.vt=some (it,[])→if it=stN then ∃ Ca,Ob.OcF K mg dv.cn Ca∧Ob.OsF K Ca∧Ob.OsR P w K mg base Ca else if 8000≤it then ∀ k',Ob.nO P w K mg base (2*k'+2) (cq ds k' [0]) (tabOf ds) (iM ds)→∃ Ca,mg dv.cn=some (.ref Ca)∧nsIn K mainGlobals dv.cn=some (some (.ref Ca))∧Ob.LdR P w K mg base Ca (2*k'+3) (cq ds k' [0]) (it-8000) else ∃ Ca,Ob.OcF K mg dv.cn Ca∧Ob.OcR P w K mg base Ca
theorem wX (h:∀ d∈ds,d.f.vt=none):tQ P w K mg base ds:=fun c b it hd a=>by
 rw [h b (List.mem_of_getElem? hd)] at a
 cases a
theorem t6 (h:∀ d∈ds,d.f.vt=none):lD P w K mg base ds:=fun c b it ways hd a _=>by
 rw [h b (List.mem_of_getElem? hd)] at a
 cases a
theorem dN {g:Nat} {d:Def} (hd:ds[g]?=some d):(eG ds)[g]?=some d.f:=by rw [List.getElem?_map,hd];rfl
theorem kN {d:Def} (h:d.chk ds=true) (v:d.f.vt≠none):d.name="__debug__" ∧ d.f.io=[]:=by
 unfold Def.chk at h
 rw [if_pos (by cases e:d.f.vt with
  | none=>exact absurd e v
  | some _=>rfl)] at h
 simp only [Bool.and_eq_true,decide_eq_true_eq] at h
 exact ⟨au h.1.1.1,h.1.1.2⟩
theorem lR {d:Def} (h:d.chk ds=true) (v:d.mt.isSome=true):d.name="__debug__" ∧ d.f.vt=none:=by
 cases e:d.f.vt with
 | some z =>
  unfold Def.chk at h
  rw [if_pos (by rw [e];rfl)] at h
  simp only [Bool.and_eq_true] at h
  have:=h.1.2
  cases em:d.mt<;>rw [em] at this v<;>simp at this v
 | none =>
  refine ⟨?_,rfl⟩
  unfold Def.chk at h
  rw [if_neg (by rw [e];exact fun z=>by cases z)] at h
  simp only [Bool.and_eq_true,Bool.or_eq_true] at h
  rcases h.1.2 with q | q
  ·cases em:d.mt<;>rw [em] at q v<;>simp at q v
  ·exact au q
theorem y5 (a:∀ d∈ds,d.chk ds=true) {d:Def} (hm:d∈ds) (nb:az d.name=true):d.f.vt=none:=by
 cases e:d.f.vt with
 | none=>rfl
 | some _ =>
  rw [(kN (a d hm) (by rw [e];exact fun z=>by cases z)).1] at nb
  exact absurd nb (by decide)
theorem pK (a:∀ d∈ds,d.chk ds=true) {d:Def} (hm:d∈ds) (nb:az d.name=true):d.mt=none:=by
 cases e:d.mt with
 | none=>rfl
 | some _ =>
  rw [(lR (a d hm) (by rw [e];rfl)).1] at nb
  exact absurd nb (by decide)
theorem yt {d:Def} (h:d.chk ds=true):d.ko=[]∨(d.mt.isSome=true∧d.pr=false):=by
 unfold Def.chk at h
 split at h
 ·simp only [Bool.and_eq_true,List.isEmpty_iff] at h
  exact .inl h.2
 ·simp only [Bool.and_eq_true,Bool.or_eq_true,List.isEmpty_iff,Bool.not_eq_true'] at h
  exact h.2
theorem Fg {d:Def} (h:d.chk ds=true) (p:d.pr=true):d.ko=[]:=by
 rcases yt h with h | h
 ·exact h
 ·rw [p] at h
  cases h.2
theorem GS (a:∀ d∈ds,d.chk ds=true) {d:Def} (hm:d∈ds) (nb:az d.name=true):d.ko=[]:=by
 rcases yt (a d hm) with h | h
 ·exact h
 ·rw [pK a hm nb] at h
  cases h.1
theorem jS {j k:Nat} (n:2*j≤k) (z:∀ d∈ds,d.f.vt=none→cQ K w mg d) (o:∀ d∈ds,d.chk ds=true)
  (ih:∀ (g:Nat) (d:Def),ds[g]?=some d→d.f.vt=none→∀ (a:Addr) (fd:FuncData),Fun K d.fnm d.qual d.st a fd→FnOk P w K mg base CX0 (2*j) a fd d.ps (gj K ds j g d.f.io)) (lock:List Nat):Ob.nO P w K mg base k (cq ds j lock) (tabOf ds) (iM ds):=by
 intro f x B nb xs r outs ec
 obtain ⟨d',e,rfl⟩:=Ai B
 have b:=List.mem_of_getElem? e
 have y:=y5 o b nb
 obtain ⟨q,l,s,c,t,u,m,_⟩:=(z d' b y).ex
 have c:mg d'.name=some (.ref q):=by unfold StandsAt at c;rw [pK o b nb] at c;exact c
 refine ⟨q,l,d'.ps,gj K ds j f d'.f.io,c,t,(ih f d' e y q l s).mono n,u (GS o b nb),fun p C=>m p (by
  have i:p∈iM ds f:=C
  unfold iM at i
  rw [e] at i
  exact i),fun vs H Q E h=>?_⟩
 have v:(cq ds j lock).io f=d'.f.io:=by
  show (((eG ds)[f]?).map (·.io)).getD []=d'.f.io
  rw [List.getElem?_map,e]
  rfl
 rw [v] at h
 exact h
abbrev Iy (P:Program) (w:World) (K:Frag) (mg:Str→Option Value) (base:Heap) (A':Around) (N:List Str) (s0:Shared) (H0:Hp) (env:Env) (o st:List Env) (ex:List Addr) (pn:List (Addr × Obj)) (xe:Value→Shared→Prop):Cx :=
 { prog:=P,w:=w,K:=K,mg:=mg,base:=base,A:=A',N:=N,s_0:=s0,H_0:=H0,env:=env,outer:=o,stack:=st,ex:=ex,calm:=true,fn:=fun _=>true,pn:=pn,xe:=xe }
theorem Cy (J:∀ d∈ds,d.f.vt=none→cQ K w mg d) (R:∀ d∈ds,d.chk ds=true) (hB:∀ b∈vy,mg b=none) (hV:lD P w K mg base ds) (hN:tQ P w K mg base ds) (k:Nat)
  (ih:∀ j≤k,∀ (g:Nat) (d:Def),ds[g]?=some d→d.f.vt=none→∀ (a:Addr) (fd:FuncData),Fun K d.fnm d.qual d.st a fd→FnOk P w K mg base CX0 (2*j) a fd d.ps (gj K ds j g d.f.io))
  (d:Def) (F:d∈ds) (hn:d.f.vt=none) {A':Around} {s0:Shared} {H0:Hp} {env:Env} {o st:List Env} {ex:List Addr} {pn:List (Addr × Obj)} {xe:Value→Shared→Prop} (lock:List Nat) (he:env.scope=defScope d.st) (V:Room (2*k+1) A') (ab:PassesOwn (model P w) A' env xe) :
  XOk (cq ds k lock) (Iy P w K mg base A' d.N s0 H0 env o st ex pn xe) (d.cxt ds):=by
 have ac:=(J d F hn).sc
 let C:Ctx:=cq ds k lock
 refine ⟨rfl,ac.nd,he,rfl,fun _=>rfl,ac.kind,ab,?_,hB,⟨fun f x hx nb xs r outs ec=>?_⟩,(J d F hn).con,fun f cn i=>?_,fun f cn nm ag xs r outs ec=>?_,fun f cn ai=>?_,(J d F hn).slo,(J d F hn).xat,fun f cn am=>?_,fun f cn an=>?_,fun f cn nm ks al ap xs r outs ec=>?_,fun f cn nm ar xs r outs ec=>?_,fun f cn nm aW xs r outs ec=>?_⟩
 ·have:=V.un
  show A'.units+65<cLine
  omega
 ·obtain ⟨a,fd,ps,sp,q1,q2,q3,q4,q5,q6⟩:=jS (k:=2*k) (Nat.le_refl _) J R (ih k (Nat.le_refl k)) d.f.io f x hx nb xs r outs ec
  exact ⟨a,fd,ps,sp,2*k,q1,q2,V.mono (by omega),q3,q4,q5,q6⟩
 ·obtain ⟨j,X,m,e,s,G⟩:=oP 0 ds f cn i
  rw [Nat.zero_add] at m
  subst m
  subst G
  obtain ⟨it,w0,ad,t,a2⟩:=nH s
  ·generalize hways:w0::ad=ways at t
   have a0:ways≠[]:=by rw [← hways];exact fun z=>by cases z
   have ae:ways.length<9:=by rw [← hways,List.length_cons];omega
   by_cases hk:k<9
   ·refine .inl fun xs=>?_
    cases ec:C.call f xs with
    | none=>rfl
    | some r =>
     obtain ⟨k',rs,ek,_⟩:=cO (dN e) t ec
     omega
   ·obtain ⟨k',ek⟩:∃ k',k=k'+9:=⟨k-9,by omega⟩
    obtain ⟨Ca,O⟩:=hV f X it ways e t a0 ae k' (jS (by omega) J R (ih k' (by omega)) [0])
    refine .inr ⟨Ca,2*k'+3,it,cq ds k' [0],ways,O,V.mono (by omega),?_,fun xs r outs ec=>?_⟩
    ·show (((eG ds)[f]?).map (·.io)).getD []=[]
     rw [dN e]
     exact (kN (R X (List.mem_of_getElem? e)) (by rw [t];exact fun z=>by cases z)).2
    ·obtain ⟨k2,rs,Z,em,er⟩:=cO (dN e) t ec
     obtain rfl:k2=k':=by omega
     cases er
     subst hways
     obtain ⟨rule,items,lap,ed,mo⟩:=Ob.xQ ae (show xM _ it (w0::ad) xs=some rs from em)
     exact ⟨rule,items,lap,rs,ed,rfl,rfl,mo⟩
 ·obtain ⟨j,dm,q,m,e,s,G,e5,e6⟩:=p5 0 ds f cn nm ag
  rw [Nat.zero_add] at m
  subst m
  have l:=List.mem_of_getElem? e
  have i:=(lR (R dm l) (by rw [s];rfl)).2
  obtain ⟨L,n,v,c,aa,M,I,_⟩:=(J dm l i).ex
  unfold StandsAt at c
  rw [s] at c
  simp only [G,e6,Bool.false_eq_true,if_false] at c
  obtain ⟨Ca,n1,n2,n3⟩:=c
  refine ⟨Ca,L,n,dm.ps,gj K ds k f dm.f.io,2*k,n1,n2,n3,V,ih k (Nat.le_refl k) f dm e i L n v,M e5,fun p hp=>I p (by
   have y:p∈iM ds f:=hp
   unfold iM at y
   rw [e] at y
   exact y),fun vs H Q E h=>?_⟩
  have B:(cq ds k d.f.io).io f=dm.f.io:=by
   show (((eG ds)[f]?).map (·.io)).getD []=dm.f.io
   rw [List.getElem?_map,e]
   rfl
  have h':lg K ((cq ds k d.f.io).call f) ((cq ds k d.f.io).io f) vs H Q:=h
  rw [B] at h'
  exact h'
 ·obtain ⟨j,X,m,e,s,G⟩:=o6 0 ds f cn ai
  rw [Nat.zero_add] at m
  subst m
  subst G
  obtain ⟨it,t,hit,Y⟩:=qv s
  have u:=hN f X it e t
  rw [if_neg hit,if_neg Y] at u
  obtain ⟨Ca,OF,OR⟩:=u
  refine ⟨Ca,OF,?_⟩
  by_cases hk:k<9
  ·refine .inl fun xs=>?_
   cases ec:C.call f xs with
   | none=>rfl
   | some r =>
    obtain ⟨k',rs,ek,_⟩:=cO (dN e) t ec
    omega
  ·refine .inr ⟨OR,V.mono (by omega),?_,fun xs r outs ec=>?_⟩
   ·show (((eG ds)[f]?).map (·.io)).getD []=[]
    rw [dN e]
    exact (kN (R X (List.mem_of_getElem? e)) (by rw [t];exact fun z=>by cases z)).2
   ·obtain ⟨k2,rs,Z,em,er⟩:=cO (dN e) t ec
    cases er
    unfold rB at em
    simp only at em
    rw [if_neg hit,if_neg Y] at em
    split at em
    ·exact ⟨_,rs,rfl,rfl,rfl,Ob.oT em⟩
    ·cases em
 ·obtain ⟨j,X,m,e,s,G⟩:=pM 0 ds f cn am
  rw [Nat.zero_add] at m
  subst m
  subst G
  have t:=rP s
  have u:=hN f X _ e t
  rw [if_pos rfl] at u
  obtain ⟨Ca,OF,OA,OR⟩:=u
  refine ⟨Ca,OF,OA,?_⟩
  by_cases hk:k<9
  ·refine .inl fun xs=>?_
   cases ec:C.call f xs with
   | none=>rfl
   | some r =>
    obtain ⟨k',rs,ek,_⟩:=cO (dN e) t ec
    omega
  ·refine .inr ⟨OR,V.mono (by omega),fun xs r outs ec=>?_⟩
   obtain ⟨k2,rs,Z,em,er⟩:=cO (dN e) t ec
   cases er
   unfold rB at em
   simp only [if_true] at em
   unfold stF at em
   split at em
   ·cases em
    exact ⟨_,_,_,rfl,rfl⟩
   ·cases em
 ·obtain ⟨j,X,m,e,s,G⟩:=o9 0 ds f cn an
  rw [Nat.zero_add] at m
  subst m
  subst G
  obtain ⟨it,t,hit⟩:=rD s
  have af:it≠stN:=fun z=>by rw [z] at hit;exact absurd hit (by decide)
  by_cases hk:k<9
  ·refine .inl fun xs=>?_
   cases ec:C.call f xs with
   | none=>rfl
   | some r =>
    obtain ⟨k',rs,ek,_⟩:=cO (dN e) t ec
    omega
  ·obtain ⟨k',ek⟩:∃ k',k=k'+9:=⟨k-9,by omega⟩
   have u:=hN f X it e t
   rw [if_neg af,if_pos hit] at u
   obtain ⟨Ca,m1,m2,LR⟩:=u k' (jS (by omega) J R (ih k' (by omega)) [0])
   refine .inr ⟨Ca,2*k'+3,it-8000,cq ds k' [0],m1,m2,LR,V.mono (by omega),fun xs r outs ec=>?_⟩
   obtain ⟨k2,rs,Z,em,er⟩:=cO (dN e) t ec
   obtain rfl:k2=k':=by omega
   cases er
   refine ⟨rs,rfl,Ob.C9 ?_⟩
   unfold rB at em
   simp only at em
   rw [if_neg af,if_pos hit] at em
   exact em
 ·obtain ⟨j,dm,q,m,e,s,⟨G,e6⟩,e5⟩:=pQ 0 ds f cn nm ks al ap
  rw [Nat.zero_add] at m
  subst m
  have l:=List.mem_of_getElem? e
  have i:=(lR (R dm l) (by rw [s];rfl)).2
  obtain ⟨L,n,v,c,aa,_,_,a1⟩:=(J dm l i).ex
  unfold StandsAt at c
  rw [s] at c
  simp only [G,e6,Bool.false_eq_true,if_false] at c
  obtain ⟨Ca,n1,n2,n3⟩:=c
  refine ⟨Ca,L,n,dm.ps,gj K ds k f dm.f.io,2*k,n1,n2,n3,V,ih k (Nat.le_refl k) f dm e i L n v,a1 _ e5,fun vs H Q E h=>?_⟩
  have B:(cq ds k d.f.io).io f=dm.f.io:=by
   show (((eG ds)[f]?).map (·.io)).getD []=dm.f.io
   rw [List.getElem?_map,e]
   rfl
  have h':lg K ((cq ds k d.f.io).call f) ((cq ds k d.f.io).io f) vs H Q:=h
  rw [B] at h'
  exact h'
 ·obtain ⟨j,dm,q,m,e,s,G,e6⟩:=pA 0 ds f cn nm ar
  rw [Nat.zero_add] at m
  subst m
  have l:=List.mem_of_getElem? e
  have i:=(lR (R dm l) (by rw [s];rfl)).2
  obtain ⟨L,n,v,c,aa,M,I,_⟩:=(J dm l i).ex
  unfold StandsAt at c
  rw [s] at c
  simp only [G,e6,Bool.false_eq_true,if_false,if_true] at c
  obtain ⟨Ca,n1,n2,p,n3⟩:=c
  refine ⟨Ca,p,L,n,dm.ps,gj K ds k f dm.f.io,2*k,n1,n2,n3,V,ih k (Nat.le_refl k) f dm e i L n v,M (Fg (R dm l) G),fun vs H Q E h=>?_⟩
  have B:(cq ds k d.f.io).io f=dm.f.io:=by
   show (((eG ds)[f]?).map (·.io)).getD []=dm.f.io
   rw [List.getElem?_map,e]
   rfl
  have h':lg K ((cq ds k d.f.io).call f) ((cq ds k d.f.io).io f) vs H Q:=h
  rw [B] at h'
  exact h'
 ·obtain ⟨j,dm,q,m,e,s,e6,e5⟩:=pE 0 ds f cn nm aW
  rw [Nat.zero_add] at m
  subst m
  have l:=List.mem_of_getElem? e
  have i:=(lR (R dm l) (by rw [s];rfl)).2
  obtain ⟨L,n,v,c,aa,M,I,_⟩:=(J dm l i).ex
  unfold StandsAt at c
  rw [s] at c
  simp only [e6,if_true] at c
  obtain ⟨Ca,n1,n2,g1,mc,p,r1,r2⟩:=c
  refine ⟨Ca,p,L,mc,n,dm.ps,gj K ds k f dm.f.io,2*k,g1,n1,r1,r2,V,ih k (Nat.le_refl k) f dm e i L n v,M e5,fun p hp=>I p (by
   have y:p∈iM ds f:=hp
   unfold iM at y
   rw [e] at y
   exact y),fun vs H Q E h=>?_⟩
  have B:(cq ds k d.f.io).io f=dm.f.io:=by
   show (((eG ds)[f]?).map (·.io)).getD []=dm.f.io
   rw [List.getElem?_map,e]
   rfl
  have h':lg K ((cq ds k d.f.io).call f) ((cq ds k d.f.io).io f) vs H Q:=h
  rw [B] at h'
  exact h'
theorem zU (hT:∀ d∈ds,d.f.vt=none→cQ K w mg d) (hC:∀ d∈ds,d.chk ds=true) (hB:∀ b∈vy,mg b=none) (hV:lD P w K mg base ds) (hN:tQ P w K mg base ds) (k:Nat)
  (ih:∀ j≤k,∀ (g:Nat) (d:Def),ds[g]?=some d→d.f.vt=none→∀ (a:Addr) (fd:FuncData),Fun K d.fnm d.qual d.st a fd→FnOk P w K mg base CX0 (2*j) a fd d.ps (gj K ds j g d.f.io))
  (g:Nat) (d:Def) (hd:ds[g]?=some d) (hn:d.f.vt=none) (n:d.f.tr=none∨∃ t vars,d.f.tr=some t∧t.sco=some vars) (a:Addr) (fd:FuncData) (hf:Fun K d.fnm d.qual d.st a fd):FnOk P w K mg base CX0 (2*k+1+1) a fd d.ps (gj K ds (k+1) g d.f.io):=by
 have x:d∈ds:=List.mem_of_getElem? hd
 have aa:=(hT d x hn).sc
 have m:=hC d x
 unfold Def.chk at m
 rw [if_neg (by rw [hn];exact fun z=>by cases z)] at m
 simp only [Bool.and_eq_true,decide_eq_true_eq] at m
 obtain ⟨⟨⟨⟨⟨c1,c2⟩,c3⟩,c4⟩,_⟩,_⟩:=m
 have gT:(eG ds)[g]?=some d.f:=dN hd
 have I:∀ vs H Q E,gj K ds (k+1) g d.f.io vs H Q E→vs.length=d.ps.length:=fun vs H Q E h=>by
  obtain ⟨F,W,xs,r,outs,_,o,_,e,_⟩:=h
  obtain ⟨k',_,hl⟩:=vU gT hn e
  rw [o.length,hl,c3]
 refine hf.ok aa I fun ab A outer s H vs Q E hr ac=>⟨_,e8,?_⟩
 obtain ⟨F,W,xs,r,outs,sb,o,lv,e,cont⟩:=ac
 have O:=I vs H Q E ⟨F,W,xs,r,outs,sb,o,lv,e,cont⟩
 let X:=(cxOf CX0 P w K mg base d.N d.qual (defScope d.st) a ab A outer s H E).nox
 let C:Ctx:=cq ds k d.f.io
 have ok:XOk C X (d.cxt ds):=Cy hT hC hB hV hN k ih d x hn d.f.io rfl hr PassesOwn.never
 have key:∀ fl,wL C d.f (bE d.f xs)=some fl→SOk K F H (start d.N vs) (bE d.f xs) W→∀ D:Ends,Fin X d.f.io F H W (start d.N vs) D fl→vW X (defBody d.st) D (start d.N vs) H:=by
  intro fl u y D kf
  have ad:=c1
  unfold kg at c1
  unfold wL at u
  rcases n with n | ⟨t,vars,n,hsv⟩
  ·rw [n] at c1 u
   simp only at c1 u
   exact (pY 100).ss ok c1 y u kf
  ·have ae:=nv n hsv ad
   rw [n] at c1 u
   simp only [ae,Option.isSome_none,Bool.false_eq_true,if_false,hsv,Option.isSome_some,if_true] at c1 u
   unfold yA at c1
   simp only [Bool.and_eq_true] at c1
   obtain ⟨⟨m1,m2⟩,m3⟩:=c1
   split at u
   ·rename_i δ1 R
    rw [← List.take_append_drop d.f.body.length (defBody d.st)]
    refine nq ok 100 m1 y R fun L F' H' W' p J=>?_
    rw [← List.take_append_drop t.body.length ((defBody d.st).drop d.f.body.length)]
    cases G:BQ C t vars δ1 with
    | none=>rw [G] at u;simp [rQ] at u
    | some fl1 =>
     rw [G] at u
     obtain ⟨δ3,rfl⟩:∃ δ3,fl1=.nx δ3:=by
      unfold BQ at G
      split at G
      ·split at G
       ·cases G
        exact ⟨_,rfl⟩
       ·cases G
      ·cases G
     simp only [rQ] at u
     exact Eh ok m2 p.ok G fun σ2 F2 H2 W2 q l=>(pY 100).ss ok m3 q.ok u ((kf.after p J).after q l)
   ·simp [rQ] at u
 simp only [evF,gT,hn] at e
 split at e
 ·rename_i hl
  have y:SOk K F H (start d.N vs) (bE d.f xs) W:=by
   refine ⟨sb,?_,lv⟩
   unfold L2.start bE
   rw [c2,O,hl,c3]
   exact j5 _ o
  have B:∀ i v,vs[i]?=some v→(start d.N vs)[0+i]?=some (some v):=fun i v Z=>by
   unfold L2.start
   rw [Nat.zero_add,List.getElem?_append_left (by rw [List.length_map];exact (List.getElem?_eq_some_iff.mp Z).1),List.getElem?_map,Z]
   rfl
  have fin:∀ {L:L2.St} {δ':Dl} {F' H':Hp} {W' Wt:Fp} {v:V} {c:List D} {r':D},bc δ' d.f.io 0 d.f.ps=some c→(r',c)=(r,outs)→aB K F H W F' H' L δ' W' Wt→Ow K F' H' v r' Wt→bH d.f.io (start d.N vs) L→Q v H':=fun {L δ' F' H' W' Wt v c r'} M Y p ov J=>by
   cases Y
   refine cont v F' H' Wt W' ov ?_ p.dj p.ok.sub (fun b q=>q.elim (p.lt b) (p.ok.lv b)) p.ext
   rw [← c3,← O] at M
   exact mZ M (fun _ _=>rfl) p.ok.st fun i v Z af=>by rw [J _ af];exact B i v Z
  split at e
  ·rename_i r1 δ1 R
   rw [Option.map_eq_some_iff] at e
   obtain ⟨o1,M,Y⟩:=e
   exact key _ R y _ fun v L F' H' W' Wt p ov J=>fin M Y p ov J
  ·rename_i δ1 R
   rw [Option.map_eq_some_iff] at e
   obtain ⟨o1,M,Y⟩:=e
   exact key _ R y _ fun L F' H' W' p J=>fin M Y p (.frz .non) J
  ·cases e
 ·cases e
theorem DB (c:∀ d∈ds,d.f.vt=none→cQ K w mg d) (i:∀ d∈ds,d.chk ds=true) (l:∀ b∈vy,mg b=none) (m:lD P w K mg base ds) (hN:tQ P w K mg base ds) (n:∀ d∈ds,d.f.tr=none∨∃ t vars,d.f.tr=some t∧t.sco=some vars) (k:Nat):∀ (g:Nat) (d:Def),ds[g]?=some d→d.f.vt=none→∀ (a:Addr) (fd:FuncData),Fun K d.fnm d.qual d.st a fd→FnOk P w K mg base CX0 (2*k) a fd d.ps (gj K ds k g d.f.io):=by
 induction k using Nat.strongRecOn with
 | _ k ih =>
  cases k with
  | zero =>
   intro g d hd hn a fd hf
   have no:∀ vs H Q E,¬ gj K ds 0 g d.f.io vs H Q E:=fun vs H Q E h=>by
    obtain ⟨_,_,_,_,_,_,_,_,e,_⟩:=h
    simp [evF] at e
   exact ⟨fun vs H Q E h=>absurd h (no _ _ _ _),fun A outer s H args us vs Q E _ _ _ _ h=>absurd h (no _ _ _ _)⟩
  | succ k=>exact fun g d hd hn a fd hf=>zU c i l m hN k (fun j o=>ih j (by omega)) g d hd hn (n d (List.mem_of_getElem? hd)) a fd hf
def ro (K:Frag) (most:Nat):Sp:=fun vs H Q _=>∃ (a:Addr) (ns:List Int),vs=[.ref a]∧SqL K H a (ns.map V.int)∧ns.length≤most∧(∀ z∈ns,Builtin.Int.intBits z≤1048576)∧∀ H',Q (.bl true) H'
theorem zW (c:∀ d∈ds,d.f.vt=none→cQ K w mg d) (h:∀ d∈ds,d.chk ds=true) (i:∀ b∈vy,mg b=none) (j:lD P w K mg base ds) (hN:tQ P w K mg base ds) (l:∀ d∈ds,d.f.tr=none∨∃ t vars,d.f.tr=some t∧t.sco=some vars) {k g most:Nat} {d:Def} (hd:ds[g]?=some d) (hn:d.f.vt=none) (m:d.f.io=[])
  (law:∀ ns:List Int,ns.length≤most→(∀ z∈ns,Builtin.Int.intBits z≤1048576)→evF (eG ds) k g [.scr ns]=some (.bl true,[])) {a:Addr} {fd:FuncData} (hf:Fun K d.fnm d.qual d.st a fd):FnOk P w K mg base CX0 (2*k) a fd d.ps (ro K most):=by
 refine (DB c h i j hN l k g d hd hn a fd hf).imp fun vs H Q E ⟨ad,ns,ev,sq,n,o,q⟩=>?_
 subst ev
 refine ⟨H,No,[.scr ns],.bl true,[],fun _ _ e=>e,.cons (W1:=No) (W2:=No) (.frz (.scr sq)) .nil (fun _ q=>q.elim) (fun _ q=>q.elim) (fun _ q=>q.elim),fun _ q=>q.elim,law ns n o,fun v F' H' r s p _ _ _ _ _=>?_⟩
 cases (Vw.bl ⟨_,p⟩)
 exact q H'
theorem Dg (i:∀ d∈ds,cQ K w mg d) (j:∀ d∈ds,d.chk ds=true) (l:∀ b∈vy,mg b=none) (c:∀ d∈ds,d.f.vt=none) (e:∀ d∈ds,d.f.tr=none∨∃ t vars,d.f.tr=some t∧t.sco=some vars) {k g most:Nat} {d:Def} (hd:ds[g]?=some d) (h:d.f.io=[])
  (law:∀ ns:List Int,ns.length≤most→(∀ z∈ns,Builtin.Int.intBits z≤1048576)→evF (eG ds) k g [.scr ns]=some (.bl true,[])) {a:Addr} {fd:FuncData} (hf:Fun K d.fnm d.qual d.st a fd):FnOk P w K mg base CX0 (2*k) a fd d.ps (ro K most) :=
 zW (fun d hd _=>i d hd) j l (t6 c) (wX c) e hd (c d (List.mem_of_getElem? hd)) h law hf
end
end Ev
namespace Ev
open PySem
def aZ:Fn:={ n:=6,ps:=2,io:=[0],body:=[.ifs (.cmp .gt (.sub (.var 0) (.int 0)) (.int 0)) [.asg (.nm 5) (.bin .mod (.bi .int1 [(.sub (.var 0) (.int 0))]) (.var 1)),
  .setIx (.var 0) (.int 0) (.bin .fdiv (.sub (.var 0) (.int 0)) (.var 1)),
  .ret (.var 5)] [],
  .setIx (.var 0) (.int 2) (.bin .add (.sub (.var 0) (.int 2)) (.int 1)),
  .asg (.nm 2) (.bin .mod (.bi .int1 [(.bin .mul (.bin .add (.sub (.var 0) (.int 1)) (.bin .mul (.int 48271) (.sub (.var 0) (.int 2)))) (.bin .add (.int 39373) (.sub (.var 0) (.int 2))))]) (.int 2147483647)),
  .asg (.nm 3) (.bin .add (.bin .mod (.bi .int1 [(.var 2)]) (.int 40009)) (.int 7)),
  .asg (.nm 4) (.bin .mod (.bi .int1 [(.bin .mul (.bin .add (.bin .add (.var 2) (.sub (.var 0) (.int 2))) (.bin .fdiv (.sub (.var 0) (.int 1)) (.int 1000003))) (.var 3))]) (.int 2147483629)),
  .ret (.bin .mod (.bi .int1 [(.bin .fdiv (.bin .mod (.bi .int1 [(.bin .add (.bin .mul (.var 4) (.int 48271)) (.var 2))]) (.int 2147483587)) (.int 64))]) (.var 1))] }
def bx (x0 x1 x2:Int):D:=.lst true [.int x0,.int x1,.int x2]
def dh (C:Ctx) (f:Fn) (ds:List D):Option (D × List D):=if ds.length=f.ps then match bg C 100 f.body (bE f ds) with
    | some (.rt d δ)=>(bc δ f.io 0 f.ps).map fun o=>(d,o)
    | some (.nx δ)=>(bc δ f.io 0 f.ps).map fun o=>(.non,o)
    | _=>none
   else none
theorem bK {T:List Fn} {k g:Nat} {f:Fn} (h:T[g]?=some f) (ds:List D) (a:f.vt=none:=by rfl) (ht:f.tr=none:=by rfl):evF T (k+1) g ds=dh ⟨evF T k,fun h=>((T[h]?).map (·.io)).getD [],f.io⟩ f ds:=by
 simp only [evF,h,a,wL,ht,dh]
 all_goals rfl
theorem take1 {call:Nat→List D→Option (D × List D)} {io:Nat→List Nat} {x0 c x2 b:Int} (h0:0<x0) (d:0<b) (a:b<1073741824):dh ⟨call,io,[0]⟩ aZ [bx x0 c x2,.int b]=some (.int (x0 % b),[bx (x0 / b) c x2]):=by
 have e0:decide (0<x0)=true:=decide_eq_true h0
 have e:decide (0<b)=true:=decide_eq_true d
 have f:decide (b<1073741824)=true:=decide_eq_true a
 simp [dh,aZ,bx,bE,bg,evS,evT,evE,aN,evV,slot,look,looks,settle,toV,bN,D.at,D.mP,D.fz,fzs,lC,nA,biD,ixN,setT,cR,bc,bY,eE,D.flat,fK,e0,e,f,h0,d,a]
theorem sm {a:Int} (h0:-18446744073709551616<a) (b:a<18446744073709551616):small64 a=true:=by
 rw [fB]
 rw [decide_eq_true h0,decide_eq_true b]
 rfl
def once (x1 y:Int):Int:=(x1+48271*y)*(39373+y) % 2147483647
def far (x1 y:Int):Int:=once x1 y % 40009+7
def twice (x1 y:Int):Int:=(once x1 y+y+x1 / 1000003)*far x1 y % 2147483629
def rnd (x1 y b:Int):Int:=(twice x1 y*48271+once x1 y) % 2147483587 / 64 % b
theorem take2 {call:Nat→List D→Option (D × List D)} {io:Nat→List Nat} {x0 a x2 b:Int} (h0:¬ 0<x0) (c:0<b) (d:0≤x2) (f:x2<1000000000000):dh ⟨call,io,[0]⟩ aZ [bx x0 a x2,.int b]=some (.int (rnd a (x2+1) b),[bx x0 a (x2+1)]):=by
 have e0:decide (0<x0)=false:=decide_eq_false h0
 have e:decide (0<b)=true:=decide_eq_true c
 have g1:small64 (39373+(x2+1))=true:=sm (by omega) (by omega)
 have m1:0≤once a (x2+1) % 40009:=Int.emod_nonneg _ (by decide)
 have g:once a (x2+1) % 40009<40009:=Int.emod_lt_of_pos _ (by decide)
 have g2:small64 (far a (x2+1))=true:=by unfold far;exact sm (by omega) (by omega)
 have g3:small64 48271=true:=by decide
 have d1:∀ y:Int,(a+48271*y)*(39373+y) % 2147483647=once a y:=fun _=>rfl
 have d2:∀ y:Int,once a y % 40009+7=far a y:=fun _=>rfl
 have d3:∀ y:Int,(once a y+y+a / 1000003)*far a y % 2147483629=twice a y:=fun _=>rfl
 have d4:∀ y:Int,(twice a y*48271+once a y) % 2147483587 / 64 % b=rnd a y b:=fun _=>rfl
 simp [dh,aZ,bx,bE,bg,evS,evT,evE,aN,evV,slot,look,looks,settle,toV,bN,D.at,D.mP,D.fz,fzs,lC,nA,biD,ixN,setT,cR,bc,bY,eE,D.flat,fK,e0,e,h0,c,g1,g2,g3,d1,d2,d3,d4]
def Box (c:Int) (d:D):Prop:=∃ x0 x1 x2,d=bx x0 x1 x2∧0≤x2∧x2≤c
theorem zR {call:Nat→List D→Option (D × List D)} {io:Nat→List Nat} {d:D} {c b:Int} (h:Box c d) (g:c<1000000000000) (a:0<b) (e:b<1073741824) :
  ∃ r d',dh ⟨call,io,[0]⟩ aZ [d,.int b]=some (.int r,[d'])∧0≤r∧r<b∧Box (c+1) d':=by
 obtain ⟨x0,i,x2,rfl,f,j⟩:=h
 by_cases h0:0<x0
 ·exact ⟨_,_,take1 h0 a e,Int.emod_nonneg _ (by omega),Int.emod_lt_of_pos _ a,_,_,_,rfl,f,by omega⟩
 ·exact ⟨_,_,take2 h0 a f (by omega),Int.emod_nonneg _ (by omega),Int.emod_lt_of_pos _ a,_,_,_,rfl,by omega,by omega⟩
theorem ij (d:D):d.at []=some d:=by unfold D.at;rfl
theorem yG {n:Nat} {r:Int} (h0:0≤r) (a:r<n):ixN n r=some r.toNat:=by
 unfold ixN
 rw [if_pos h0,if_pos a]
def bW:Fn:={ n:=3,ps:=2,io:=[],body:=[.asg (.nm 2) (.ite (.cmp .lt (.var 1) (.bi .len [(.var 0)])) (.sub (.var 0) (.var 1)) (.int 0)),
  .ret (.lst [(.bin .mul (.bi .abs [(.var 2)]) (.bi .int1 [(.cmp .ge (.bi .abs [(.var 2)]) (.bin .pow (.int 10) (.int 18)))])),(.bin .add (.bin .add (.bin .mod (.bi .int1 [(.var 2)]) (.int 2305843009213693951)) (.bin .mul (.int 39373) (.var 1))) (.int 241)),(.int 0)])] }
theorem dE:∀ cs:List Int,fzs (cs.map .int)=true
 | []=>rfl
 | c::cs=>by simp only [List.map_cons,fzs,D.fz,dE cs,Bool.and_self]
theorem DJ {call:Nat→List D→Option (D × List D)} {io:Nat→List Nat} {cs:List Int} {k:Nat} {c:Int} (hk:cs[k]?=some c):∃ d,dh ⟨call,io,[]⟩ bW [.lst false (cs.map .int),.int k]=some (d,[])∧Box 0 d:=by
 have i:(k:Int)<((cs.map D.int).length:Nat):=by
  have:=(List.getElem?_eq_some_iff.mp hk).1
  rw [List.length_map]
  omega
 have e:=yG (Int.natCast_nonneg k) i
 have hg:(cs.map D.int)[k]?=some (.int c):=by rw [List.getElem?_map,hk];rfl
 have f:=dE cs
 have g3:small64 39373=true:=by decide
 have j:small64 10=true:=by decide
 have l:decide ((k:Int)<((cs.map D.int).length:Nat))=true:=decide_eq_true i
 simp only [List.length_map,Int.toNat_natCast] at e l
 have a:k<cs.length:=(List.getElem?_eq_some_iff.mp hk).1
 have b:cs[k]'a=c:=(List.getElem?_eq_some_iff.mp hk).2
 by_cases h:(1000000000000000000:Int)≤(if c<0 then -c else c)
 ·refine ⟨bx ((if c<0 then -c else c)*1) (c % 2305843009213693951+39373*k+241) 0,?_,_,_,_,rfl,by omega,by omega⟩
  have g:small64 1=true:=by decide
  simp [dh,bW,bx,bE,bg,evS,evE,evT,aN,evV,slot,look,looks,settle,ij,D.fz,fzs,biD,nA,lC,toV,bL,setT,cR,f,e,a,hk,b,g3,j,h,g,bc,fK,cap]
 ·refine ⟨bx ((if c<0 then -c else c)*0) (c % 2305843009213693951+39373*k+241) 0,?_,_,_,_,rfl,by omega,by omega⟩
  have g:small64 0=true:=by decide
  simp [dh,bW,bx,bE,bg,evS,evE,evT,aN,evV,slot,look,looks,settle,ij,D.fz,fzs,biD,nA,lC,toV,bL,setT,cR,f,e,a,hk,b,g3,j,h,g,bc,fK,cap]
end Ev
namespace Ev
open PySem
def cellBody:List S:=[.asg (.nm 5) (.bin .mod (.bi .int1 [(.var 3)]) (.var 1)),
  .setIx (.var 2) (.var 5) (.bin .add (.sub (.var 2) (.var 5)) (.bin .mul (.var 4) (.bin .add (.var 3) (.int 2))))]
def bz:Fn:={ n:=6,ps:=2,io:=[],body:=[.asg (.nm 2) (.bor [(.bi .list1 [(.slice (.var 0) none (some (.var 1)))]),(.lst [(.int 0)])]),
  .for_ (.tp [3,4]) .enum [(.slice (.var 0) (some (.var 1)) (some (.int 63)))] cellBody,
  .ret (.var 2)] }
theorem I0 (ns:List Int) (m:Nat):cutD (ns.map D.int) none (some (m:Int))=(ns.take m).map D.int:=by
 unfold cutD sIx
 have:¬ ((m:Int)<0):=by omega
 simp only [if_neg this,List.length_map,List.drop_zero,Nat.sub_zero]
 rw [← List.map_take]
 congr 1
 rw [show (min (m:Int) (ns.length:Int)).toNat=min m ns.length by omega]
 by_cases h:m≤ns.length
 ·rw [Nat.min_eq_left h]
 ·rw [Nat.min_eq_right (by omega),List.take_length,List.take_of_length_le (by omega)]
theorem Ib (ns:List Int) (m:Nat):∃ rs:List Int,cutD (ns.map D.int) (some (m:Int)) (some 63)=rs.map D.int∧rs.length≤63∧(rs≠[]→m<ns.length):=by
 unfold cutD sIx
 have:¬ ((m:Int)<0):=by omega
 simp only [if_neg this,List.length_map]
 refine ⟨(ns.drop (min (m:Int) (ns.length:Int)).toNat).take ((if (63:Int)<0 then max (63+(ns.length:Int)) 0 else min 63 (ns.length:Int)).toNat-(min (m:Int) (ns.length:Int)).toNat),?_,?_,fun h=>?_⟩
 ·rw [List.map_take,List.map_drop]
 ·rw [List.length_take]
  omega
 ·cases Nat.lt_or_ge m ns.length with
  | inl q=>exact q
  | inr q =>
   exfalso
   apply h
   rw [List.drop_of_length_le (by omega),List.take_nil]
theorem rX {C:Ctx} (o:C.lock=[]) {ns cs:List Int} {m k:Nat} {c:Int} {a5:Option D} (hm:0<m) (h:cs.length=m) (hk:k≤63) :
  ∃ (a:List Int) (b:Option D),a.length=m∧bg C 97 cellBody [some (.scr ns),some (.int m),some (.lst true (cs.map .int)),some (.int k),some (.int c),a5] =
   some (.nx [some (.scr ns),some (.int m),some (.lst true (a.map .int)),some (.int k),some (.int c),b]):=by
 obtain ⟨j,em,d⟩:∃ j:Nat,(k:Int) % (m:Int)=(j:Int)∧j<cs.length:=⟨k % m,by simp,by rw [h];exact Nat.mod_lt _ hm⟩
 obtain ⟨y,i⟩:∃ y,cs[j]?=some y:=⟨_,List.getElem?_eq_getElem d⟩
 refine ⟨cs.set j (y+c*((k:Int)+2)),some (.int j),by rw [List.length_set];exact h,?_⟩
 have l:=yG (n:=cs.length) (Int.natCast_nonneg j) (by omega)
 simp only [Int.toNat_natCast] at l
 have e:cs[j]'d=y:=(List.getElem?_eq_some_iff.mp i).2
 have g:small64 ((k:Int)+2)=true:=sm (by omega) (by omega)
 have f:=dE cs
 simp [cellBody,bg,evS,evE,aN,evV,slot,look,looks,settle,ij,D.fz,fzs,biD,nA,toV,bN,D.mP,setT,cR,o,em,l,i,d,e,g,f,hm]
theorem lQ {C:Ctx} (i:C.lock=[]) {ns:List Int} {m:Nat} (hm:0<m):∀ (rs cs:List Int) (k:Nat) (a3 a4 a5:Option D),cs.length=m→k+rs.length≤63 →
  ∃ (a:List Int) (b d e:Option D),a.length=m∧forL (setT [] (.tp [3,4])) (bg C 97 cellBody) (cT k (rs.map .int)) [some (.scr ns),some (.int m),some (.lst true (cs.map .int)),a3,a4,a5] =
   some (.nx [some (.scr ns),some (.int m),some (.lst true (a.map .int)),b,d,e])
 | [],cs,k,a3,a4,a5,f,_=>⟨cs,a3,a4,a5,f,by simp [cT,forL]⟩
 | c::rs,cs,k,a3,a4,a5,f,hk=>by
  simp only [List.length_cons] at hk
  obtain ⟨g,j,l,n⟩:=rX (C:=C) i (ns:=ns) (c:=c) (a5:=a5) hm f (k:=k) (by omega)
  obtain ⟨h,d3,d4,d5,o,p⟩:=lQ (ns:=ns) i hm rs g (k+1) (some (.int k)) (some (.int c)) j l (by omega)
  refine ⟨h,d3,d4,d5,o,?_⟩
  simp [cT,forL,setT,cE,cR,fzs,D.fz,n,p]
theorem xl {call:Nat→List D→Option (D × List D)} {io:Nat→List Nat} {ns:List Int} {m:Nat} (hm:0<m) (c:m≤63) :
  ∃ cs:List Int,1≤cs.length∧cs.length≤m∧dh ⟨call,io,[]⟩ bz [.scr ns,.int m]=some (.lst true (cs.map .int),[]):=by
 have c1:=I0 ns m
 obtain ⟨rs,c2,i,ne⟩:=Ib ns m
 have f1:=dE (ns.take m)
 have f2:=dE rs
 have z2:frzs (rs.map D.int)=rs.map D.int:=by
  have:∀ l:List Int,frzs (l.map D.int)=l.map D.int:=fun l=>by
   induction l with
   | nil=>rfl
   | cons x l ih=>simp only [List.map_cons,frzs,D.frz,ih]
  exact this rs
 by_cases h0:ns.take m=[]
 ·have b:rs=[]:=by
   cases rs with
   | nil=>rfl
   | cons r rs =>
    have:=ne (by simp)
    have h:=congrArg List.length h0
    rw [List.length_take,List.length_nil] at h
    omega
  subst b
  refine ⟨[0],by simp,by simp;omega,?_⟩
  rw [h0] at c1
  simp only [List.map_nil] at c1 c2
  simp [dh,bz,bE,bg,evS,evE,evT,Aq,aN,evV,dB,slot,look,looks,settle,ij,D.fz,fzs,biD,items,slD,partsOf,c1,c2,fK,toV,bL,setT,cR,itC,itD,iy,cT,forL,D.frz,frzs,bc,cap]
 ·have a:(List.map D.int (ns.take m)).isEmpty=false:=by
   cases h:ns.take m with
   | nil=>exact absurd h h0
   | cons _ _=>rfl
  have ln:(ns.take m).length≤m:=by rw [List.length_take];omega
  have l1:1≤(ns.take m).length:=by
   cases h:ns.take m with
   | nil=>exact absurd h h0
   | cons _ _=>simp
  have l2:rs=[]∨(ns.take m).length=m:=by
   cases rs with
   | nil=>exact .inl rfl
   | cons r rs =>
    have:=ne (by simp)
    exact .inr (by rw [List.length_take];omega)
  generalize ns.take m=cs0 at c1 f1 a ln l1 l2 h0
  obtain ⟨cs,a3,a4,a5,d,e,f⟩:∃ (cs:List Int) (a3 a4 a5:Option D),1≤cs.length∧cs.length≤m∧forL (setT [] (.tp [3,4])) (bg ⟨call,io,[]⟩ 97 cellBody) (cT 0 (rs.map .int)) [some (.scr ns),some (.int m),some (.lst true (cs0.map .int)),none,none,none] =
    some (.nx [some (.scr ns),some (.int m),some (.lst true (cs.map .int)),a3,a4,a5]):=by
   rcases l2 with l2 | l2
   ·subst l2
    exact ⟨cs0,none,none,none,l1,ln,by simp [cT,forL]⟩
   ·obtain ⟨cs,a3,a4,a5,g1,g2⟩:=lQ (C:=⟨call,io,[]⟩) (ns:=ns) rfl hm rs cs0 0 none none none l2 (by omega)
    exact ⟨cs,a3,a4,a5,by omega,by omega,g2⟩
  refine ⟨cs,d,e,?_⟩
  have g:=dE cs
  have ne1:cs0.isEmpty=false:=by
   cases cs0 with
   | nil=>exact absurd rfl h0
   | cons _ _=>rfl
  simp [dh,bz,bE,bg,evS,evE,evT,Aq,aN,evV,dB,slot,look,looks,settle,ij,D.fz,fzs,biD,items,slD,partsOf,c1,c2,f1,f2,z2,a,ne1,h0,fK,toV,bL,setT,cR,itC,itD,iy,D.frz,frzs,bc,cap]
  simp [f,slot,g,D.fz,bc]
end Ev
namespace Ev
open PySem
def Right (call:Nat→List D→Option (D × List D)) (ir:Nat) (s lim:Int):Prop:=∀ d c,Box c d→c≤lim→∃ d',call ir [d]=some (.bl true,[d'])∧Box (c+s) d'
def hW (ic ib ir:Nat) (m t:Nat):Fn:={ n:=5,ps:=1,io:=[],body:=[.asg (.nm 1) (.call ic [(.var 0),(.int m)]),
  .for_ (.nm 2) .range [(.bi .len [(.var 1)])] [.asg (.nm 3) (.call ib [(.var 1),(.var 2)]),
  .ifs (.bnot (.bi .all1 [(.lc (.call ir [(.var 3)]) (.nm 4) .range [(.int t)] [] [4])])) [.ret (.bl false)] []],
  .ret (.bl true)] }
section
variable {call:Nat→List D→Option (D × List D)} {io:Nat→List Nat} {ic ib ir:Nat}
theorem pd (a:io ir=[0]) {s lim:Int} (e:Right call ir s lim) (hs:0≤s) {a0 a1 a2:Option D}:∀ (xs acc:List D) (c:Int) (d:D),Box c d→c+s*xs.length≤lim→acc.length+xs.length≤1000 →
  ∃ d',lcL (setT [] (.nm 4)) (cu ⟨call,io,[]⟩ 89 []) (evV ⟨call,io,[]⟩ 89 (.call ir [(.var 3)])) [4] xs acc [a0,a1,a2,some d,none]=some (acc++xs.map (fun _=>.bl true),[a0,a1,a2,some d',none])
 | [],acc,c,d,_,_,_=>⟨d,by simp [lcL]⟩
 | x::xs,acc,c,d,f,j,ha=>by
  have b:c+s*(xs.length+1:Nat)≤lim:=by simpa using j
  rw [Int.natCast_succ,Int.mul_add] at b
  have h0:0≤s*(xs.length:Int):=Int.mul_nonneg hs (by omega)
  obtain ⟨d',g,h⟩:=e d c f (by omega)
  simp only [List.length_cons] at ha
  obtain ⟨d2,i⟩:=pd a e hs (a0:=a0) (a1:=a1) (a2:=a2) xs (acc++[.bl true]) (c+s) d' h (by omega) (by simp;omega)
  obtain ⟨x0,l,x2,rfl,_⟩:=f
  obtain ⟨m,n,o,rfl,_⟩:=h
  have k:acc.length<cap:=by unfold cap;omega
  refine ⟨d2,?_⟩
  simp [lcL,setT,cR,cu,evV,evE,aN,slot,settle,bx,D.fz,br,i7,valOf,a,bR,isAtom,toV,aY] at g i ⊢
  simp [g,i,k,a,bR,isAtom,toV,aY,lcL,setT,cR,cu,evV,evE,aN,slot,settle,bx,D.fz,br,i7,valOf]
theorem fw:∀ xs:List D,boolsOf (xs.map fun _=>.bl true)=some (xs.map fun _=>true)
 | []=>rfl
 | x::xs=>by simp only [List.map_cons,boolsOf,fw xs,Option.map_some]
theorem rR:∀ (n:Nat) (lo st:Int),(aC lo st n).length=n
 | 0,_,_=>rfl
 | n+1,lo,st=>by simp only [aC,List.length_cons,rR n]
theorem pH:∀ l:List Int,frzs (l.map D.int)=l.map D.int
 | []=>rfl
 | x::l=>by simp only [List.map_cons,frzs,D.frz,pH l]
theorem all_true:∀ xs:List D,((xs.map fun _=>true).all id)=true
 | []=>rfl
 | x::xs=>by simp only [List.map_cons,List.all_cons,all_true xs];rfl
theorem Gv {t:Nat} (h:t≤1000000):aU t=true:=by
 rw [i6]
 rw [decide_eq_true (by omega),decide_eq_true (by omega)]
 rfl
theorem Fm {cs:List Int} {ns:List Int} {k:Nat} {o:Bool} {x0 b x2:Int} {a3:Option D} (a:io ib=[])
  (c:call ib [.lst false (cs.map .int),.int k]=some (bx x0 b x2,[])):evS ⟨call,io,[]⟩ 96 (.asg (.nm 3) (.call ib [(.var 1),(.var 2)])) [some (.scr ns),some (.lst o (cs.map .int)),some (.int k),a3,none]=some (.nx [some (.scr ns),some (.lst false (cs.map .int)),some (.int k),some (bx x0 b x2),none]):=by
 have f:=dE cs
 have z:=pH cs
 cases o<;>simp [evS,evV,evE,aN,slot,look,settle,ij,D.mP,bN,setT,cR,br,i7,valOf,toV,a,bR,isAtom,D.fz,D.frz,f,z,c,bx]
theorem pq (C:Ctx) (n:Nat) (elt:E) (tg:Tg) (k:ItK) (its ifs:List E) (own:List Nat) (δ:Dl) {xs ys:List D} {δ1 δ2:Dl} (a:dB C n k its δ=some (xs,δ1)) (b:cH δ1 own=true) (c:lcL (setT C.lock tg) (cu C n ifs) (evV C n elt) own xs [] (aY δ1 own)=some (ys,δ2)) :
  evE C (n+1) (.lc elt tg k its ifs own) δ=some (.tmp (.lst true ys),gh δ1 δ2 own):=by
 simp only [evE,a,b,c,if_true]
theorem zp (C:Ctx) (n:Nat) (k:ItK) (es:List E) (δ:Dl) {as:List A} {ds xs:List D} {δ1 δ2:Dl} (a:aN C n es δ=some (as,δ1)) (b:bL δ1 as=some (ds,δ2)) (c:itC C k (frzs ds)=some xs):dB C (n+1) k es δ=some (xs,δ2):=by
 simp only [dB,a,b,c]
theorem cK {t:Nat} (h:t≤1000000):aQ [.int t]=some (aC 0 1 t):=by
 have e:aQ [.int t]=if aU t=true then some (aC 0 1 (t:Int).toNat) else none:=by unfold aQ;rfl
 rw [e,if_pos (Gv h),Int.toNat_natCast]
theorem uY (ds:List D):itD .range ds=aQ ds:=rfl
theorem za (i:Int):frzs [D.int i]=[D.int i]:=rfl
theorem itR (C:Ctx) (n:Nat) (es:List E) (δ:Dl) {t:Nat} (h:t≤1000000) (a:aN C n es δ=some ([.tmp (.int t)],δ)):dB C (n+1) .range es δ=some (aC 0 1 t,δ) :=
 zp C n .range es δ a (ds:=[.int t]) (δ2:=δ) (by simp only [bL,toV]) (by rw [show itC C .range (frzs [D.int (t:Int)])=itD .range (frzs [D.int (t:Int)]) from rfl,za,uY];exact cK h)
theorem Fy {n t:Nat} (a:t≤100) {cs:List Int} {ns:List Int} {k:Nat} {d d2:D}
  (b:lcL (setT [] (.nm 4)) (cu ⟨call,io,[]⟩ (n+3) []) (evV ⟨call,io,[]⟩ (n+3) (.call ir [(.var 3)])) [4] (aC 0 1 t) [] [some (.scr ns),some (.lst false (cs.map .int)),some (.int k),some d,none]=some ((aC 0 1 t).map (fun _=>.bl true),[some (.scr ns),some (.lst false (cs.map .int)),some (.int k),some d2,none])) :
  evE ⟨call,io,[]⟩ (n+4) (.lc (.call ir [(.var 3)]) (.nm 4) .range [(.int t)] [] [4]) [some (.scr ns),some (.lst false (cs.map .int)),some (.int k),some d,none]=some (.tmp (.lst true ((aC 0 1 t).map (fun _=>.bl true))),[some (.scr ns),some (.lst false (cs.map .int)),some (.int k),some d2,none]) :=
 pq ⟨call,io,[]⟩ (n+3) _ _ _ _ _ _ _ (itR ⟨call,io,[]⟩ (n+2) [(.int t)] [some (.scr ns),some (.lst false (cs.map .int)),some (.int k),some d,none] (t:=t) (by omega) (by simp only [aN,evE,settle])) rfl b
theorem Fx {n t:Nat} {δ δ2:Dl} {e:E} (h:evE ⟨call,io,[]⟩ (n+1) e δ=some (.tmp (.lst true ((aC 0 1 t).map (fun _=>.bl true))),δ2)):evT ⟨call,io,[]⟩ (n+5) (.bnot (.bi .all1 [e])) δ=some (false,δ2):=by
 have a:=fw (aC 0 1 t)
 have ha:=all_true (aC 0 1 t)
 have a1:aN ⟨call,io,[]⟩ (n+2) [e] δ=some ([.tmp (.lst true ((aC 0 1 t).map (fun _=>.bl true)))],δ2):=by simp only [aN,h,settle]
 have a2:evE ⟨call,io,[]⟩ (n+3) (.bi .all1 [e]) δ=some (.tmp (.bl true),δ2):=by simp only [evE,a1,looks,look,biD,a,ha]
 have a3:evT ⟨call,io,[]⟩ (n+4) (.bi .all1 [e]) δ=some (true,δ2):=by simp only [evT,a2,look,fK]
 have a4:evT ⟨call,io,[]⟩ (n+5) (.bnot (.bi .all1 [e])) δ=match evT ⟨call,io,[]⟩ (n+4) (.bi .all1 [e]) δ with
   | some (b,δ1)=>some (!b,δ1)
   | none=>none:=rfl
 rw [a4,a3]
 rfl
theorem kX (C:Ctx) (n:Nat) (s:S) (ss:List S) (δ:Dl) {δ1:Dl} (h:evS C n s δ=some (.nx δ1)):bg C (n+1) (s::ss) δ=bg C n ss δ1:=by simp only [bg,h]
theorem Av (C:Ctx) (n:Nat) (c:E) (a:List S) (δ:Dl) {δ1:Dl} (hn:True) (h:evT C (n+1) c δ=some (false,δ1)):evS C (n+2) (.ifs c a []) δ=some (.nx δ1):=by simp only [evS,h,bg]
theorem Eb {t:Nat} (a:io ib=[]) (b:t≤100) {cs:List Int} {ns:List Int} {k:Nat} {o:Bool} {x0 c x2:Int} {d2:D} {a3:Option D}
  (d:call ib [.lst false (cs.map .int),.int k]=some (bx x0 c x2,[]))
  (e:lcL (setT [] (.nm 4)) (cu ⟨call,io,[]⟩ 89 []) (evV ⟨call,io,[]⟩ 89 (.call ir [(.var 3)])) [4] (aC 0 1 t) [] [some (.scr ns),some (.lst false (cs.map .int)),some (.int k),some (bx x0 c x2),none]=some ((aC 0 1 t).map (fun _=>.bl true),[some (.scr ns),some (.lst false (cs.map .int)),some (.int k),some d2,none])) :
  bg ⟨call,io,[]⟩ 97 [.asg (.nm 3) (.call ib [(.var 1),(.var 2)]),
  .ifs (.bnot (.bi .all1 [(.lc (.call ir [(.var 3)]) (.nm 4) .range [(.int t)] [] [4])])) [.ret (.bl false)] []] [some (.scr ns),some (.lst o (cs.map .int)),some (.int k),a3,none] =
   some (.nx [some (.scr ns),some (.lst false (cs.map .int)),some (.int k),some d2,none]):=by
 have f:=Fm (o:=o) (ns:=ns) (a3:=a3) a d
 have g:evT ⟨call,io,[]⟩ 94 (.bnot (.bi .all1 [(.lc (.call ir [(.var 3)]) (.nm 4) .range [(.int t)] [] [4])])) [some (.scr ns),some (.lst false (cs.map .int)),some (.int k),some (bx x0 c x2),none]=some (false,[some (.scr ns),some (.lst false (cs.map .int)),some (.int k),some d2,none]):=Fx (n:=89) (Fy (n:=86) b e)
 refine (kX _ 96 _ _ _ f).trans ((kX _ 95 _ _ _ (Av _ 93 _ _ _ trivial g)).trans rfl)
theorem zT (set:D→Dl→Option Dl) (body:Dl→Option Fl) (x:D) (xs:List D) (δ:Dl) {δ1 δ2:Dl} (a:set x δ=some δ1) (b:body δ1=some (.nx δ2)):forL set body (x::xs) δ=forL set body xs δ2:=by simp only [forL,a,b]
theorem jo {t:Nat} (g:io ir=[0]) (h:io ib=[]) {s lim:Int} (l:Right call ir s lim) (hs:0≤s) (ht:s*t≤lim) (i:t≤100) {cs:List Int} {ns:List Int}
  (a:∀ (k:Nat) (c:Int),cs[k]?=some c→∃ d,call ib [.lst false (cs.map .int),.int k]=some (d,[])∧Box 0 d) :
  ∀ (n k:Nat) (o:Bool) (a2 a3:Option D),k+n≤cs.length→∃ o' b f,forL (setT [] (.nm 2)) (bg ⟨call,io,[]⟩ 97 [.asg (.nm 3) (.call ib [(.var 1),(.var 2)]),
  .ifs (.bnot (.bi .all1 [(.lc (.call ir [(.var 3)]) (.nm 4) .range [(.int t)] [] [4])])) [.ret (.bl false)] []]) (aC k 1 n) [some (.scr ns),some (.lst o (cs.map .int)),a2,a3,none] =
   some (.nx [some (.scr ns),some (.lst o' (cs.map .int)),b,f,none])
 | 0,k,o,a2,a3,_=>⟨o,a2,a3,by simp [aC,forL]⟩
 | n+1,k,o,a2,a3,hk=>by
  obtain ⟨c,q⟩:∃ c,cs[k]?=some c:=⟨_,List.getElem?_eq_getElem (by omega)⟩
  obtain ⟨d,r,m⟩:=a k c q
  have j:(0:Int)+s*((aC 0 1 t).length:Nat)≤lim:=by rw [rR];omega
  obtain ⟨d2,u⟩:=pd g l hs (a0:=some (.scr ns)) (a1:=some (.lst false (cs.map .int))) (a2:=some (.int k)) (aC 0 1 t) [] 0 d m j (by rw [rR];simp;omega)
  obtain ⟨x0,w,x2,rfl,_⟩:=m
  obtain ⟨o',b,f,p⟩:=jo g h l hs ht i (ns:=ns) a n (k+1) false (some (.int k)) (some d2) (by omega)
  refine ⟨o',b,f,?_⟩
  have e:=Eb (ir:=ir) (o:=o) (a3:=a3) h i r (by simpa using u)
  have v:((k:Int)+1)=((k+1:Nat):Int):=by omega
  rw [← v] at p
  exact (zT (setT [] (.nm 2)) _ (.int k) (aC ((k:Int)+1) 1 n) _ (δ1:=[some (.scr ns),some (.lst o (cs.map .int)),some (.int k),a3,none]) (by simp [setT,cR]) e).trans p
theorem eh (C:Ctx) (n:Nat) (tg:Tg) (k:ItK) (its:List E) (body:List S) (δ:Dl) {xs:List D} {δ1:Dl} {r:Option Fl} (a:dB C n k its δ=some (xs,δ1)) (b:forL (setT C.lock tg) (bg C n body) xs δ1=r):evS C (n+1) (.for_ tg k its body) δ=r:=by
 simp only [evS,a]
 exact b
theorem v7 {m t:Nat} (i:io ir=[0]) (j:io ib=[]) (l:io ic=[]) {s lim:Int} (o:Right call ir s lim) (hs:0≤s) (ht:s*t≤lim) (n:t≤100) (hm:m≤63)
  (g:∀ (cs:List Int) (k:Nat) (c:Int),cs[k]?=some c→∃ d,call ib [.lst false (cs.map .int),.int k]=some (d,[])∧Box 0 d)
  (a:∀ ns:List Int,∃ cs:List Int,1≤cs.length∧cs.length≤m∧call ic [.scr ns,.int m]=some (.lst true (cs.map .int),[])) (ns:List Int) :
  dh ⟨call,io,[]⟩ (hW ic ib ir m t) [.scr ns]=some (.bl true,[]):=by
 obtain ⟨cs,l1,l2,p⟩:=a ns
 obtain ⟨o',b,e,q⟩:=jo i j o hs ht n (ns:=ns) (g cs) cs.length 0 true none none (by omega)
 have f:=dE cs
 have r:evS ⟨call,io,[]⟩ 99 (.asg (.nm 1) (.call ic [(.var 0),(.int m)])) [some (.scr ns),none,none,none,none]=some (.nx [some (.scr ns),some (.lst true (cs.map .int)),none,none,none]):=by
  simp [evS,evV,evE,aN,slot,look,settle,setT,cR,br,i7,valOf,toV,l,bR,isAtom,D.fz,p]
 have u:dB ⟨call,io,[]⟩ 97 .range [(.bi .len [(.var 1)])] [some (.scr ns),some (.lst true (cs.map .int)),none,none,none]=some (aC 0 1 cs.length,[some (.scr ns),some (.lst true (cs.map .int)),none,none,none]):=by
  refine itR _ 96 _ _ (t:=cs.length) (by omega) ?_
  have e0:evE ⟨call,io,[]⟩ 95 (.bi .len [(.var 1)]) [some (.scr ns),some (.lst true (cs.map .int)),none,none,none]=some (.tmp (.int cs.length),[some (.scr ns),some (.lst true (cs.map .int)),none,none,none]):=by
   simp [evE,aN,slot,look,looks,settle,ij,D.fz,biD]
  simp only [aN,e0,settle]
 have h:=q
 simp only [Int.natCast_zero] at h
 have v:evS ⟨call,io,[]⟩ 98 (.for_ (.nm 2) .range [(.bi .len [(.var 1)])] [.asg (.nm 3) (.call ib [(.var 1),(.var 2)]),
  .ifs (.bnot (.bi .all1 [(.lc (.call ir [(.var 3)]) (.nm 4) .range [(.int t)] [] [4])])) [.ret (.bl false)] []]) [some (.scr ns),some (.lst true (cs.map .int)),none,none,none]=some (.nx [some (.scr ns),some (.lst o' (cs.map .int)),b,e,none]):=by
  exact eh _ 97 _ _ _ _ _ u h
 have w:bg ⟨call,io,[]⟩ 98 [.ret (.bl true)] [some (.scr ns),some (.lst o' (cs.map .int)),b,e,none]=some (.rt (.bl true) [some (.scr ns),some (.lst o' (cs.map .int)),b,e,none]):=rfl
 have x:bg ⟨call,io,[]⟩ 100 (hW ic ib ir m t).body [some (.scr ns),none,none,none,none]=some (.rt (.bl true) [some (.scr ns),some (.lst o' (cs.map .int)),b,e,none]) :=
  (kX _ 99 _ _ _ r).trans ((kX _ 98 _ _ _ v).trans w)
 unfold dh
 rw [if_pos (show [D.scr ns].length=(hW ic ib ir m t).ps from rfl),show bE (hW ic ib ir m t) [.scr ns]=[some (.scr ns),none,none,none,none] from rfl,x]
 rfl
end
end Ev
namespace Ev
open PySem
theorem aF {α:Sort _} {a b:α} (h:a=b):a=b:=h
@[simp] theorem EC (C:Ctx) (n:Nat) (δ:Dl):evE C (n+1) .non δ=(some (.tmp .non,δ)):=aF rfl
@[simp] theorem FC (C:Ctx) (n:Nat) {b} (δ:Dl):evE C (n+1) (.bl b) δ=(some (.tmp (.bl b),δ)):=aF rfl
@[simp] theorem Eo (C:Ctx) (n:Nat) {i} (δ:Dl):evE C (n+1) (.int i) δ=(some (.tmp (.int i),δ)):=aF rfl
@[simp] theorem wt (C:Ctx) (n:Nat) {i} (δ:Dl):evE C (n+1) (.var i) δ=(match slot δ i with
   | some d=>if d.fz then some (.tmp d,δ) else some (.bor i [],δ)
   | none=>none):=aF rfl
@[simp] theorem vZ (C:Ctx) (n:Nat) {op} {a} {b} (δ:Dl):evE C (n+1) (.bin op a b) δ=(match aN C n [a,b] δ with
   | some (as,δ1)=>match looks δ1 as with
    | some [x,y]=>match nA op x y with
     | some d=>some (.tmp d,δ1)
     | none=>match bL δ1 as with
      | some ([x,y],δ2)=>match nA op x.frz y.frz with
       | some d=>some (.tmp d,δ2)
       | none=>none
      | _=>none
    | _=>none
   | none=>none):=aF rfl
@[simp] theorem EA (C:Ctx) (n:Nat) {op} {a} {b} (δ:Dl):evE C (n+1) (.cmp op a b) δ=(match aN C n [a,b] δ with
   | some (as,δ1)=>match looks δ1 as with
    | some [x,y]=>match lC op x y with
     | some t=>some (.tmp (.bl t),δ1)
     | none=>none
    | _=>none
   | none=>none):=aF rfl
@[simp] theorem sP (C:Ctx) (n:Nat) {es} (δ:Dl):evE C (n+1) (.band es) δ=(jJ C n es δ):=aF rfl
@[simp] theorem CA (C:Ctx) (n:Nat) {a} (δ:Dl):evE C (n+1) (.bnot a) δ=(match evE C n a δ with
   | some (x,δ1)=>match look δ1 x with
    | some d=>match fK d with
     | some b=>some (.tmp (.bl (!b)),δ1)
     | none=>none
    | none=>none
   | none=>none):=aF rfl
@[simp] theorem w8 (C:Ctx) (n:Nat) {c} {a} {b} (δ:Dl):evE C (n+1) (.ite c a b) δ=(match evT C n c δ with
   | some (true,δ1)=>evE C n a δ1
   | some (false,δ1)=>evE C n b δ1
   | none=>none):=aF rfl
@[simp] theorem Ep (C:Ctx) (n:Nat) {es} (δ:Dl):evE C (n+1) (.tup es) δ=(match aN C n es δ with
   | some (as,δ1)=>match bL δ1 as with
    | some (ds,δ2)=>if decide (ds.length≤cap) then some (.tmp (.tup (frzs ds)),δ2) else none
    | none=>none
   | none=>none):=aF rfl
@[simp] theorem ES (C:Ctx) (n:Nat) {es} (δ:Dl):evE C (n+1) (.lst es) δ=(match aN C n es δ with
   | some (as,δ1)=>match bL δ1 as with
    | some (ds,δ2)=>if decide (ds.length≤cap) then some (.tmp (.lst true ds),δ2) else none
    | none=>none
   | none=>none):=aF rfl
@[simp] theorem Bq (C:Ctx) (n:Nat) {a} {lo} {hi} (δ:Dl):evE C (n+1) (.slice a lo hi) δ=(match aN C n (a::(lo.toList++hi.toList)) δ with
   | some (x::as,δ1)=>match look δ1 x,partsOf lo.isSome hi.isSome as with
    | some d,some (l,h)=>match slD d l h with
     | some r=>some (.tmp r,δ1)
     | none=>match bL δ1 (x::as) with
      | some (d::_,δ2)=>match slD d.frz l h with
       | some r=>some (.tmp r,δ2)
       | none=>none
      | _=>none
    | _,_=>none
   | _=>none):=aF rfl
@[simp] theorem Dw (C:Ctx) (n:Nat) {f} {es} (δ:Dl):evE C (n+1) (.call f es) δ=(match aN C n es δ with
   | some (as,δ1)=>br C f as δ1
   | none=>none):=aF rfl
@[simp] theorem sA (C:Ctx) (n:Nat) {b} {es} (δ:Dl):evE C (n+1) (.bi b es) δ=(match aN C n es δ with
   | some (as,δ1)=>match looks δ1 as with
    | some ds=>match biD b ds with
     | some d=>some (.tmp d,δ1)
     | none=>none
    | none=>none
   | none=>none):=aF rfl
@[simp] theorem EO (C:Ctx) (n:Nat) {a} {ts} (δ:Dl):evE C (n+1) (.isi a ts) δ=(match evE C n a δ with
   | some (x,δ1)=>match look δ1 x with
    | some d=>if isObj d then none else some (.tmp (.bl (ts.any (eR d))),δ1)
    | none=>none
   | none=>none):=aF rfl
@[simp] theorem Cp (C:Ctx) (n:Nat) (δ:Dl):evE C (n+1) .dtk0 δ=(some (.tmp (.dtk true [] []),δ)):=aF rfl
@[simp] theorem Dr (C:Ctx) (n:Nat) {a} {b} (δ:Dl):evE C (n+1) (.dtk1 a b) δ=(match evV C n a δ with
   | some (c,δ1)=>match nk c with
    | some q=>match evV C n b δ1 with
     | some (d,δ2)=>some (.tmp (.dtk true [q] [d.frz]),δ2)
     | none=>none
    | none=>none
   | none=>none):=aF rfl
@[simp] theorem Er (C:Ctx) (n:Nat) {v} {a} {b} (δ:Dl):evE C (n+1) (.dgt v a b) δ=(match evE C n (.var v) δ with
   | some (.bor s [],δ1)=>if xN (slot δ1 s) then match evV C n a δ1 with
     | some (c,δ2)=>match nk c with
      | some q=>match evV C n b δ2 with
       | some (d,δ3)=>match slot δ3 s with
        | some (.dtk _ ks xs)=>some (.tmp ((atK ks xs q).getD d.frz),δ3)
        | _=>none
       | none=>none
      | none=>none
     | none=>none
    else none
   | _=>none):=aF rfl
@[simp] theorem EH (C:Ctx) (n:Nat) {v} {a} (δ:Dl):evE C (n+1) (.dix v a) δ=(match evE C n (.var v) δ with
   | some (.bor s [],δ1)=>match evV C n a δ1 with
     | some (b,δ2)=>match nk b with
      | some q=>match slot δ2 s with
       | some (.dtk _ ks xs)=>match atK ks xs q with
        | some d=>some (.tmp d,δ2)
        | none=>none
       | _=>none
      | none=>none
     | none=>none
   | _=>none):=aF rfl
@[simp] theorem xD (C:Ctx) (n:Nat) {a} {b} {tg} {k} {its} {own} (δ:Dl):evE C (n+1) (.dck a b tg k its own) δ=(match dB C n k its δ with
   | some (xs,δ1)=>if cH δ1 own then match dcL (setT C.lock tg) (evV C n a) (evV C n b) own xs [] [] (aY δ1 own) with
     | some (r,δ2)=>some (.tmp (.dtk true r.1 r.2),gh δ1 δ2 own)
     | none=>none
    else none
   | none=>none):=aF rfl
@[simp] theorem Cn (C:Ctx) {n} {e} {δ}:evV C (n+1) e δ=(match evE C n e δ with
  | some (a,δ1)=>toV δ1 a
  | none=>none):=aF rfl
@[simp] theorem zG (C:Ctx) {n} {δ}:aN C (n+1) [] δ=(some ([],δ)):=aF rfl
@[simp] theorem jO (C:Ctx) {n} {e} {es} {δ}:aN C (n+1) (e::es) δ=(match evE C n e δ with
  | some (a,δ1)=>match settle es δ1 a with
   | some (a,δ2)=>match aN C n es δ2 with
    | some (as,δ3)=>some (a::as,δ3)
    | none=>none
   | none=>none
  | none=>none):=aF rfl
@[simp] theorem xB (C:Ctx) {n} {e} {δ}:jJ C (n+1) [e] δ=(evE C n e δ):=aF rfl
@[simp] theorem xT (C:Ctx) {b} {n} {e} {es} {δ}:jJ C (n+1) (e::b::es) δ=(match evE C n e δ with
  | some (a,δ1)=>match look δ1 a with
   | some d=>match fK d with
    | some true=>jJ C n (b::es) δ1
    | some false=>some (a,δ1)
    | none=>none
   | none=>none
  | none=>none):=aF rfl
@[simp] theorem Ex (C:Ctx) (n:Nat) {es} (δ:Dl):evT C (n+1) (.bor es) δ=(kD C n es δ):=aF rfl
@[simp] theorem Bx (C:Ctx) (n:Nat) {a} (δ:Dl):evT C (n+1) (.bnot a) δ=(match evT C n a δ with
   | some (b,δ1)=>some (!b,δ1)
   | none=>none):=aF rfl
@[simp] theorem Et (C:Ctx) {n} {e} {δ}:kD C (n+1) [e] δ=(evT C n e δ):=aF rfl
@[simp] theorem Fb (C:Ctx) {a} {n} {e} {es} {δ}:kD C (n+1) (e::a::es) δ=(match evT C n e δ with
  | some (false,δ1)=>kD C n (a::es) δ1
  | some (true,δ1)=>some (true,δ1)
  | none=>none):=aF rfl
@[simp] theorem HG (C:Ctx) {n} {k} {es} {δ}:dB C (n+1) k es δ=(match aN C n es δ with
  | some (as,δ1)=>match bL δ1 as with
   | some (ds,δ2)=>match itC C k (frzs ds) with
    | some xs=>some (xs,δ2)
    | none=>none
   | none=>none
  | none=>none):=aF rfl
@[simp] theorem E8 (C:Ctx) (n:Nat) {e} (δ:Dl):evS C (n+1) (.ret e) δ=(match evE C n e δ with
   | some (.tmp d,δ1)=>some (.rt d δ1)
   | some (.bor i [],δ1)=>match slot δ1 i with
    | some d=>if C.lock.contains i then none else some (.rt d (δ1.set i none))
    | none=>none
   | some (.bor i p,δ1)=>match toV δ1 (.bor i p) with
    | some (d,δ2)=>some (.rt d δ2)
    | none=>none
   | none=>none):=aF rfl
@[simp] theorem ED (C:Ctx) (n:Nat) {t} {e} (δ:Dl):evS C (n+1) (.asg t e) δ=(match evV C n e δ with
   | some (d,δ1)=>match setT C.lock t d δ1 with
    | some δ2=>some (.nx δ2)
    | none=>none
   | none=>none):=aF rfl
@[simp] theorem EL (C:Ctx) (n:Nat) {is} {es} (δ:Dl):evS C (n+1) (.par is es) δ=(match aN C n es δ with
   | some (as,δ1)=>match bL δ1 as with
    | some (ds,δ2)=>match cE C.lock is ds δ2 with
     | some δ3=>some (.nx δ3)
     | none=>none
    | none=>none
   | none=>none):=aF rfl
@[simp] theorem rT (C:Ctx) (n:Nat) {v} {a} {e} (δ:Dl):evS C (n+1) (.setD v a e) δ=(match evV C n e δ with
   | some (d,δ1)=>match evE C n (.var v) δ1 with
    | some (.bor s [],δ2)=>match evV C n a δ2 with
     | some (b,δ3)=>match nk b with
      | some q=>match slot δ3 s with
       | some (.dtk true ks xs)=>if Nat.ble ks.length 100000 then some (.nx (δ3.set s (some (.dtk true (putD ks xs q d.frz).1 (putD ks xs q d.frz).2)))) else none
       | _=>none
      | none=>none
     | none=>none
    | _=>none
   | none=>none):=aF rfl
@[simp] theorem rV (C:Ctx) (n:Nat) {v} {e} (δ:Dl):evS C (n+1) (.updD v e) δ=(match evE C n (.var v) δ with
   | some (.bor s [],δ1)=>if xN (slot δ1 s) then match evV C n e δ1 with
     | some (.dtk true a b,δ2)=>match slot δ2 s with
      | some (.dtk true ks xs)=>if (!ks.isEmpty||fX a)&&Nat.ble (ks.length+a.length) 100000 then some (.nx (δ2.set s (some (.dtk true (lq ks xs a b).1 (lq ks xs a b).2)))) else none
      | _=>none
     | _=>none
    else none
   | _=>none):=aF rfl
@[simp] theorem ET (C:Ctx) (n:Nat) {c} {a} {b} (δ:Dl):evS C (n+1) (.ifs c a b) δ=(match evT C n c δ with
   | some (true,δ1)=>bg C n a δ1
   | some (false,δ1)=>bg C n b δ1
   | none=>none):=aF rfl
@[simp] theorem Hl (C:Ctx) {n} {δ}:bg C (n+1) [] δ=(some (.nx δ)):=aF rfl
@[simp] theorem FN (C:Ctx) {n} {s} {ss} {δ}:bg C (n+1) (s::ss) δ=(match evS C n s δ with
  | some (.nx δ1)=>bg C n ss δ1
  | r=>r):=aF rfl
@[simp] theorem E1 (C:Ctx) (n:Nat) {op} {a} {b} (δ:Dl):evT C (n+1) (.cmp op a b) δ=(match evE C n (.cmp op a b) δ with
   | some (a,δ1)=>match look δ1 a with
    | some d=>match fK d with
     | some b=>some (b,δ1)
     | none=>none
    | none=>none
   | none=>none):=aF rfl
@[simp] theorem CN (C:Ctx) (n:Nat) {f} {es} (δ:Dl):evT C (n+1) (.call f es) δ=(match evE C n (.call f es) δ with
   | some (a,δ1)=>match look δ1 a with
    | some d=>match fK d with
     | some b=>some (b,δ1)
     | none=>none
    | none=>none
   | none=>none):=aF rfl
@[simp] theorem Es (C:Ctx) (n:Nat) {a} {ts} (δ:Dl):evT C (n+1) (.isi a ts) δ=(match evE C n (.isi a ts) δ with
   | some (a,δ1)=>match look δ1 a with
    | some d=>match fK d with
     | some b=>some (b,δ1)
     | none=>none
    | none=>none
   | none=>none):=aF rfl
@[simp] theorem om (d:D) (δ:Dl):slot (some d::δ) 0=some d:=aF rfl
@[simp] theorem EU (δ:Dl):slot (none::δ) 0=none:=aF rfl
@[simp] theorem nN (x:Option D) (δ:Dl) (i:Nat):slot (x::δ) (i+1)=slot δ i:=aF rfl
@[simp] theorem vI (d:D):d.at []=some d:=by unfold D.at;rfl
@[simp] theorem sk (d:D) (f:D→Option D):d.mP [] f=f d:=by unfold D.mP;rfl
@[simp] theorem lX (δ:Dl) (d:D):look δ (.tmp d)=some d:=aF rfl
@[simp] theorem CQ (δ:Dl) (i:Nat):look δ (.bor i [])=slot δ i:=by
 unfold look
 simp only [vI]
 cases h:slot δ i<;>rfl
@[simp] theorem qn (δ:Dl):looks δ []=some []:=aF rfl
@[simp] theorem oj (δ:Dl) (a:A) (as:List A):looks δ (a::as)=(match look δ a,looks δ as with
 | some d,some ds=>some (d::ds)
 | _,_=>none):=aF rfl
@[simp] theorem zX (δ:Dl) (i:Nat) (f:D→Option D):bN δ i [] f=(match slot δ i with
  | some d=>match f d with
    | some d'=>some (δ.set i (some d'))
    | none=>none
  | none=>none):=by
  unfold bN
  simp only [sk]
  all_goals (cases slot δ i<;>first
    | rfl
    | (rename_i d;cases f d<;>rfl)
    | (rename_i d;simp only;cases f d<;>rfl))
@[simp] theorem EX (δ:Dl) (d:D):toV δ (.tmp d)=some (d,δ):=aF rfl
@[simp] theorem Em (δ:Dl) (i:Nat):toV δ (.bor i [])=(match slot δ i with
 | some d=>some (d.frz,δ.set i (some d.frz))
 | none=>none):=by
 unfold toV
 simp
 cases slot δ i<;>simp
@[simp] theorem Dd (δ:Dl):bL δ []=some ([],δ):=aF rfl
@[simp] theorem Bj (δ:Dl) (a:A) (as:List A):bL δ (a::as)=(match toV δ a with
  | some (d,δ1)=>match bL δ1 as with
   | some (ds,δ2)=>some (d::ds,δ2)
   | none=>none
  | none=>none):=aF rfl
@[simp] theorem oq {α:Type} (es:List α) (δ:Dl) (d:D):settle es δ (.tmp d)=some (.tmp d,δ):=aF rfl
@[simp] theorem n9 {α:Type} (es:List α) (δ:Dl) (i:Nat):settle es δ (.bor i [])=some (.bor i [],δ):=aF rfl
@[simp] theorem Ht:D.non.fz=true:=aF rfl
@[simp] theorem HY (b:Bool):(D.bl b).fz=true:=aF rfl
@[simp] theorem Gp (b:Int):(D.int b).fz=true:=aF rfl
@[simp] theorem Hu (b:Str):(D.str b).fz=true:=aF rfl
@[simp] theorem uK (b:List D):(D.tup b).fz=fzs b:=by simp only [D.fz]
@[simp] theorem tF (o:Bool) (b:List D):(D.lst o b).fz=(!o&&fzs b):=by simp only [D.fz]
@[simp] theorem A6:isObj .non=false:=aF rfl
@[simp] theorem Ce (b:Bool):isObj (.bl b)=false:=aF rfl
@[simp] theorem Bl (b:Int):isObj (.int b)=false:=aF rfl
@[simp] theorem Bg (b:Str):isObj (.str b)=false:=aF rfl
@[simp] theorem Bk (b:List D):isObj (.tup b)=false:=aF rfl
@[simp] theorem Bo (o:Bool) (b:List D):isObj (.lst o b)=false:=aF rfl
@[simp] theorem Gx (o:Bool) (ks:List (List Int)) (b:List D):(D.dtk o ks b).fz=(!o&&fzs b):=by simp only [D.fz]
@[simp] theorem EK (o:Bool) (ks:List (List Int)) (b:List D):(D.dtk o ks b).frz=.dtk false ks (frzs b):=by simp only [D.frz]
@[simp] theorem CL (o:Bool) (ks:List (List Int)) (xs:List D):xN (some (.dtk o ks xs))=true:=aF rfl
@[simp] theorem EN:fzs []=true:=aF rfl
@[simp] theorem BS (d:D) (ds:List D):fzs (d::ds)=(d.fz&&fzs ds):=by simp only [fzs]
@[simp] theorem G6 (b:Bool):(D.bl b).frz=.bl b:=aF rfl
@[simp] theorem E6 (b:Int):(D.int b).frz=.int b:=aF rfl
@[simp] theorem EZ (b:List D):(D.tup b).frz=.tup (frzs b):=by simp only [D.frz]
@[simp] theorem EG (o:Bool) (b:List D):(D.lst o b).frz=.lst false (frzs b):=by simp only [D.frz]
@[simp] theorem DN:frzs []=[]:=aF rfl
@[simp] theorem A2 (d:D) (ds:List D):frzs (d::ds)=d.frz::frzs ds:=by simp only [frzs]
@[simp] theorem Ey (C:Ctx) (ds:List D):itC C .val ds=itD .val ds:=aF rfl
@[simp] theorem Bh (C:Ctx) (ds:List D):itC C .range ds=itD .range ds:=aF rfl
@[simp] theorem C7 (C:Ctx) (ds:List D):itC C .enum ds=itD .enum ds:=aF rfl
@[simp] theorem Ej (C:Ctx) (ds:List D):itC C .zip ds=itD .zip ds:=aF rfl
@[simp] theorem Ez (ds:List D):itD .val ds=mL ds:=aF rfl
@[simp] theorem A3 (ds:List D):itD .range ds=aQ ds:=aF rfl
@[simp] theorem BV (ds:List D):itD .enum ds=iy ds:=aF rfl
@[simp] theorem El (ds:List D):itD .zip ds=ly ds:=aF rfl
@[simp] theorem A5 (xs:List D):mL [.tup xs]=some xs:=aF rfl
@[simp] theorem Bm (xs:List D):mL [.lst false xs]=some xs:=aF rfl
@[simp] theorem Bb (o:Bool) (ks:List (List Int)) (xs:List D):biD .list1 [.dtk o ks xs]=some (.lst true (ks.map tupI)):=aF rfl
@[simp] theorem AZ (o:Bool) (ks:List (List Int)) (xs:List D):biD .sorted1 [.dtk o ks xs]=(if lA ks then some (.lst true ((fE ks).map tupI)) else none):=aF rfl
@[simp] theorem AG (xs:List D):iy [.tup xs]=some (cT 0 xs):=aF rfl
@[simp] theorem Bn (xs ys:List D):ly [.tup xs,.tup ys]=some (jE xs ys):=aF rfl
@[simp] theorem A4 (xs ys:List D):ly [.lst false xs,.lst false ys]=some (jE xs ys):=aF rfl
@[simp] theorem EY (o:Bool) (xs:List D):biD .len [.lst o xs]=some (.int xs.length):=aF rfl
@[simp] theorem E5 (xs:List D):biD .len [.tup xs]=some (.int xs.length):=aF rfl
@[simp] theorem EF (a b:Int):biD .min2 [.int a,.int b]=some (.int (if b<a then b else a)):=aF rfl
@[simp] theorem DG (d:D):biD .tuple1 [d]=(items d).map .tup:=aF rfl
@[simp] theorem zk (o:Bool) (xs:List D):biD .all1 [.lst o xs]=(match boolsOf xs with
  | some ns=>some (.bl (ns.all id))
  | _=>none):=aF rfl
@[simp] theorem Bp (ds:List D):biD .trange ds=(match aQ ds with
  | some xs=>if decide (xs.length≤cap) then some (.tup xs) else none
  | none=>none):=aF rfl
@[simp] theorem A9 (o:Bool) (xs:List D):items (.lst o xs)=(if fzs xs then some xs else none):=aF rfl
@[simp] theorem EW (a b:Int):nA .add (.int a) (.int b)=some (.int (a+b)):=aF rfl
@[simp] theorem EM (a b:Int):nA .sub (.int a) (.int b)=some (.int (a-b)):=aF rfl
@[simp] theorem DU (o p:Bool) (xs ys:List D):nA .add (.lst o xs) (.lst p ys)=(if fzs xs&&fzs ys&&decide (xs.length+ys.length≤cap) then some (.lst true (xs++ys)) else none):=aF rfl
@[simp] theorem DL (xs ys:List D):nA .add (.tup xs) (.tup ys)=(if decide (xs.length+ys.length≤cap) then some (.tup (xs++ys)) else none):=aF rfl
@[simp] theorem Hq (a b:D):lC .eq a b=(if plain a&&plain b then some (a.eq b) else none):=aF rfl
@[simp] theorem Fi (a b:D):lC .ne a b=(if plain a&&plain b then some (!a.eq b) else none):=aF rfl
@[simp] theorem Hj (a b:Int):lC .gt (.int a) (.int b)=some (decide (b<a)):=aF rfl
@[simp] theorem GC (a:D):lC .isn a .non=some (isNon a):=aF rfl
@[simp] theorem HB (xs:List D) (lo hi:Option Int):slD (.tup xs) lo hi=some (.tup (cutD xs lo hi)):=aF rfl
@[simp] theorem HF (k:Nat):D.non.ok k=true:=by cases k<;>rfl
@[simp] theorem HS (k:Nat) (b:Bool):(D.bl b).ok k=true:=by cases k<;>rfl
@[simp] theorem yY (k:Nat) (i:Int):(D.int i).ok k=true:=by cases k<;>rfl
@[simp] theorem ux (k:Nat) (s:Str):(D.str s).ok k=PyData.strOk s:=by cases k<;>rfl
@[simp] theorem uo (k:Nat) (xs:List D):(D.tup xs).ok (k+1)=oks k xs:=aF rfl
@[simp] theorem r9 (k:Nat) (o:Bool) (xs:List D):(D.lst o xs).ok (k+1)=oks k xs:=aF rfl
@[simp] theorem Ew (k:Nat):oks k []=true:=by cases k<;>rfl
@[simp] theorem iF (k:Nat) (d:D) (ds:List D):oks k (d::ds)=(d.ok k&&oks k ds):=by cases k<;>rfl
@[simp] theorem Ab (i j:Int):(D.int i).eq (.int j)=(i==j):=aF rfl
@[simp] theorem Ft (i j:Str):(D.str i).eq (.str j)=(i==j):=aF rfl
@[simp] theorem HU (i j:Bool):(D.bl i).eq (.bl j)=(i==j):=aF rfl
@[simp] theorem zH (i j:List D):(D.tup i).eq (.tup j)=eqs i j:=aF rfl
@[simp] theorem AU (o p:Bool) (i j:List D):(D.lst o i).eq (.lst p j)=eqs i j:=aF rfl
@[simp] theorem E4:eqs [] []=true:=aF rfl
@[simp] theorem sJ (x y:D) (xs ys:List D):eqs (x::xs) (y::ys)=(x.eq y&&eqs xs ys):=aF rfl
@[simp] theorem AD (b:Bool):fK (.bl b)=some b:=aF rfl
@[simp] theorem DY (io:List Nat) (j:Nat) (δ:Dl):i7 io j [] δ=some ([],δ):=aF rfl
@[simp] theorem A7 (j:Nat) (a:A) (as:List A) (δ:Dl):i7 [] j (a::as) δ=(match i7 [] (j+1) as δ with
   | some (os,δ')=>some (none::os,δ')
   | none=>none):=aF rfl
@[simp] theorem A8 (δ:Dl):valOf [] [] δ=some ([],δ):=aF rfl
@[simp] theorem Au (d:D) (os:List (Option D)) (a:A) (as:List A) (δ:Dl):valOf (some d::os) (a::as) δ=(match valOf os as δ with
  | some (ds,δ')=>some (d::ds,δ')
  | none=>none):=aF rfl
@[simp] theorem AX (os:List (Option D)) (a:A) (as:List A) (δ:Dl):valOf (none::os) (a::as) δ=(match toV δ a with
  | some (d,δ1)=>match valOf os as δ1 with
   | some (ds,δ')=>some (d::ds,δ')
   | none=>none
  | none=>none):=aF rfl
@[simp] theorem zQ (io:List Nat) (j:Nat) (outs:List D) (δ:Dl):bR io j [] outs δ=δ:=aF rfl
@[simp] theorem yy (j:Nat) (a:A) (as:List A) (outs:List D) (δ:Dl):bR [] j (a::as) outs δ=bR [] (j+1) as outs δ:=aF rfl
@[simp] theorem En (lock:List Nat) (i:Nat) (d:D) (δ:Dl):setT lock (.nm i) d δ=cR lock i d δ:=aF rfl
@[simp] theorem EV (lock:List Nat) (is:List Nat) (ds:List D) (δ:Dl):setT lock (.tp is) (.tup ds) δ=(if fzs ds then cE lock is ds δ else none):=aF rfl
@[simp] theorem Be (lock:List Nat) (δ:Dl):cE lock [] [] δ=some δ:=aF rfl
@[simp] theorem zy (lock:List Nat) (i:Nat) (is:List Nat) (d:D) (ds:List D) (δ:Dl):cE lock (i::is) (d::ds) δ=(match cR lock i d δ with
  | some δ1=>cE lock is ds δ1
  | none=>none):=aF rfl
@[simp] theorem AK (δ:Dl) (j m:Nat):bc δ [] j m=some []:=by
 induction m generalizing j with
 | zero=>rfl
 | succ m ih=>simp [bc,ih]
@[simp] theorem Ek (lock:List Nat) (i:Nat) (d:D) (δ:Dl):cR lock i d δ=(if decide (i<δ.length)&&!lock.contains i then some (δ.set i (some d)) else none):=aF rfl
@[simp] theorem CD (C:Ctx) (f:Nat) (as:List A) (δ:Dl):br C f as δ=(match i7 (C.io f) 0 as δ with
 | some (os,a)=>match valOf os as a with
  | some (ds,δ2)=>match C.call f ds with
   | some (r,outs)=>some (.tmp r,bR (C.io f) 0 as outs (if isAtom r then (if deep (C.io f) then δ2 else a) else δ2))
   | none=>none
  | none=>none
 | none=>none):=aF rfl
end Ev
namespace Ob
open PySem PySem.Spec PyProof.Rows L2 Ev
section
variable {P:Program} {w:World} {K:Frag} {mg:Str→Option Value} {base:Heap} {C:Addr}
end
end Ob
namespace Xc
open PySem PySem.Spec PySem.W PySem.Calls PyProof.Rows L2
end Xc
namespace Xr
open PySem PySem.Spec PyProof.Rows L2
section
variable {M:Model} {A:Around} {E:Value→Shared→Prop} {s:Shared} {Z:Obj→Prop} {base:Heap} {env:Env} {outer l:List Env} {L L' e:Addr}
end
section
variable {X:Cx} {pins:List (Addr × Obj)} {σ:L2.St} {H:Hp} {s:Shared} {W:XK}
end
end Xr
namespace Ev
open PySem PySem.Spec PyProof.Rows L2
def Hw (F F':Hp):Option Addr→Hp
 | none=>F
 | some dd=>fun b=>if b=dd then F' dd else F b
theorem Ba {F F':Hp} {dd b:Addr}:Hw F F' (some dd) b=if b=dd then F' dd else F b:=rfl
section
variable {K:Frag} {F H F0 H0 F' H':Hp} {σ:L2.St}
end
end Ev
namespace Ev
open PySem PySem.Spec PyProof.Rows L2
section
variable {C:Ctx} {X:Cx} {c:Cxt} {m:Nat} {σ:L2.St} {δ δ':Dl} {F H:Hp} {W:Fp} {r:D} {Wx:WX}
end
end Ev
namespace Ev
open PySem PySem.Spec PyProof.Rows L2
section
variable {C:Ctx} {X:Cx} {c:Cxt} {Wx:WX}
end
end Ev
namespace Xc
open PySem PySem.Spec PySem.W PySem.Calls PyProof.Rows L2
end Xc
namespace Xn
open PySem PySem.Spec PySem.W PySem.Calls PyProof.Rows L2
section
variable {X:Cx} {n:Str} {i:Nat} {pos':Pos} {Wout:WX} {pins:List (Addr × Obj)}
end
section
variable {X:Cx} {x n:Str} {c:Value} {i:Nat} {body suite:List Stmt} {b₀:Stmt} {np pos pos':Pos} {tb:WX→TS} {ts:Addr→Value→Option Addr→TS} {Wout:WX}
end
end Xn
namespace Xn
open PySem PySem.Spec PySem.W PySem.Calls PyProof.Rows L2
end Xn
namespace Ev
open PySem PySem.Spec PyProof.Rows L2
section
variable {C:Ctx} {X:Cx} {c:Cxt} {Wx:WX}
section
variable {ss:List S} {m i:Nat} {body:List Stmt} {x x2 en:Str} {cv:Value} {Cb:Addr} {np p1 p2 p3 p4 pos pos':Pos} {σ:L2.St} {δ:Dl} {F H:Hp} {W:Fp} {D:Ends}
end
end
end Ev
namespace Ev
open PySem PySem.Spec PyProof.Rows L2
section
variable {P:Program} {w:World} {K:Frag} {mg:Str→Option Value} {base:Heap} {ds:List Def}
end
end Ev
namespace Ev
open PySem PySem.Spec PyProof.Rows L2
section
variable {P:Program} {w:World} {K:Frag} {mg:Str→Option Value} {base:Heap} {ds:List Def}
end
end Ev
namespace Xc
open PySem PySem.Spec PySem.W PySem.Calls PyProof.Rows L2
section
variable {X:Cx} {pins:List (Addr × Obj)} {σ:L2.St} {H:Hp} {s:Shared}
end
end Xc
namespace Ev
open PySem PySem.Spec PyProof.Rows L2
section
variable {C:Ctx} {X:Cx} {c:Cxt}
end
end Ev
namespace Xc
open PySem PySem.Spec PySem.W PySem.Calls PyProof.Rows L2
section
variable {X:Cx} {pins:List (Addr × Obj)} {σ:L2.St} {H:Hp} {s:Shared}
end
end Xc
namespace Ev
open PySem PySem.Spec PyProof.Rows L2
section
variable {X:Cx} {C:Ctx} {c:Cxt}
end
end Ev
namespace Ev
open PySem PySem.Spec PyProof.Rows L2
section
variable {P:Program} {w:World} {K:Frag} {mg:Str→Option Value} {base:Heap} {ds:List Def}
end
end Ev
namespace Xc
open PySem PySem.Spec PySem.W PySem.Calls PyProof.Rows L2
section
variable {bb:Bas} {K:Frag} {prog:Program} {C fI cc cda:Addr} {qual x0:Str} {xs:List Str} {params:Arguments} {body rest:List Stmt} {scope:Scope} {e0:Expr} {es:List Expr} {p0 p1 p2 p3 p4:Pos}
 {oc kV doc pm ct ccl cl:Value} {od an cdd cld:Option Addr} {osl ccs csl:Array (Option Value)} {vs:Array Value} {file:Str} {tf:Tok} {ar:Arg}
 {nm q:Str} {N:Addr} {bs bm:List Value} {sn:List Str} {sub:List Value} {ab:Bool} {col:Option Bool} {dd:Option Addr} {k0 k1 k2 k3 k5:Option Value}
end
end Xc
namespace Ev
open PySem PySem.Spec PyProof.Rows L2
section
variable {K:Frag} {mg:Str→Option Value} {C D:Addr} {T:String} {b:Bool} {t v:Value} {r cs:List Value}
end
end Ev
namespace Ob
open PySem PySem.Spec PyProof.Rows L2 Ev
section
variable {P:Program} {w:World} {K:Frag} {mg:Str→Option Value} {base:Heap} {C:Addr}
end
end Ob
namespace Ob
open PySem PySem.Spec PyProof.Rows L2 Ev
section
variable {P:Program} {w:World} {K:Frag} {mg:Str→Option Value} {base:Heap} {C:Addr}
end
end Ob
namespace Ev
open PySem PySem.Spec PyProof.Rows L2
section
variable {K:Frag} {x q:Str} {params:Arguments} {body:List Stmt} {scope:Scope} {f:Addr} {fd:FuncData}
theorem cM {ps:List Str}:∀ p∈([]:List (List Str × List Str)),FP K fd ps p.1 p.2:=fun p a=>by cases a
end
end Ev
namespace Ev
open PySem PySem.Spec PyProof.Rows L2
section
variable {K:Frag} {mg:Str→Option Value} {d:Def} {cn m q:Str} {Ca a p:Addr}
end
end Ev
namespace Ev
open PySem
theorem eW {α:Type} (l:List α) (i:Nat) (x y:α):(l.set i x).set i y=l.set i y:=List.set_set ..
theorem oh {α:Type}:∀ (l:List α) (i:Nat) (x:α),l[i]?=some x→l.set i x=l
 | [],i,x,e=>by simp at e
 | y::l,0,x,e=>by simp at e;simp [e]
 | y::l,i+1,x,e=>by simp only [List.set_cons_succ];rw [oh l i x (by simpa using e)]
theorem pU {set:D→Dl→Option Dl} {test:Dl→Option (Bool × Dl)} {elt:Dl→Option (D × Dl)} {own:List Nat} {p:D→Bool} {f:D→D} {δ:Dl} :
  ∀ (xs acc:List D),(∀ x∈xs,∃ δ1 δ2,set x δ=some δ1∧test δ1=some (p x,δ2)∧(p x=false→aY δ2 own=δ)∧(p x=true→∃ δ3,elt δ2=some (f x,δ3)∧aY δ3 own=δ))→acc.length+xs.length≤cap →
  lcL set test elt own xs acc δ=some (acc++(xs.filter p).map f,δ)
 | [],acc,_,_=>by simp [lcL]
 | x::xs,acc,h,d=>by
  obtain ⟨δ1,δ2,c,b,e,g⟩:=h x (by simp)
  have ih:=fun acc=>pU (set:=set) (test:=test) (elt:=elt) (own:=own) (p:=p) (f:=f) (δ:=δ) xs acc fun y i=>h y (by simp [i])
  simp only [List.length_cons] at d
  cases a:p x with
  | false =>
   rw [a] at b
   simp only [lcL,c,b,e a]
   rw [ih acc (by omega),List.filter_cons_of_neg (by simp [a])]
  | true =>
   obtain ⟨δ3,j,k⟩:=g a
   rw [a] at b
   have lt:acc.length<cap:=by omega
   simp only [lcL,c,b,j,lt,decide_true,if_true,k]
   rw [ih (acc++[f x]) (by simp;omega),List.filter_cons_of_pos a]
   simp
theorem g8 (xs:List D):xs.filter (fun _=>true)=xs:=by simp
theorem Fq {C:Ctx} {n v:Nat} {elt:E} {k:ItK} {its:List E} {δ δ0:Dl} {xs:List D} {f:D→D} (c:C.lock.contains v=false) (hi:dB C n k its δ0=some (xs,δ)) (a:v<δ.length) (d:cH δ [v]=true) (e:xs.length≤cap)
  (he:∀ x∈xs,evV C n elt (δ.set v (some x))=some (f x,δ.set v (some x))) (hn:0<n):evE C (n+1) (.lc elt (.nm v) k its [] [v]) δ0=some (.tmp (.lst true (xs.map f)),δ):=by
 obtain ⟨w,b⟩:∃ w,δ[v]?=some w:=⟨_,List.getElem?_eq_getElem a⟩
 obtain ⟨n,rfl⟩:∃ m,n=m+1:=⟨n-1,by omega⟩
 have g:lcL (setT C.lock (.nm v)) (cu C (n+1) []) (evV C (n+1) elt) [v] xs [] (aY δ [v])=some ([]++(xs.filter fun _=>true).map f,aY δ [v]):=by
  refine pU xs [] (fun x i=>⟨δ.set v (some x),δ.set v (some x),?_,rfl,(fun h=>by cases h),fun _=>⟨δ.set v (some x),he x i,?_⟩⟩) (by simpa using e)
  ·show cR C.lock v x (δ.set v none)=_
   unfold cR
   rw [c,List.length_set,decide_eq_true a]
   simp
  ·show (δ.set v (some x)).set v none=δ.set v none
   rw [eW]
 refine (pq C (n+1) elt (.nm v) k its [] [v] δ0 hi d g).trans ?_
 rw [g8,List.nil_append]
 show some (A.tmp (.lst true (xs.map f)),(δ.set v none).set v (match δ[v]? with
  | some x=>x
  | none=>none))=_
 rw [eW,b]
 simp only
 rw [oh δ v w b]
theorem fR {C:Ctx} {n v:Nat} {elt c:E} {k:ItK} {its:List E} {δ δ0:Dl} {xs:List D} {p:D→Bool} {f:D→D} (e:C.lock.contains v=false) (hi:dB C (n+1) k its δ0=some (xs,δ)) (a:v<δ.length) (g:cH δ [v]=true) (i:xs.length≤cap)
  (ht:∀ x∈xs,evT C n c (δ.set v (some x))=some (p x,δ.set v (some x)))
  (he:∀ x∈xs,p x=true→evV C (n+1) elt (δ.set v (some x))=some (f x,δ.set v (some x))):evE C (n+2) (.lc elt (.nm v) k its [c] [v]) δ0=some (.tmp (.lst true ((xs.filter p).map f)),δ):=by
 obtain ⟨w,b⟩:∃ w,δ[v]?=some w:=⟨_,List.getElem?_eq_getElem a⟩
 have j:lcL (setT C.lock (.nm v)) (cu C (n+1) [c]) (evV C (n+1) elt) [v] xs [] (aY δ [v])=some ([]++(xs.filter p).map f,aY δ [v]):=by
  refine pU xs [] (fun x d=>⟨δ.set v (some x),δ.set v (some x),?_,ht x d,(fun h=>?_),fun h=>⟨δ.set v (some x),he x d h,?_⟩⟩) (by simpa using i)
  ·show cR C.lock v x (δ.set v none)=_
   unfold cR
   rw [e,List.length_set,decide_eq_true a]
   simp
  ·show (δ.set v (some x)).set v none=δ.set v none
   rw [eW]
  ·show (δ.set v (some x)).set v none=δ.set v none
   rw [eW]
 refine (pq C (n+1) elt (.nm v) k its [c] [v] δ0 hi g j).trans ?_
 rw [List.nil_append]
 show some (A.tmp (.lst true ((xs.filter p).map f)),(δ.set v none).set v (match δ[v]? with
  | some x=>x
  | none=>none))=_
 rw [eW,b]
 simp only
 rw [oh δ v w b]
abbrev nt (n:Nat):D:=.int n
abbrev lN (l:List Nat):List D:=l.map nt
abbrev tN (l:List Nat):D:=.tup (l.map nt)
theorem bj:∀ l:List Nat,fzs (l.map nt)=true
 | []=>rfl
 | x::l=>by simp only [List.map_cons,fzs,D.fz,bj l,Bool.and_self]
theorem df:∀ l:List (List Nat),fzs (l.map tN)=true
 | []=>rfl
 | x::l=>by simp only [List.map_cons,fzs,D.fz,df l,bj x,Bool.and_self]
theorem kO:∀ l:List Nat,frzs (l.map nt)=l.map nt
 | []=>rfl
 | x::l=>by simp only [List.map_cons,frzs,D.frz,kO l]
theorem cU:∀ l:List (List Nat),frzs (l.map tN)=l.map tN
 | []=>rfl
 | x::l=>by simp only [List.map_cons,frzs,D.frz,cU l,kO x]
theorem fJ:∀ (n lo st:Nat),aC lo st n=(List.range n).map fun k=>nt (lo+k*st)
 | 0,lo,st=>rfl
 | n+1,lo,st=>by
  have ih:=fJ n (lo+st) st
  simp only [aC]
  rw [show ((lo:Int)+(st:Int))=((lo+st:Nat):Int) by omega,ih,List.range_succ_eq_map]
  simp only [List.map_cons,List.map_map,Nat.zero_mul,Nat.add_zero]
  congr 1
  apply List.map_congr_left
  intro k _
  simp only [Function.comp,Nat.succ_eq_add_one,Nat.add_mul,Nat.one_mul]
  congr 1
  omega
end Ev
namespace Ev
open PySem
theorem xa {i j:Nat} (hi:i≤1000000) (a:j≤1000000):aQ [.int i,.int j]=some (aC i 1 (j-i)):=by
 have e:aQ [.int i,.int j]=if (aU i&&aU j)=true then some (aC i 1 ((j:Int)-(i:Int)).toNat) else none:=by unfold aQ;rfl
 rw [e,Gv hi,Gv a]
 simp only [Bool.and_self,if_true]
 rw [show ((j:Int)-(i:Int)).toNat=j-i by omega]
def up (lo n:Nat):List Nat:=(List.range n).map fun k=>lo+k
theorem rM (lo n:Nat):aC lo 1 n=lN (up lo n):=by
 have:=fJ n lo 1
 simp only [Nat.mul_one] at this
 unfold up lN
 rw [List.map_map]
 exact this
theorem cZ (n:Nat):aC 0 1 n=lN (List.range n):=by
 have:=fJ n 0 1
 simp only [Nat.mul_one,Nat.zero_add] at this
 exact this
theorem wD {α:Type} (em:α→D) (l:List α) (lo hi:Nat):cutD (l.map em) (some (lo:Int)) (some (hi:Int))=((l.drop lo).take (hi-lo)).map em:=by
 unfold cutD sIx
 have a:¬ ((lo:Int)<0):=by omega
 have b:¬ ((hi:Int)<0):=by omega
 simp only [if_neg a,if_neg b,List.length_map]
 rw [← List.map_drop,← List.map_take]
 congr 1
 rw [show (min (lo:Int) (l.length:Int)).toNat=min lo l.length by omega,show (min (hi:Int) (l.length:Int)).toNat=min hi l.length by omega]
 by_cases h:lo≤l.length
 ·rw [Nat.min_eq_left h]
  by_cases h':hi≤l.length
  ·rw [Nat.min_eq_left h']
  ·rw [Nat.min_eq_right (by omega),List.take_of_length_le (by simp),List.take_of_length_le (by simp;omega)]
 ·have z1:l.drop lo=[]:=List.drop_of_length_le (by omega)
  have z2:l.drop (min lo l.length)=[]:=List.drop_of_length_le (by omega)
  rw [z1,z2]
  simp
def aS (t:Nat):Fn:={ n:=2,ps:=1,io:=[],body:=[.ret (.ite (.isi (.var 0) [.list,.tuple]) (.bi .tuple1 [(.lc (.call t [(.var 1)]) (.nm 1) .val [(.var 0)] [] [1])]) (.var 0))] }
mutual
def mN:D→D
 | .tup xs=>.tup (fT xs)
 | .lst _ xs=>.tup (fT xs)
 | .non=>.non
 | .bl b=>.bl b
 | .int i=>.int i
 | .str s=>.str s
 | .scr s=>.scr s
 | .obj _ _=>.non
 | .exc _ _ _=>.non
 | .mob _ _=>.non
 | .dct _ _ _=>.non
 | .dtk _ _ _=>.non
 | .cls _=>.non
 | .tpn _=>.non
def fT:List D→List D
 | []=>[]
 | d::ds=>mN d::fT ds
end
theorem gK:∀ ds:List D,fT ds=ds.map mN
 | []=>rfl
 | d::ds=>by simp only [fT,List.map_cons,gK ds]
mutual
def shape:Nat→D→Bool
 | 0,.tup _=>false
 | 0,.lst _ _=>false
 | n+1,.tup xs=>decide (xs.length≤cap)&&shapes n xs
 | n+1,.lst _ xs=>decide (xs.length≤cap)&&shapes n xs
 | _,.scr _=>false
 | _,.obj _ _=>false
 | _,.exc _ _ _=>false
 | _,.mob _ _=>false
 | _,.dct _ _ _=>false
 | _,.dtk _ _ _=>false
 | _,.cls _=>false
 | _,.tpn _=>false
 | _,_=>true
def shapes:Nat→List D→Bool
 | _,[]=>true
 | n,d::ds=>shape n d&&shapes n ds
end
theorem dP {n:Nat}:∀ {ds:List D},shapes n ds=true→∀ d∈ds,shape n d=true
 | [],_,d,h=>by simp at h
 | x::xs,h,d,hd=>by
  simp only [shapes,Bool.and_eq_true] at h
  rcases List.mem_cons.mp hd with e | e
  ·subst e;exact h.1
  ·exact dP h.2 d e
theorem hJ:∀ {ds:List D},fzs ds=true→∀ d∈ds,d.fz=true
 | [],_,d,h=>by simp at h
 | x::xs,h,d,hd=>by
  simp only [fzs,Bool.and_eq_true] at h
  rcases List.mem_cons.mp hd with e | e
  ·subst e;exact h.1
  ·exact hJ h.2 d e
theorem yp:∀ {ds:List D},(∀ d∈ds,d.fz=true)→fzs ds=true
 | [],_=>rfl
 | x::xs,h=>by simp only [fzs,h x (by simp),yp (ds:=xs) fun d hd=>h d (by simp [hd]),Bool.and_self]
mutual
theorem yx:∀ d:D,d.fz=true→d.frz=d
 | .non,_=>rfl
 | .bl _,_=>rfl
 | .int _,_=>rfl
 | .str _,_=>rfl
 | .scr _,_=>rfl
 | .obj cn xs,h=>by simp only [D.fz] at h;simp only [D.frz,cf xs h]
 | .exc cn nms xs,h=>by simp only [D.fz] at h;simp only [D.frz,cf xs h]
 | .mob _ _,h=>by simp [D.fz] at h
 | .cls _,_=>rfl
 | .tpn xs,h=>by simp only [D.fz] at h;simp only [D.frz,cf xs h]
 | .dct o ks xs,h=>by
  simp only [D.fz,Bool.and_eq_true,Bool.not_eq_true'] at h
  obtain ⟨a,b⟩:=h
  subst a
  simp only [D.frz,cf xs b]
 | .dtk o ks xs,h=>by
  simp only [D.fz,Bool.and_eq_true,Bool.not_eq_true'] at h
  obtain ⟨a,b⟩:=h
  subst a
  simp only [D.frz,cf xs b]
 | .tup xs,h=>by simp only [D.fz] at h;simp only [D.frz,cf xs h]
 | .lst o xs,h=>by
  simp only [D.fz,Bool.and_eq_true,Bool.not_eq_true'] at h
  obtain ⟨a,b⟩:=h
  subst a
  simp only [D.frz,cf xs b]
theorem cf:∀ ds:List D,fzs ds=true→frzs ds=ds
 | [],_=>rfl
 | d::ds,h=>by
  simp only [fzs,Bool.and_eq_true] at h
  simp only [frzs,yx d h.1,cf ds h.2]
end
mutual
theorem AV:∀ d:D,(mN d).fz=true
 | .tup xs=>by simp only [mN,D.fz,gy xs]
 | .lst _ xs=>by simp only [mN,D.fz,gy xs]
 | .non=>rfl
 | .bl _=>rfl
 | .int _=>rfl
 | .str _=>rfl
 | .scr _=>rfl
 | .obj _ _=>rfl
 | .exc _ _ _=>rfl
 | .mob _ _=>rfl
 | .dct _ _ _=>rfl
 | .dtk _ _ _=>rfl
 | .cls _=>rfl
 | .tpn _=>rfl
theorem gy:∀ ds:List D,fzs (fT ds)=true
 | []=>rfl
 | d::ds=>by simp only [fT,fzs,AV d,gy ds,Bool.and_self]
end
theorem dU (C:Ctx) (n:Nat) (e:E) (ss:List S) (δ:Dl) {d:D} {δ1:Dl} (h:evE C n e δ=some (.tmp d,δ1)):bg C (n+2) (.ret e::ss) δ=some (.rt d δ1):=by
 simp only [bg,evS,h]
theorem qR {call:Nat→List D→Option (D × List D)} {io:Nat→List Nat} {t m:Nat} (c:io t=[]) (ih:∀ d:D,d.fz=true→shape m d=true→call t [d]=some (mN d,[])) {d:D} (hd:d.fz=true) (hs:shape (m+1) d=true) :
  dh ⟨call,io,[]⟩ (aS t) [d]=some (mN d,[]):=by
 have no:isObj d=false:=by cases d<;>first | rfl | simp [shape] at hs
 have seq:∀ xs:List D,fzs xs=true→shapes m xs=true→xs.length≤cap→(∀ n,dB ⟨call,io,[]⟩ (n+3) .val [.var 0] [some d,none]=some (xs,[some d,none]))→eR d .list=true∨eR d .tuple=true →
   dh ⟨call,io,[]⟩ (aS t) [d]=some (.tup (fT xs),[]):=fun xs g j l hi ht=>by
  have he:∀ x∈xs,evV ⟨call,io,[]⟩ 94 (.call t [(.var 1)]) ([some d,none].set 1 (some x))=some (mN x,[some d,none].set 1 (some x)):=fun x e=>by
   have:=ih x (hJ g x e) (dP j x e)
   have f:=hJ g x e
   simp [f,c,this]
  have p:=Fq (C:=⟨call,io,[]⟩) (n:=94) (v:=1) (elt:=.call t [(.var 1)]) (k:=.val) (its:=[.var 0]) (δ:=[some d,none]) rfl (hi 91) (by simp) (by simp [cH,slot]) l he (by omega)
  have f2:fzs (xs.map mN)=true:=by rw [← gK];exact gy xs
  have a:([Ty.list,Ty.tuple].any (eR d))=true:=by rcases ht with h | h<;>simp [h]
  have e0:evT ⟨call,io,[]⟩ 97 (.isi (.var 0) [.list,.tuple]) [some d,none]=some (true,[some d,none]):=by
   simp [evT,hd,no] at a ⊢
   exact a
  have q:evE ⟨call,io,[]⟩ 98 (.ite (.isi (.var 0) [.list,.tuple]) (.bi .tuple1 [(.lc (.call t [(.var 1)]) (.nm 1) .val [(.var 0)] [] [1])]) (.var 0)) [some d,none]=some (.tmp (.tup (fT xs)),[some d,none]):=by
   have r:evE ⟨call,io,[]⟩ 97 (.bi .tuple1 [(.lc (.call t [(.var 1)]) (.nm 1) .val [(.var 0)] [] [1])]) [some d,none]=some (.tmp (.tup (fT xs)),[some d,none]):=by
    rw [sA,jO,p]
    simp [f2,gK]
   rw [w8,e0]
   exact r
  unfold dh aS
  simp only [List.length_cons,List.length_nil,if_true]
  show (match bg ⟨call,io,[]⟩ 100 _ [some d,none] with
    | some (.rt d δ)=>(bc δ [] 0 1).map fun o=>(d,o)
    | some (.nx δ)=>(bc δ [] 0 1).map fun o=>(.non,o)
    | _=>none)=_
  rw [dU _ 98 _ _ _ q]
  simp [bc]
 have atom:eR d .list=false→eR d .tuple=false→mN d=d→dh ⟨call,io,[]⟩ (aS t) [d]=some (mN d,[]):=fun u w y=>by
  rw [y]
  simp [dh,aS,bE,evT,hd,u,w,no]
 cases d with
 | tup xs =>
  simp only [D.fz] at hd
  simp only [shape,Bool.and_eq_true,decide_eq_true_eq] at hs
  simp only [mN]
  exact seq xs hd hs.2 hs.1 (fun n=>by simp [hd,cf xs hd]) (.inr rfl)
 | lst o xs =>
  simp only [D.fz,Bool.and_eq_true,Bool.not_eq_true'] at hd
  obtain ⟨rfl,hd⟩:=hd
  simp only [shape,Bool.and_eq_true,decide_eq_true_eq] at hs
  simp only [mN]
  exact seq xs hd hs.2 hs.1 (fun n=>by simp [hd,cf xs hd]) (.inl rfl)
 | scr ns=>simp [shape] at hs
 | obj cn xs=>simp [shape] at hs
 | exc cn nms xs=>simp [shape] at hs
 | mob cn xs=>simp [shape] at hs
 | dct o ks xs=>simp [shape] at hs
 | dtk o ks xs=>simp [shape] at hs
 | cls cn=>simp [shape] at hs
 | tpn xs=>simp [shape] at hs
 | non=>exact atom rfl rfl rfl
 | bl b=>exact atom rfl rfl rfl
 | int i=>exact atom rfl rfl rfl
 | str s=>exact atom rfl rfl rfl
end Ev
namespace Ev
open PySem
theorem aR (C:Ctx) (n:Nat) (s:S) (ss:List S) (δ:Dl) {δ1:Dl} (h:evS C n s δ=some (.nx δ1)):bg C (n+1) (s::ss) δ=bg C n ss δ1:=by
 simp only [bg,h]
theorem zf (C:Ctx) (n i:Nat) (e:E) (δ:Dl) {d:D} {δ1:Dl} (h:evE C n e δ=some (.tmp d,δ1)) (hi:i<δ1.length) (a:C.lock.contains i=false):evS C (n+2) (.asg (.nm i) e) δ=some (.nx (δ1.set i (some d))):=by
 simp only [evS,evV,h,toV,setT,cR,a,decide_eq_true hi,Bool.not_false,Bool.and_self,if_true]
theorem rK (a b:Nat):((a:Int)==(b:Int))=(a==b):=by
 rw [Bool.eq_iff_iff,beq_iff_eq,beq_iff_eq]
 omega
end Ev
namespace Ev
open PySem
theorem eI {C:Ctx} {f:Fn} {ds:List D} {d:D} {δ0 δ:Dl} {outs:List D} (a:ds.length=f.ps) (h0:bE f ds=δ0) (h:bg C 100 f.body δ0=some (.rt d δ)) (b:bc δ f.io 0 f.ps=some outs):dh C f ds=some (d,outs):=by
 unfold dh
 rw [if_pos a,h0,h]
 simp only [b,Option.map_some]
theorem vS (C:Ctx) (n:Nat) (c:E) (a b:List S) (δ:Dl) {δ1:Dl} (h:evT C n c δ=some (true,δ1)):evS C (n+1) (.ifs c a b) δ=bg C n a δ1:=by simp only [evS,h]
theorem p7 (C:Ctx) (n:Nat) (c:E) (a b:List S) (δ:Dl) {δ1:Dl} (h:evT C n c δ=some (false,δ1)):evS C (n+1) (.ifs c a b) δ=bg C n b δ1:=by simp only [evS,h]
theorem gu (C:Ctx) (n:Nat) (δ:Dl):bg C (n+1) [] δ=some (.nx δ):=by simp only [bg]
theorem gO (C:Ctx) (n:Nat) (s:S) (ss:List S) (δ:Dl) {d:D} {δ1:Dl} (h:evS C n s δ=some (.rt d δ1)):bg C (n+1) (s::ss) δ=some (.rt d δ1):=by
 simp only [bg,h]
end Ev
namespace Ev
open PySem
theorem kY {set:D→Dl→Option Dl} {body:Dl→Option Fl} {α:Type} (I:List α→Dl→Prop) (em:α→D) (all:List α)
  (h:∀ pre x post δ,all=pre++x::post→I pre δ→∃ δ1 δ2,set (em x) δ=some δ1∧body δ1=some (.nx δ2)∧I (pre++[x]) δ2) :
  ∀ (xs pre:List α) (δ:Dl),all=pre++xs→I pre δ→∃ δ',forL set body (xs.map em) δ=some (.nx δ')∧I all δ'
 | [],pre,δ,e,i=>⟨δ,rfl,by rw [e,List.append_nil];exact i⟩
 | x::xs,pre,δ,e,i=>by
  obtain ⟨δ1,δ2,a,b,c⟩:=h pre x xs δ e i
  obtain ⟨δ',d,f⟩:=kY (set:=set) (body:=body) I em all h xs (pre++[x]) δ2 (by rw [e];simp) c
  refine ⟨δ',?_,f⟩
  simp only [List.map_cons,forL,a,b]
  exact d
theorem vN (C:Ctx) (n i:Nat) (e:E) (δ:Dl) {d:D} {δ1:Dl} (h:evE C n e δ=some (.bor i [],δ1)) (hs:slot δ1 i=some d) (a:C.lock.contains i=false):evS C (n+1) (.ret e) δ=some (.rt d (δ1.set i none)):=by
 simp only [evS,h,hs,a,if_false,Bool.false_eq_true]
end Ev
namespace Ev
open PySem
theorem nG (k:Nat):∀ l:List Nat,oks k (l.map nt)=true
 | []=>by simp
 | x::l=>by simp only [List.map_cons,iF,yY,nG k l,Bool.and_self]
def tR (call:Nat→List D→Option (D × List D)) (it:Nat):Prop:=∀ d c (b:Nat),Box c d→c<1000000000000→0<b→b<1000000000→∃ (r:Nat) (d':D),call it [d,.int b]=some (.int r,[d'])∧r<b∧Box (c+1) d'
theorem Ax {T:List Fn} {k it:Nat} (h:T[it]?=some aZ):tR (evF T (k+1)) it:=by
 intro d c b a f h0 i
 obtain ⟨r,d',e,j,l,g⟩:=zR (call:=evF T k) (io:=fun h=>((T[h]?).map (·.io)).getD []) a f (b:=b) (by omega) (by omega)
 refine ⟨r.toNat,d',?_,by omega,g⟩
 rw [bK h]
 rw [show ((r.toNat:Nat):Int)=r by omega]
 exact e
theorem nF {c:Int} {d:D} (h:Box c d):∃ xs,d=.lst true xs∧fzs xs=true∧eE xs=true:=by
 obtain ⟨x0,a,x2,rfl,_⟩:=h
 exact ⟨_,rfl,rfl,rfl⟩
end Ev
namespace Ev
open PySem
theorem jj {T:List Fn} {it:Nat} (h:T[it]?=some (aS it)):∀ (m:Nat) (d:D),d.fz=true→shape m d=true→evF T (m+1) it [d]=some (mN d,[])
 | m,d,hd,hs=>by
  rw [bK h]
  have b:(fun h=>((T[h]?).map (·.io)).getD []) it=[]:=by simp [h,aS]
  cases m with
  | zero =>
   have a:eR d .list=false∧eR d .tuple=false∧mN d=d∧isObj d=false:=by
    cases d<;>first | exact ⟨rfl,rfl,rfl,rfl⟩ | simp [shape] at hs
   rw [a.2.2.1]
   simp [dh,aS,bE,evT,hd,a.1,a.2.1,a.2.2.2]
  | succ m=>exact qR b (fun d hd hs=>jj h m d hd hs) hd hs
theorem sh {T:List Fn} {it k:Nat} (h:T[it]?=some (aS it)) {d:D} (hd:d.fz=true) (hs:shape k d=true):evF T (k+1) it [d]=some (mN d,[]):=jj h k d hd hs
end Ev
namespace Ev
open PySem
theorem DO {C:Ctx} {n:Nat} {elt:E} {tg:Tg} {own:List Nat} {k:ItK} {its:List E} {δ δ0:Dl} {xs:List D} {f:D→D} (hi:dB C n k its δ0=some (xs,δ)) (a:cH δ own=true) (b:xs.length≤cap) (c:gh δ (aY δ own) own=δ)
  (he:∀ x∈xs,∃ δ1 δ2,setT C.lock tg x (aY δ own)=some δ1∧evV C n elt δ1=some (f x,δ2)∧aY δ2 own=aY δ own) (hn:0<n):evE C (n+1) (.lc elt tg k its [] own) δ0=some (.tmp (.lst true (xs.map f)),δ):=by
 obtain ⟨n,rfl⟩:∃ m,n=m+1:=⟨n-1,by omega⟩
 have d:lcL (setT C.lock tg) (cu C (n+1) []) (evV C (n+1) elt) own xs [] (aY δ own)=some ([]++(xs.filter fun _=>true).map f,aY δ own):=by
  refine pU xs [] (fun x e=>?_) (by simpa using b)
  obtain ⟨δ1,δ2,g,i,j⟩:=he x e
  exact ⟨δ1,δ1,g,rfl,(fun h=>by cases h),fun _=>⟨δ2,i,j⟩⟩
 refine (pq C (n+1) elt tg k its [] own δ0 hi a d).trans ?_
 rw [g8,List.nil_append,c]
def aK (s:Nat):Fn:={ n:=5,ps:=2,io:=[],body:=[.ifs (.isi (.var 1) [.list,.tuple]) [.ifs (.bor [(.cmp .ne (.isi (.var 0) [.list]) (.isi (.var 1) [.list])),(.cmp .ne (.isi (.var 0) [.tuple]) (.isi (.var 1) [.tuple]))]) [.ret (.bl false)] [],
  .ret (.band [(.cmp .eq (.bi .len [(.var 0)]) (.bi .len [(.var 1)])),(.bi .all1 [(.lc (.call s [(.var 3),(.var 4)]) (.tp [3,4]) .zip [(.var 0),(.var 1)] [] [3,4])])])] [],
  .ifs (.isi (.var 1) [.dict]) [.ifs (.bor [(.bnot (.isi (.var 0) [.dict])),(.cmp .ne (.bi .len [(.var 0)]) (.bi .len [(.var 1)])),(.cmp .ne (.lc (.var 2) (.nm 2) .val [(.var 1)] [(.cmp .notin (.var 2) (.var 0))] [2]) (.lst []))]) [.ret (.bl false)] [],
  .ret (.bi .all1 [(.lc (.call s [(.sub (.var 0) (.var 2)),(.sub (.var 1) (.var 2))]) (.nm 2) .val [(.var 1)] [] [2])])] [],
  .ifs (.bor [(.cmp .isn (.var 1) .non),(.isi (.var 1) [.bool,.str])]) [.ret (.band [(.cmp .eq (.var 0) (.var 1)),(.cmp .eq (.isi (.var 0) [.bool]) (.isi (.var 1) [.bool])),(.cmp .eq (.cmp .isn (.var 0) .non) (.cmp .isn (.var 1) .non))])] [],
  .ret (.band [(.isi (.var 0) [.int]),(.bnot (.isi (.var 0) [.bool])),(.cmp .eq (.var 0) (.var 1))])] }
def sam (m:Nat) (d:D):Prop:=d.fz=true∧shape m d=true∧d.ok m=true
theorem lj:∀ xs:List D,jE xs xs=xs.map fun x=>.tup [x,x]
 | []=>rfl
 | x::xs=>by simp only [jE,List.map_cons,lj xs]
theorem og {n:Nat}:∀ {ds:List D},oks n ds=true→∀ d∈ds,d.ok n=true
 | [],_,d,h=>by simp at h
 | x::xs,h,d,hd=>by
  simp only [iF,Bool.and_eq_true] at h
  rcases List.mem_cons.mp hd with e | e
  ·subst e;exact h.1
  ·exact og h.2 d e
theorem lH (xs:List D):boolsOf (xs.map fun _=>D.bl true)=some (xs.map fun _=>true):=fw xs
mutual
theorem D.eq_self:∀ {k:Nat} (d:D),d.ok k=true→d.eq d=true
 | _,.non,_=>rfl
 | _,.bl b,_=>by simp
 | _,.int i,_=>by simp
 | _,.str s,_=>by simp
 | k+1,.tup xs,h=>by rw [uo] at h;rw [zH];exact kW xs h
 | k+1,.lst o xs,h=>by rw [r9] at h;rw [AU];exact kW xs h
 | 0,.tup xs,h=>by simp [D.ok] at h
 | 0,.lst o xs,h=>by simp [D.ok] at h
 | k,.scr _,h=>by cases k<;>simp [D.ok] at h
 | k,.obj _ _,h=>by cases k<;>simp [D.ok] at h
 | k,.exc _ _ _,h=>by cases k<;>simp [D.ok] at h
 | k,.mob _ _,h=>by cases k<;>simp [D.ok] at h
 | k,.dct _ _ _,h=>by cases k<;>simp [D.ok] at h
 | k,.dtk _ _ _,h=>by cases k<;>simp [D.ok] at h
 | k,.cls _,h=>by cases k<;>simp [D.ok] at h
 | k,.tpn _,h=>by cases k<;>simp [D.ok] at h
theorem kW:∀ {k:Nat} (ds:List D),oks k ds=true→eqs ds ds=true
 | _,[],_=>rfl
 | k,d::ds,h=>by
  simp only [iF,Bool.and_eq_true] at h
  rw [sJ,D.eq_self d h.1,kW ds h.2]
  rfl
end
section
variable {call:Nat→List D→Option (D × List D)} {io:Nat→List Nat} {s m:Nat}
theorem jF (e:io s=[]) (ih:∀ d:D,sam m d→call s [d,d]=some (.bl true,[])) {g d:D} {xs:List D} (i:∀ x∈xs,sam m x) (j:xs.length≤cap)
  (h:(∃ o p,g=.lst o xs∧d=.lst p xs)∨(g=.tup xs∧d=.tup xs)):dh ⟨call,io,[]⟩ (aK s) [g,d]=some (.bl true,[]):=by
 have a:fzs xs=true:=yp fun x h=>(i x h).1
 have fr:frzs xs=xs:=cf xs a
 have zs:=lj xs
 obtain ⟨b,d',hi,v,fd⟩:∃ b d',(∀ n,dB ⟨call,io,[]⟩ (n+5) .zip [(.var 0),(.var 1)] [some g,some d,none,none,none]=some (xs.map fun x=>.tup [x,x],[some b,some d',none,none,none]))∧b.fz=true∧d'.fz=true:=by
  rcases h with ⟨o,p,rfl,rfl⟩ | ⟨rfl,rfl⟩
  ·refine ⟨.lst false xs,.lst false xs,fun n=>?_,by simp [a],by simp [a]⟩
   cases o<;>cases p<;>simp [a,fr,zs]
  ·exact ⟨.tup xs,.tup xs,fun n=>by simp [a,fr,zs],by simp [a],by simp [a]⟩
 have k:∀ n,evE ⟨call,io,[]⟩ (n+10) (.lc (.call s [(.var 3),(.var 4)]) (.tp [3,4]) .zip [(.var 0),(.var 1)] [] [3,4]) [some g,some d,none,none,none]=some (.tmp (.lst true (xs.map fun _=>.bl true)),[some b,some d',none,none,none]):=fun n=>by
  refine (DO (C:=⟨call,io,[]⟩) (n:=n+9) (f:=fun _=>.bl true) (hi (n+4)) rfl (by simpa using j) rfl (fun y l=>?_) (by omega)).trans ?_
  ·obtain ⟨x,c,rfl⟩:=List.mem_map.mp l
   obtain ⟨f1,_,_⟩:=i x c
   have q:=ih x (i x c)
   exact ⟨[some b,some d',none,some x,some x],[some b,some d',none,some x,some x],by simp [aY,f1],by simp [f1,e,q],rfl⟩
  ·rw [List.map_map];rfl
 have r:=lH xs
 have al:((xs.map fun _=>true).all id)=true:=all_true xs
 have t1:evT ⟨call,io,[]⟩ 98 (.isi (.var 1) [.list,.tuple]) [some g,some d,none,none,none]=some (true,[some g,some d,none,none,none]):=by
  rcases h with ⟨o,p,rfl,rfl⟩ | ⟨rfl,rfl⟩
  ·cases p<;>simp [a,eR]
  ·simp [a,eR]
 have t2:evT ⟨call,io,[]⟩ 96 (.bor [(.cmp .ne (.isi (.var 0) [.list]) (.isi (.var 1) [.list])),(.cmp .ne (.isi (.var 0) [.tuple]) (.isi (.var 1) [.tuple]))]) [some g,some d,none,none,none]=some (false,[some g,some d,none,none,none]):=by
  rcases h with ⟨o,p,rfl,rfl⟩ | ⟨rfl,rfl⟩
  ·cases o<;>cases p<;>simp [a,eR,plain]
  ·simp [a,eR,plain]
 have t:evE ⟨call,io,[]⟩ 93 (.cmp .eq (.bi .len [(.var 0)]) (.bi .len [(.var 1)])) [some g,some d,none,none,none]=some (.tmp (.bl true),[some g,some d,none,none,none]):=by
  rcases h with ⟨o,p,rfl,rfl⟩ | ⟨rfl,rfl⟩
  ·cases o<;>cases p<;>simp [a,plain]
  ·simp [a,plain]
 have u:evE ⟨call,io,[]⟩ 95 (.band [(.cmp .eq (.bi .len [(.var 0)]) (.bi .len [(.var 1)])),(.bi .all1 [(.lc (.call s [(.var 3),(.var 4)]) (.tp [3,4]) .zip [(.var 0),(.var 1)] [] [3,4])])]) [some g,some d,none,none,none]=some (.tmp (.bl true),[some b,some d',none,none,none]):=by
  rw [sP,xT,t]
  simp only [lX,AD]
  rw [xB,sA,jO,k 80]
  simp only [oq,zG,oj,qn,lX,zk,r,al]
 refine eI (f:=aK s) rfl rfl (δ:=[some b,some d',none,none,none]) ?_ rfl
 refine gO _ 99 _ _ _ ((vS _ 98 _ _ _ _ t1).trans ?_)
 refine (aR _ 97 _ _ _ ((p7 _ 96 _ _ _ _ t2).trans (gu _ 95 _))).trans ?_
 exact dU _ 95 _ _ _ u
theorem tK {d:D} (h:sam 0 d):dh ⟨call,io,[]⟩ (aK s) [d,d]=some (.bl true,[]):=by
 obtain ⟨e,a,c⟩:=h
 cases d with
 | non=>simp [dh,aK,bE,eR,plain,D.eq,isNon]
 | bl b=>simp [dh,aK,bE,eR,plain,D.eq,isNon]
 | int i=>simp [dh,aK,bE,eR,plain,D.eq,isNon]
 | str x =>
  rw [ux] at c
  simp [dh,aK,bE,eR,plain,D.eq,isNon,c]
 | tup xs=>simp [shape] at a
 | lst o xs=>simp [shape] at a
 | scr _=>simp [shape] at a
 | obj _ _=>simp [shape] at a
 | exc _ _ _=>simp [shape] at a
 | mob _ _=>simp [shape] at a
 | dct _ _ _=>simp [shape] at a
 | dtk _ _ _=>simp [shape] at a
 | cls _=>simp [shape] at a
 | tpn _=>simp [shape] at a
end
theorem tI {m:Nat} {xs:List D} (h:sam (m+1) (.tup xs)):(∀ x∈xs,sam m x)∧xs.length≤cap:=by
 obtain ⟨c,a,d⟩:=h
 simp only [uK] at c
 simp only [shape,Bool.and_eq_true,decide_eq_true_eq] at a
 rw [uo] at d
 exact ⟨fun x b=>⟨hJ c x b,dP a.2 x b,og d x b⟩,a.1⟩
theorem tV {m:Nat} {o:Bool} {xs:List D} (h:sam (m+1) (.lst o xs)):(∀ x∈xs,sam m x)∧xs.length≤cap:=by
 obtain ⟨c,a,d⟩:=h
 simp only [tF,Bool.and_eq_true] at c
 simp only [shape,Bool.and_eq_true,decide_eq_true_eq] at a
 rw [r9] at d
 exact ⟨fun x b=>⟨hJ c.2 x b,dP a.2 x b,og d x b⟩,a.1⟩
theorem wW {m:Nat} {d:D} (h:sam m d) (ht:∀ xs,d≠.tup xs) (b:∀ o xs,d≠.lst o xs):sam 0 d:=by
 obtain ⟨c,a,e⟩:=h
 cases d with
 | tup xs=>exact absurd rfl (ht xs)
 | lst o xs=>exact absurd rfl (b o xs)
 | scr ns=>cases m<;>simp [shape] at a
 | obj _ _=>cases m<;>simp [shape] at a
 | exc _ _ _=>cases m<;>simp [shape] at a
 | mob _ _=>cases m<;>simp [shape] at a
 | dct _ _ _=>cases m<;>simp [shape] at a
 | dtk _ _ _=>cases m<;>simp [shape] at a
 | cls _=>cases m<;>simp [shape] at a
 | tpn _=>cases m<;>simp [shape] at a
 | str x=>rw [sam,ux] at *;exact ⟨c,rfl,e⟩
 | _=>exact ⟨rfl,rfl,by simp⟩
theorem jD {T:List Fn} {s:Nat} (h:T[s]?=some (aK s)):∀ (m:Nat) (d:D),sam m d→evF T (m+1) s [d,d]=some (.bl true,[])
 | m,d,hd=>by
  rw [bK h]
  have a:(fun h=>((T[h]?).map (·.io)).getD []) s=[]:=by simp [h,aK]
  cases d with
  | tup xs =>
   cases m with
   | zero=>simp [sam,shape] at hd
   | succ m=>exact jF a (fun d hd=>jD h m d hd) (tI hd).1 (tI hd).2 (.inr ⟨rfl,rfl⟩)
  | lst o xs =>
   cases m with
   | zero=>simp [sam,shape] at hd
   | succ m=>exact jF a (fun d hd=>jD h m d hd) (tV hd).1 (tV hd).2 (.inl ⟨o,o,rfl,rfl⟩)
  | _=>exact tK (wW hd (fun _ h=>by cases h) fun _ _ h=>by cases h)
theorem qg {T:List Fn} {s:Nat} (h:T[s]?=some (aK s)) (m:Nat) (o p:Bool) (xs:List D) (a:∀ x∈xs,sam m x) (b:xs.length≤cap):evF T (m+2) s [.lst o xs,.lst p xs]=some (.bl true,[]):=by
 rw [bK h]
 exact jF (by simp [h,aK]) (fun d hd=>jD h m d hd) a b (.inl ⟨o,p,rfl,rfl⟩)
end Ev
namespace Ev
open PySem
end Ev
namespace Ev
open PySem
section
variable {call:Nat→List D→Option (D × List D)} {io:Nat→List Nat} {ic ib ir:Nat} {ns cs:List Int}
end
end Ev
namespace Ev
open PySem
section
variable {call:Nat→List D→Option (D × List D)} {io:Nat→List Nat}
end
def bo (n:Nat) (rows:List (List Nat)):List (List Nat):=rows.flatMap fun row=>((List.range n).filter fun own=>!row.contains own).map fun own=>row++[own]
def eZ (n:Nat):Nat→List (List Nat)
 | 0=>[[]]
 | k+1=>bo n (eZ n k)
def cG (n:Nat):List (List Nat):=eZ n n
def fH:List S:=[.asg (.nm 3) (.bin .add (.var 3) (.lc (.bin .add (.var 4) (.tup [(.var 5)])) (.nm 5) .range [(.var 0)] [(.cmp .notin (.var 5) (.var 4))] [5]))]
def aV:Fn:={ n:=6,ps:=1,io:=[],body:=[.asg (.nm 1) (.lst [(.tup [])]),
  .for_ (.nm 2) .range [(.var 0)] [.asg (.nm 3) (.lst []),
  .for_ (.nm 4) .val [(.var 1)] fH,
  .asg (.nm 1) (.var 3)],
  .ret (.var 1)] }
theorem fM (x:Nat):∀ l:List Nat,(l.map nt).any (fun y=>y.eq (nt x))=l.contains x
 | []=>rfl
 | y::l=>by
  have ih:=fM x l
  simp only [List.map_cons,List.any_cons,Ab,rK,List.contains_cons,ih]
  rw [BEq.comm]
theorem gU:∀ l:List Nat,eE (l.map nt)=true
 | []=>rfl
 | x::l=>by simp only [List.map_cons,eE,D.flat,gU l,Bool.and_self]
section
variable {call:Nat→List D→Option (D × List D)} {io:Nat→List Nat} {n:Nat} {a1 a2:Option D} {acc:List (List Nat)} {row:List Nat}
theorem jZ (hn:n≤100) (h:acc.length≤900000) (i:row.length≤1000) (m:Nat) :
  bg ⟨call,io,[]⟩ (m+30) fH [some (.int n),a1,a2,some (.lst true (acc.map tN)),some (tN row),none] =
   some (.nx [some (.int n),a1,a2,some (.lst true ((acc++((List.range n).filter fun own=>!row.contains own).map fun own=>row++[own]).map tN)),some (tN row),none]):=by
 have fr:=bj row
 have b:=df acc
 have hi:dB ⟨call,io,[]⟩ (m+23) .range [(.var 0)] [some (.int n),a1,a2,some (.lst true (acc.map tN)),some (tN row),none]=some ((List.range n).map nt,[some (.int n),a1,a2,some (.lst true (acc.map tN)),some (tN row),none]):=by
  simp [cK (t:=n) (by omega),cZ]
 have e:evE ⟨call,io,[]⟩ (m+24) (.lc (.bin .add (.var 4) (.tup [(.var 5)])) (.nm 5) .range [(.var 0)] [(.cmp .notin (.var 5) (.var 4))] [5]) [some (.int n),a1,a2,some (.lst true (acc.map tN)),some (tN row),none] =
   some (.tmp (.lst true ((((List.range n).filter fun own=>!row.contains own).map fun own=>row++[own]).map tN)),[some (.int n),a1,a2,some (.lst true (acc.map tN)),some (tN row),none]):=by
  refine (fR (C:=⟨call,io,[]⟩) (n:=m+22) (v:=5) (p:=fun d=>match d with
   | .int z=>!row.contains z.toNat
   | _=>false) (f:=fun d=>match d with
   | .int z=>tN (row++[z.toNat])
   | _=>.non) rfl hi (by simp) (by simp [cH]) (by simp [cap];omega) (fun x a=>?_) (fun x a j=>?_)).trans ?_
  ·obtain ⟨w,_,rfl⟩:=List.mem_map.mp a
   have an:=fM w row
   have fl:=gU row
   refine Eq.trans ?_ (show some (!row.contains w,[some (.int n),a1,a2,some (.lst true (acc.map tN)),some (tN row),none].set 5 (some (nt w)))=_ from rfl)
   generalize row.contains w=c at *
   simp [fr,lC,D.flat,fl,an]
  ·obtain ⟨w,_,rfl⟩:=List.mem_map.mp a
   have l1:row.length+1≤1000000:=by omega
   simp [fr,l1,cap]
  ·simp only [List.filter_map,List.map_map]
   simp [Function.comp_def]
 have lc:acc.length+(((List.range n).filter fun own=>!row.contains own).map fun own=>row++[own]).length≤cap:=by
  have:=List.length_filter_le (fun own=>!row.contains own) (List.range n)
  simp only [List.length_map,List.length_range] at this ⊢
  unfold cap
  omega
 generalize k:((List.range n).filter fun own=>!row.contains own).map (fun own=>row++[own])=z at *
 have fz:=df z
 have g:evE ⟨call,io,[]⟩ (m+27) (.bin .add (.var 3) (.lc (.bin .add (.var 4) (.tup [(.var 5)])) (.nm 5) .range [(.var 0)] [(.cmp .notin (.var 5) (.var 4))] [5])) [some (.int n),a1,a2,some (.lst true (acc.map tN)),some (tN row),none] =
   some (.tmp (.lst true ((acc++z).map tN)),[some (.int n),a1,a2,some (.lst true (acc.map tN)),some (tN row),none]):=by
  rw [vZ,jO,wt]
  simp only [nN,om,tF,b,Bool.not_true,Bool.false_and,Bool.false_eq_true,if_false,n9]
  rw [jO,e]
  simp [b,fz,lc]
 unfold fH
 refine (aR _ (m+29) _ _ _ (zf _ (m+27) 3 _ _ g (by simp) rfl)).trans ?_
 rw [gu]
 rfl
theorem nX {n:Nat} {rows:List (List Nat)} {L:Nat} (h:∀ r∈rows,r.length≤L):∀ r∈bo n rows,r.length≤L+1:=by
 intro r a
 obtain ⟨row,b,c⟩:=List.mem_flatMap.mp a
 obtain ⟨own,_,rfl⟩:=List.mem_map.mp c
 have:=h row b
 simp
 exact this
theorem eQ (n:Nat):∀ rows:List (List Nat),(bo n rows).length≤rows.length*n
 | []=>by simp [bo]
 | r::rows=>by
  have ih:=eQ n rows
  have h:=List.length_filter_le (fun own=>!r.contains own) (List.range n)
  simp only [bo,List.flatMap_cons,List.length_append,List.length_map,List.length_cons,List.length_range] at ih h ⊢
  rw [Nat.add_mul,Nat.one_mul]
  omega
theorem tA (hn:n≤100) {rows:List (List Nat)} (c:∀ r∈rows,r.length≤1000) (f:rows.length≤9000) {o:Bool} {a2 a3 a4:Option D} (m:Nat) :
  ∃ b a,bg ⟨call,io,[]⟩ (m+50) [.asg (.nm 3) (.lst []),.for_ (.nm 4) .val [(.var 1)] fH,.asg (.nm 1) (.var 3)] [some (.int n),some (.lst o (rows.map tN)),a2,a3,a4,none] =
   some (.nx [some (.int n),some (.lst false ((bo n rows).map tN)),a2,b,a,none]):=by
 have fr:=df rows
 have fz:=cU rows
 have hi:dB ⟨call,io,[]⟩ (m+47) .val [(.var 1)] [some (.int n),some (.lst o (rows.map tN)),a2,some (.lst true []),a4,none]=some (rows.map tN,[some (.int n),some (.lst false (rows.map tN)),a2,some (.lst true []),a4,none]):=by
  cases o<;>simp [fr,fz]
 obtain ⟨δ',d,a,e⟩:=kY (set:=setT [] (.nm 4)) (body:=bg ⟨call,io,[]⟩ (m+47) fH)
  (fun pre δ=>∃ a,δ=[some (.int n),some (.lst false (rows.map tN)),a2,some (.lst true ((bo n pre).map tN)),a,none]) tN rows
  (fun pre x post δ eq i=>by
   obtain ⟨a,rfl⟩:=i
   have p1:pre.length≤9000:=by
    have:=congrArg List.length eq
    simp at this
    omega
   have p2:=eQ n pre
   have p3:pre.length*n≤9000*100:=Nat.mul_le_mul p1 hn
   have h:=jZ (call:=call) (io:=io) (a1:=some (.lst false (rows.map tN))) (a2:=a2) (acc:=bo n pre) (row:=x) hn (by omega) (c x (by rw [eq];simp)) (m+17)
   refine ⟨[some (.int n),some (.lst false (rows.map tN)),a2,some (.lst true ((bo n pre).map tN)),some (tN x),none],_,by simp,h,some (tN x),?_⟩
   simp [bo]) rows [] [some (.int n),some (.lst false (rows.map tN)),a2,some (.lst true []),a4,none] (by simp) ⟨a4,rfl⟩
 subst e
 have g:=df (bo n rows)
 have j:=cU (bo n rows)
 refine ⟨some (.lst false ((bo n rows).map tN)),a,?_⟩
 refine (aR _ (m+49) _ _ _ (δ1:=[some (.int n),some (.lst o (rows.map tN)),a2,some (.lst true []),a4,none]) (by simp [cap])).trans ?_
 refine (aR _ (m+48) _ _ _ (eh _ (m+47) _ _ _ _ _ hi d)).trans ?_
 refine (aR _ (m+47) _ _ _ (δ1:=[some (.int n),some (.lst false ((bo n rows).map tN)),a2,some (.lst false ((bo n rows).map tN)),a,none]) ?_).trans (gu _ (m+46) _)
 generalize (bo n rows).map tN=y at *
 cases y<;>simp_all
end
theorem cx (n:Nat):∀ k,(∀ r∈eZ n k,r.length≤k)∧(eZ n k).length≤n ^ k
 | 0=>by simp [eZ]
 | k+1=>by
  obtain ⟨a,b⟩:=cx n k
  refine ⟨nX a,?_⟩
  have:=eQ n (eZ n k)
  have q:(eZ n k).length*n≤n ^ k*n:=Nat.mul_le_mul_right n b
  show (bo n (eZ n k)).length≤n ^ (k+1)
  rw [Nat.pow_succ]
  omega
end Ev
namespace Ev
open PySem
theorem xq {call:Nat→List D→Option (D × List D)} {io:Nat→List Nat} {n:Nat} (hn:n≤100) (hk:∀ k,k≤n→(eZ n k).length≤9000):dh ⟨call,io,[]⟩ aV [.int n]=some (.lst false ((cG n).map tN),[])∨dh ⟨call,io,[]⟩ aV [.int n]=some (.lst true ((cG n).map tN),[]):=by
 have hi:dB ⟨call,io,[]⟩ 97 .range [(.var 0)] [some (.int n),some (.lst true [tN []]),none,none,none,none]=some ((List.range n).map nt,[some (.int n),some (.lst true [tN []]),none,none,none,none]):=by
  simp [cK (t:=n) (by omega),cZ]
 obtain ⟨δ',c,o,a2,a3,a4,d⟩:=kY (set:=setT [] (.nm 2)) (body:=bg ⟨call,io,[]⟩ 97 [.asg (.nm 3) (.lst []),.for_ (.nm 4) .val [(.var 1)] fH,.asg (.nm 1) (.var 3)])
  (fun pre δ=>∃ o a2 a3 a4,δ=[some (.int n),some (.lst o ((eZ n pre.length).map tN)),a2,a3,a4,none]) nt (List.range n)
  (fun pre x post δ eq i=>by
   obtain ⟨o,a2,a3,a4,rfl⟩:=i
   have p1:pre.length<n:=by
    have:=congrArg List.length eq
    simp at this
    omega
   obtain ⟨a,b,h⟩:=tA (call:=call) (io:=io) (a2:=some (nt x)) (a3:=a3) (a4:=a4) (o:=o) hn (rows:=eZ n pre.length) (fun r e=>by have:=(cx n pre.length).1 r e;omega) (hk _ (by omega)) 47
   refine ⟨[some (.int n),some (.lst o ((eZ n pre.length).map tN)),some (nt x),a3,a4,none],_,by simp,h,false,some (nt x),a,b,?_⟩
   rw [List.length_append]
   rfl) (List.range n) [] [some (.int n),some (.lst true [tN []]),none,none,none,none] (by simp) ⟨true,none,none,none,rfl⟩
 rw [List.length_range] at d
 subst d
 have s1:evS ⟨call,io,[]⟩ 99 (.asg (.nm 1) (.lst [(.tup [])])) [some (.int n),none,none,none,none,none]=some (.nx [some (.int n),some (.lst true [tN []]),none,none,none,none]):=by simp [cap]
 have f:=df (cG n)
 cases o with
 | false =>
  left
  refine eI (f:=aV) (δ0:=[some (.int n),none,none,none,none,none]) rfl rfl (δ:=[some (.int n),some (.lst false ((cG n).map tN)),a2,a3,a4,none]) ?_ rfl
  refine (aR _ 99 _ _ _ s1).trans ((aR _ 98 _ _ _ (eh _ 97 _ _ _ _ _ hi c)).trans ?_)
  refine dU _ 96 _ _ _ ?_
  show evE _ 96 (.var 1) [some (.int n),some (.lst false ((cG n).map tN)),a2,a3,a4,none]=_
  simp [f]
 | true =>
  right
  refine eI (f:=aV) (δ0:=[some (.int n),none,none,none,none,none]) rfl rfl (δ:=[some (.int n),none,a2,a3,a4,none]) ?_ rfl
  refine (aR _ 99 _ _ _ s1).trans ((aR _ 98 _ _ _ (eh _ 97 _ _ _ _ _ hi c)).trans ?_)
  refine gO _ 97 _ _ _ ?_
  refine (vN _ 96 1 _ _ (δ1:=[some (.int n),some (.lst true ((cG n).map tN)),a2,a3,a4,none]) ?_ rfl rfl)
  show evE _ 96 (.var 1) [some (.int n),some (.lst true ((cG n).map tN)),a2,a3,a4,none]=_
  simp [f]
section
variable {call:Nat→List D→Option (D × List D)} {io:Nat→List Nat} {size:Nat} {line:List Nat}
end
end Ev
namespace Ev.Bu
def u7 (size:Nat):Nat→List Nat→Option Nat
 | _,[]=>none
 | k,x::xs=>if k+size<x+1 then some k else u7 size (k+1) xs
def tw (size:Nat) (row:List Nat):Option Nat:=u7 size 0 row
end Ev.Bu
namespace Ev.Bu
open PySem Ev
def jX:List S:=[.ifs (.cmp .gt (.var 3) (.bin .sub (.bin .add (.var 2) (.var 0)) (.int 1))) [.ret (.var 2)] []]
def aP (it:Nat):Fn:={ n:=4,ps:=2,io:=[],body:=[.for_ (.tp [2,3]) .enum [(.call it [(.var 1)])] jX,
  .ret .non] }
def bB (it:Nat):Fn:={ n:=2,ps:=2,io:=[],body:=[.ret (.cmp .isn (.call it [(.var 0),(.var 1)]) .non)] }
def optN:Option Nat→D
 | some j=>nt j
 | none=>.non
section
variable {call:Nat→List D→Option (D × List D)} {io:Nat→List Nat}
theorem oW {size:Nat} {d:Option D}:∀ (rest:List Nat) (k:Nat) (a2 a3:Option D),∃ δ',forL (setT [] (.tp [2,3])) (bg ⟨call,io,[]⟩ 99 jX) (cT k (rest.map nt)) [some (.int size),d,a2,a3] =
  match u7 size k rest with
  | some j=>some (.rt (nt j) δ')
  | none=>some (.nx δ')
 | [],k,a2,a3=>⟨_,rfl⟩
 | x::xs,k,a2,a3=>by
  have s:setT [] (.tp [2,3]) (.tup [.int k,nt x]) [some (.int size),d,a2,a3]=some [some (.int size),d,some (nt k),some (nt x)]:=by simp
  simp only [List.map_cons,cT,forL,s]
  unfold u7
  by_cases h:k+size<x+1
  ·rw [if_pos h]
   have h':(k:Int)+size-1<x:=by omega
   refine ⟨[some (.int size),d,some (nt k),some (nt x)],?_⟩
   simp [jX,h']
  ·rw [if_neg h]
   have h':¬ (k:Int)+size-1<x:=by omega
   obtain ⟨δ',e⟩:=oW (size:=size) (d:=d) xs (k+1) (some (nt k)) (some (nt x))
   refine ⟨δ',?_⟩
   rw [← e]
   simp [jX,h']
theorem AQ {it size:Nat} {d:D} {row:List Nat} (hit:io it=[]) (fd:d.fz=true) (ht:call it [d]=some (tN row,[])):dh ⟨call,io,[]⟩ (aP it) [.int size,d]=some (optN (tw size row),[]):=by
 obtain ⟨δ',h⟩:=oW (call:=call) (io:=io) (size:=size) (d:=some d) row 0 none none
 have f:=bj row
 have q:=kO row
 have hi:dB ⟨call,io,[]⟩ 99 .enum [(.call it [(.var 1)])] [some (.int size),some d,none,none]=some (cT 0 (row.map nt),[some (.int size),some d,none,none]):=by
  simp [hit,ht,fd,f,q]
 unfold tw
 cases he:u7 size 0 row with
 | none =>
  rw [he] at h
  refine eI (f:=aP it) (δ0:=[some (.int size),some d,none,none]) rfl rfl (δ:=δ') ?_ (by simp [aP])
  refine (aR _ 99 _ _ _ (eh _ 98 _ _ _ _ _ (by simpa using hi) h)).trans ?_
  exact dU _ 97 _ _ _ (by simp [optN])
 | some j =>
  rw [he] at h
  refine eI (f:=aP it) (δ0:=[some (.int size),some d,none,none]) rfl rfl (δ:=δ') ?_ (by simp [aP])
  exact gO _ 99 _ _ _ (eh _ 98 _ _ _ _ _ (by simpa using hi) h)
theorem yV {it size:Nat} {d:D} {row:List Nat} (hit:io it=[]) (fd:d.fz=true) (ht:call it [.int size,d]=some (optN (tw size row),[])):dh ⟨call,io,[]⟩ (bB it) [.int size,d]=some (.bl (tw size row).isNone,[]):=by
 have e:isNon (optN (tw size row))=(tw size row).isNone:=by cases tw size row<;>rfl
 refine eI (f:=bB it) (δ0:=[some (.int size),some d]) rfl rfl (δ:=[some (.int size),some d]) ?_ rfl
 refine dU _ 98 _ _ _ ?_
 simp [hit,ht,fd,lC,e]
end
theorem eA (l:List Nat):(tN l).fz=true:=by rw [uK];exact bj l
theorem jB (m:Nat):∀ l:List Nat,shapes m (l.map nt)=true
 | []=>by cases m<;>rfl
 | x::xs=>by
  simp only [List.map_cons]
  unfold shapes
  rw [jB m xs]
  cases m<;>rfl
theorem pD (m:Nat) (l:List Nat) (h:l.length≤1000):shape (m+1) (tN l)=true:=by
 show (decide ((l.map nt).length≤cap)&&shapes m (l.map nt))=true
 rw [jB,List.length_map,decide_eq_true (show l.length≤cap by unfold cap;omega)]
 rfl
theorem lK:∀ l:List Nat,fT (l.map nt)=l.map nt
 | []=>rfl
 | x::xs=>by
  simp only [List.map_cons]
  unfold fT
  rw [lK xs]
  rfl
theorem uh {T:List Fn} {it:Nat} (h:T[it]?=some (aS it)) (k:Nat) (row:List Nat) (a:row.length≤1000):evF T (k+3) it [tN row]=some (tN row,[]):=by
 have:=sh (k:=k+2) h (eA row) (pD _ row a)
 rw [this]
 show some (D.tup (fT (row.map nt)),[])=_
 rw [lK]
end Ev.Bu
namespace Ev
open PySem
def W (C:Ctx) (n:Nat) (ss:List S) (δ:Dl) (Q:Fl→Prop):Prop:=∃ r,bg C n ss δ=some r∧Q r
section
variable {C:Ctx} {n:Nat} {s:S} {ss:List S} {δ δ1:Dl} {Q Q':Fl→Prop}
theorem W.nil (h:Q (.nx δ)):W C (n+1) [] δ Q:=⟨_,rfl,h⟩
theorem W.cons (h:evS C n s δ=some (.nx δ1)) (a:W C n ss δ1 Q):W C (n+1) (s::ss) δ Q:=by
 obtain ⟨r,b,c⟩:=a
 exact ⟨r,(aR _ _ _ _ _ h).trans b,c⟩
theorem W.ret {d:D} {e:E} (h:evE C n e δ=some (.tmp d,δ1)) (q:Q (.rt d δ1)):W C (n+2) (.ret e::ss) δ Q:=⟨_,dU _ _ _ _ _ h,q⟩
def EB (C:Ctx) (n:Nat) (ss:List S) (Q:Fl→Prop):Fl→Prop
 | .nx δ2=>W C n ss δ2 Q
 | r=>Q r
theorem W.blk {r:Option Fl} (h:evS C n s δ=r) (hw:∃ a,r=some a∧EB C n ss Q a):W C (n+1) (s::ss) δ Q:=by
 obtain ⟨a,rfl,b⟩:=hw
 cases a with
 | nx δ2 =>
  obtain ⟨c,e,f⟩:=b
  exact ⟨c,(aR _ _ _ _ _ h).trans e,f⟩
 | rt d δ2=>exact ⟨_,by simp only [bg,h],b⟩
 | bk δ2=>exact ⟨_,by simp only [bg,h],b⟩
 | ct δ2=>exact ⟨_,by simp only [bg,h],b⟩
theorem W.ifF {c:E} {a b:List S} (h:evT C n c δ=some (false,δ1)) (hw:W C n b δ1 (EB C (n+1) ss Q)):W C (n+2) (.ifs c a b::ss) δ Q:=W.blk (p7 _ _ _ _ _ _ h) hw
theorem W.skip {c:E} {a:List S} (h:evT C (n+1) c δ=some (false,δ1)) (hw:W C (n+2) ss δ1 Q):W C (n+3) (.ifs c a []::ss) δ Q:=W.ifF h (W.nil hw)
theorem uG {α:Type} {set:D→Dl→Option Dl} {body:Dl→Option Fl} (I:List α→Dl→Prop) (R:Fl→Prop) (em:α→D) (all:List α)
  (h:∀ pre x post δ,all=pre++x::post→I pre δ→∃ δ1 r,set (em x) δ=some δ1∧body δ1=some r∧(match r with
   | .nx δ2=>I (pre++[x]) δ2
   | .ct δ2=>I (pre++[x]) δ2
   | .bk δ2=>R (.nx δ2)
   | .rt d δ2=>R (.rt d δ2))) (a:∀ δ,I all δ→R (.nx δ)) :
  ∀ (xs pre:List α) (δ:Dl),all=pre++xs→I pre δ→∃ r,forL set body (xs.map em) δ=some r∧R r
 | [],pre,δ,e,i=>⟨.nx δ,rfl,a δ (by rw [e,List.append_nil];exact i)⟩
 | x::xs,pre,δ,e,i=>by
  obtain ⟨δ1,r,b,c,f⟩:=h pre x xs δ e i
  cases r with
  | nx δ2 =>
   obtain ⟨g,j,k⟩:=uG (set:=set) (body:=body) I R em all h a xs (pre++[x]) δ2 (by rw [e];simp) f
   exact ⟨g,by simp only [List.map_cons,forL,b,c];exact j,k⟩
  | ct δ2 =>
   obtain ⟨g,j,k⟩:=uG (set:=set) (body:=body) I R em all h a xs (pre++[x]) δ2 (by rw [e];simp) f
   exact ⟨g,by simp only [List.map_cons,forL,b,c];exact j,k⟩
  | bk δ2=>exact ⟨.nx δ2,by simp only [List.map_cons,forL,b,c],f⟩
  | rt d δ2=>exact ⟨.rt d δ2,by simp only [List.map_cons,forL,b,c],f⟩
def Turn (I:Dl→Prop) (R:Fl→Prop):Fl→Prop
 | .nx δ2=>I δ2
 | .ct δ2=>I δ2
 | .bk δ2=>R (.nx δ2)
 | .rt d δ2=>R (.rt d δ2)
theorem W.for {α:Type} {tg:Tg} {k:ItK} {its:List E} {body:List S} (I:List α→Dl→Prop) (em:α→D) (xs:List α) (hi:dB C n k its δ=some (xs.map em,δ1)) (h0:I [] δ1)
  (h:∀ pre x post δ,xs=pre++x::post→I pre δ→∃ δ2,setT C.lock tg (em x) δ=some δ2∧W C n body δ2 (Turn (I (pre++[x])) (EB C (n+1) ss Q)))
  (d:∀ δ,I xs δ→W C (n+1) ss δ Q):W C (n+2) (.for_ tg k its body::ss) δ Q:=by
 obtain ⟨r,f,g⟩:=uG (set:=setT C.lock tg) (body:=bg C n body) I (EB C (n+1) ss Q) em xs (fun pre x post δ e i=>by
  obtain ⟨δ2,a,r,b,c⟩:=h pre x post δ e i
  refine ⟨δ2,r,a,b,?_⟩
  cases r<;>exact c) d xs [] δ1 rfl h0
 exact W.blk (eh _ _ _ _ _ _ _ hi f) ⟨r,rfl,g⟩
end
theorem W.run {C:Ctx} {f:Fn} {ds:List D} {d:D} {δ0:Dl} {outs:List D} (a:ds.length=f.ps) (h0:bE f ds=δ0) (h:W C 100 f.body δ0 (fun r=>∃ δ,r=.rt d δ∧bc δ f.io 0 f.ps=some outs)):dh C f ds=some (d,outs):=by
 obtain ⟨r,b,δ,rfl,c⟩:=h
 exact eI a h0 b c
end Ev
namespace Ev.U
open PySem Ev Ev.Bu
theorem tkI {call:Nat→List D→Option (D × List D)} {it:Nat} (h:tR call it) (d:D) (c b:Int) (a:Box c d) (f:c<1000000000000) (h0:0<b) (g:b<1000000000):∃ (r:Nat) (d':D),call it [d,.int b]=some (.int r,[d'])∧(r:Int)<b∧Box (c+1) d':=by
 obtain ⟨r,d',e,l,x⟩:=h d c b.toNat a f (by omega) (by omega)
 rw [show ((b.toNat:Nat):Int)=b by omega] at e
 exact ⟨r,d',e,by omega,x⟩
theorem lcN {C:Ctx} {v:Nat} {c:E} {k:ItK} {its:List E} {δ δ0:Dl} {xs:List Nat} (p:Nat→Bool) (e:C.lock.contains v=false) (hi:∀ m,dB C (m+18) k its δ0=some (xs.map nt,δ)) (b:v<δ.length) (g:cH δ [v]=true) (h:xs.length≤cap)
  (ht:∀ w∈xs,∀ m,evT C (m+17) c (δ.set v (some (nt w)))=some (p w,δ.set v (some (nt w)))) (m:Nat):evE C (m+20) (.lc (.var v) (.nm v) k its [c] [v]) δ0=some (.tmp (.lst true ((xs.filter p).map nt)),δ):=by
 refine (fR (C:=C) (n:=m+18) (v:=v) (p:=fun d=>match d with
    | .int z=>p z.toNat
    | _=>false) (f:=fun d=>d) e (hi (m+1)) b g (by simpa using h) (fun x a=>?_) (fun x a i=>?_)).trans ?_
 ·obtain ⟨w,hw,rfl⟩:=List.mem_map.mp a
  simpa using ht w hw (m+1)
 ·obtain ⟨w,_,rfl⟩:=List.mem_map.mp a
  have:slot (δ.set v (some (nt w))) v=some (nt w):=by unfold slot;rw [List.getElem?_set_self b]
  simp [this]
 ·simp only [List.filter_map,List.map_id']
  simp [Function.comp_def]
theorem zj {α:Type} (em:α→D) (l:List α) (hi:Nat):cutD (l.map em) none (some (hi:Int))=(l.take hi).map em:=by
 have e:sIx (l.map em).length (l.map em).length (some (hi:Int))=min hi l.length:=by
  simp only [sIx,List.length_map]
  rw [if_neg (by omega)]
  omega
 unfold cutD
 rw [show sIx (l.map em).length 0 none=0 from rfl]
 rw [show (List.take (sIx (List.map em l).length (List.map em l).length (some ↑hi)-0) (List.drop 0 (List.map em l)))=List.take (sIx (List.map em l).length (List.map em l).length (some ↑hi)) (List.map em l) by simp]
 rw [e,← List.map_take,← List.take_eq_take_min]
theorem wO (x:Nat) (l:List Nat):lC .notin (nt x) (tN l)=some (!l.contains x):=by
 show (if (nt x).flat&&eE (l.map nt) then some (!(l.map nt).any fun y=>y.eq (nt x)) else none)=_
 rw [gU,fM]
 rfl
end Ev.U
namespace Ev.Ch
open PySem Ev Ev.U Ev.Bu
section
variable {call:Nat→List D→Option (D × List D)} {io:Nat→List Nat} {iu ip il id ib:Nat} {d1 d2:D} {u1 u2:List Nat} {n used:Nat}
theorem eJ (n:Nat):aC 0 1 n=(List.range n).map nt:=cZ n
theorem mY {n x:Nat} {pre post:List Nat} (h:List.range n=pre++x::post):x=pre.length∧pre.length<n:=by
 have a:=congrArg List.length h
 simp at a
 have lt:pre.length<n:=by omega
 have e:(List.range n)[pre.length]?=some pre.length:=by rw [List.getElem?_range lt]
 rw [h,List.getElem?_append_right (Nat.le_refl _),Nat.sub_self] at e
 simp at e
 exact ⟨e,lt⟩
end
end Ev.Ch
namespace Ev.Bu
open PySem Ev Ev.U Ev.Ch
theorem eF:∀ l:List Int,intsOf (l.map D.int)=some l
 | []=>rfl
 | x::xs=>by simp only [List.map_cons,intsOf,eF xs,Option.map_some]
section
variable {call:Nat→List D→Option (D × List D)} {io:Nat→List Nat}
end
end Ev.Bu
namespace Ev.Ro
open PySem Ev Ev.Bu Ev.U
end Ev.Ro
namespace Ev.Ro
open PySem Ev Ev.Bu Ev.U Ev.Ch
section
variable {call:Nat→List D→Option (D × List D)} {io:Nat→List Nat}
end
end Ev.Ro
namespace Ev.Ob
open PySem Ev Ev.Bu Ev.U Ev.Ch Ev.Ro
section
variable {call:Nat→List D→Option (D × List D)} {io:Nat→List Nat}
end
end Ev.Ob
namespace Ev.Ro
open PySem Ev Ev.Bu Ev.U Ev.Ch
end Ev.Ro
namespace Ev.Ro
open PySem Ev Ev.Bu Ev.U Ev.Ch
section
variable {call:Nat→List D→Option (D × List D)} {io:Nat→List Nat}
end
end Ev.Ro
namespace Ev.Ro
open PySem Ev Ev.Bu Ev.U Ev.Ch
section
variable {call:Nat→List D→Option (D × List D)} {io:Nat→List Nat}
end
end Ev.Ro
namespace Ev.Ro
open PySem Ev Ev.Bu Ev.U Ev.Ch
end Ev.Ro
namespace Ev.Ob
open PySem Ev Ev.Bu Ev.U Ev.Ch Ev.Ro
end Ev.Ob
namespace Ev.Ob
open PySem Ev Ev.Bu Ev.U Ev.Ch Ev.Ro
section
variable {call:Nat→List D→Option (D × List D)} {io:Nat→List Nat}
end
end Ev.Ob
namespace Ev
open PySem
end Ev
namespace Ev
open PySem
section
variable {call:Nat→List D→Option (D × List D)} {io:Nat→List Nat} {s m:Nat}
end
end Ev
namespace Ev.Ob
open PySem Ev Ev.Bu Ev.U Ev.Ch Ev.Ro
end Ev.Ob
namespace Ev.Ob
open PySem Ev Ev.Bu Ev.U Ev.Ch
def Hv (call:Nat→List D→Option (D × List D)) (i:Nat):Prop:=∀ (s:Nat) (row:List Nat),row.length≤90→call i [.int s,tN row]=some (.bl (tw s row).isNone,[])
section
variable {call:Nat→List D→Option (D × List D)} {io:Nat→List Nat}
end
section
variable {T:List Fn} {it ih itoo ican im il iw icb:Nat}
theorem BU (h0:T[it]?=some (aS it)) (k:Nat) (row:List Nat) (a:row.length≤90):evF T (k+10) it [tN row]=some (tN row,[]):=Bu.uh h0 (k+7) row (by omega)
theorem ye (h0:T[it]?=some (aS it)) (a:T[itoo]?=some (aP it)) (b:T[ican]?=some (bB itoo)) (k:Nat):Hv (evF T (k+12)) ican:=fun s row c=>by
 rw [bK b]
 refine Bu.yV (by simp [a,Bu.aP]) (Bu.eA row) ?_
 rw [bK a]
 exact Bu.AQ (by simp [h0,Ev.aS]) (Bu.eA row) (BU h0 k row c)
end
end Ev.Ob
namespace Ev.K27
open PySem Ev Ev.Bu Ev.U Ev.Ch Ev.Ob
section
variable {call:Nat→List D→Option (D × List D)} {io:Nat→List Nat}
end
section
variable {call:Nat→List D→Option (D × List D)} {io:Nat→List Nat}
end
section
variable {T:List Fn} {it itoo ican il iw icb ifw:Nat}
end
end Ev.K27
namespace Ev.K27
open PySem Ev Ev.Bu Ev.U Ev.Ch Ev.Ob
def kI (k:List Nat):List Int:=k.map fun (x:Nat)=>(x:Int)
def putN (ks:List (List Nat)) (k:List Nat):List (List Nat):=if ks.contains k then ks else ks++[k]
theorem ud {a b:List Nat} (h:kI a=kI b):a=b:=by
 unfold kI at h
 exact (List.map_inj_right (fun x y e=>by omega)).mp h
theorem um (k:List Nat):tupI (kI k)=tN k:=by
 unfold tupI kI tN
 rw [List.map_map]
 rfl
theorem gY (k:List Nat):nk (tN k)=some (kI k):=by
 show intsOf (k.map nt)=_
 have:=eF (kI k)
 unfold kI at *
 rw [List.map_map] at this
 exact this
theorem th (ks:List (List Nat)) (k:List Nat):(ks.map kI).contains (kI k)=ks.contains k:=by
 rw [Bool.eq_iff_iff]
 simp only [List.contains_iff_mem]
 constructor
 ·intro h
  obtain ⟨q,a,e⟩:=List.mem_map.mp h
  rw [← ud e]
  exact a
 ·exact fun h=>List.mem_map.mpr ⟨k,h,rfl⟩
def bls (ks:List (List Nat)):List D:=ks.map fun _=>.bl true
def dk (o:Bool) (ks:List (List Nat)):D:=.dtk o (ks.map kI) (bls ks)
theorem lu:∀ ks:List (List Nat),fzs (bls ks)=true
 | []=>rfl
 | k::ks=>by
  have:=lu ks
  unfold bls at *
  simp only [List.map_cons,fzs,this]
  rfl
theorem AL (ks:List (List Nat)):frzs (bls ks)=bls ks:=cf _ (lu ks)
theorem uV (k:List Int):∀ ks:List (List Nat),((ks.map kI).zip (bls ks)).map (fun p=>if p.1=k then D.bl true else p.2)=bls ks
 | []=>rfl
 | q::ks=>by
  have:=uV k ks
  unfold bls at *
  simp only [List.map_cons,List.zip_cons_cons,this]
  congr 1
  split<;>rfl
theorem r5 (ks:List (List Nat)) (k:List Nat):putD (ks.map kI) (bls ks) (kI k) (.bl true)=((putN ks k).map kI,bls (putN ks k)):=by
 unfold putD putN
 rw [th]
 split
 ·rw [uV]
 ·unfold bls
  simp
theorem kP (ks:List (List Nat)) (k:List Nat):(putN ks k).length≤ks.length+1:=by
 unfold putN
 split
 ·omega
 ·simp
section
variable {call:Nat→List D→Option (D × List D)} {io:Nat→List Nat}
end
end Ev.K27
namespace Ev.K27
open PySem Ev Ev.Bu Ev.U Ev.Ch Ev.Ob
section
variable {call:Nat→List D→Option (D × List D)} {io:Nat→List Nat}
end
end Ev.K27
namespace Ev.K68
open PySem Ev Ev.Bu Ev.U Ev.Ch Ev.Ob Ev.K27
def dc (size n step:Nat):List Nat:=up (size+step) (min (size+step+1) n-(size+step))
def v5 (fresh row:List Nat) (item:Nat):List Nat:=row.filter (fun x=>x != item)++fresh
def lV (fresh row:List Nat):List (List Nat):=row.foldl (fun a item=>putN a (v5 fresh row item)) []
def kj (fresh:List Nat) (found:List (List Nat)):List (List Nat):=found.foldl (fun a row=>(lV fresh row).foldl putN a) []
def cg (size n:Nat):Nat→List (List Nat)
 | 0=>[List.range (min size n)]
 | k+1=>kj (dc size n k) (cg size n k)
def wz (ks:List (List Nat)):List (List Nat):=(fE (ks.map kI)).map fun q=>q.map Int.toNat
def ee (size n far:Nat):List (List Nat):=wz (cg size n far)
def yH (size n k:Nat):Bool:=Nat.ble (cg size n k).length 30&&(cg size n k).all fun row=>Nat.ble row.length 6&&fX ((lV (dc size n k) row).map kI)
def nnB (ks:List (List Nat)):Bool:=(fE (ks.map kI)).all fun q=>q.all fun x=>decide (0≤x)
def Cj (size n far:Nat):Bool:=lA ((cg size n far).map kI)&&nnB (cg size n far)
def lB:List Nat:=[1,2,3,4,5,6]
def nsL:List Nat:=[0,1,2,3,4,5,6]
theorem zw:(lB.all fun size=>nsL.all fun n=>(List.range n).all fun k=>yH size n k)=true:=by decide +kernel
theorem AY:(lB.all fun size=>nsL.all fun n=>(List.range (n+1)).all fun far=>Cj size n far)=true:=by decide +kernel
theorem sM {ks:List (List Nat)} (h:nnB ks=true):(fE (ks.map kI)).map tupI=(wz ks).map tN:=by
 unfold wz
 rw [List.map_map]
 refine List.map_congr_left fun q a=>?_
 have:=List.all_eq_true.mp h q a
 rw [List.all_eq_true] at this
 rw [Function.comp,← um]
 congr 1
 unfold kI
 rw [List.map_map]
 refine (List.map_id q).symm.trans (List.map_congr_left fun x b=>?_)
 have:=this x b
 rw [decide_eq_true_iff] at this
 simp only [id,Function.comp]
 omega
theorem o7:∀ (sub acc:List (List Nat)),lq (acc.map kI) (bls acc) (sub.map kI) (bls sub)=((sub.foldl putN acc).map kI,bls (sub.foldl putN acc))
 | [],acc=>rfl
 | k::sub,acc=>by
  have ih:=o7 sub (putN acc k)
  have a:=r5 acc k
  unfold lq at ih ⊢
  show ((((k::sub).map kI).zip (bls (k::sub))).foldl _ _)=_
  unfold bls at *
  simp only [List.map_cons,List.zip_cons_cons,List.foldl_cons]
  rw [a]
  exact ih
theorem dZ:∀ (sub acc:List (List Nat)),(sub.foldl putN acc).length≤acc.length+sub.length
 | [],acc=>by simp
 | k::sub,acc=>by
  have:=dZ sub (putN acc k)
  have h:=kP acc k
  simp only [List.foldl_cons,List.length_cons]
  omega
theorem gS (fresh row:List Nat):∀ (items:List Nat) (acc:List (List Nat)),(items.foldl (fun a item=>putN a (v5 fresh row item)) acc).length≤acc.length+items.length
 | [],acc=>by simp
 | x::items,acc=>by
  have:=gS fresh row items (putN acc (v5 fresh row x))
  have h:=kP acc (v5 fresh row x)
  simp only [List.foldl_cons,List.length_cons]
  omega
theorem jn (fresh:List Nat):∀ (found acc:List (List Nat)),(∀ r∈found,r.length≤6)→(found.foldl (fun a row=>(lV fresh row).foldl putN a) acc).length≤acc.length+found.length*6
 | [],acc,_=>by simp
 | r::found,acc,h=>by
  have:=jn fresh found ((lV fresh r).foldl putN acc) (fun q b=>h q (List.mem_cons_of_mem _ b))
  have c:=dZ (lV fresh r) acc
  have d:=gS fresh r r []
  have e:=h r List.mem_cons_self
  unfold lV at c this ⊢
  simp only [List.foldl_cons,List.length_cons,List.length_nil] at *
  omega
theorem yi {set:D→Dl→Option Dl} {key val:Dl→Option (D × Dl)} {own:List Nat} {δ:Dl} {f:Nat→List Nat} :
  ∀ (xs:List Nat) (acc:List (List Nat)),(∀ x∈xs,∃ δ1 δ2 δ3,set (nt x) δ=some δ1∧key δ1=some (tN (f x),δ2)∧val δ2=some (.bl true,δ3)∧aY δ3 own=δ)→acc.length+xs.length≤10000 →
   dcL set key val own (xs.map nt) (acc.map kI) (bls acc) δ=some (((xs.foldl (fun a x=>putN a (f x)) acc).map kI,bls (xs.foldl (fun a x=>putN a (f x)) acc)),δ)
 | [],acc,_,_=>rfl
 | x::xs,acc,h,b=>by
  obtain ⟨δ1,δ2,δ3,c,d,e,g⟩:=h x List.mem_cons_self
  rw [List.length_cons] at b
  have pl:=kP acc (f x)
  have ih:=yi (set:=set) (key:=key) (val:=val) (own:=own) (δ:=δ) (f:=f) xs (putN acc (f x)) (fun y i=>h y (List.mem_cons_of_mem _ i)) (by omega)
  have j:=r5 acc (f x)
  have bl:Nat.ble (acc.map kI).length 100000=true:=by rw [List.length_map,Nat.ble_eq];omega
  simp only [List.map_cons,dcL,c,d,gY,e,bl,if_true,List.foldl_cons]
  rw [show (D.bl true).frz=.bl true from rfl,j,g]
  exact ih
def FX:S:=.updD 6 (.dck (.bin .add (.bi .tuple1 [(.lc (.var 9) (.nm 9) .val [(.var 7)] [(.cmp .ne (.var 9) (.var 8))] [9])]) (.var 5)) (.bl true) (.nm 8) .val [(.var 7)] [8])
def Af:List S:=[.asg (.nm 5) (.bi .trange [(.bin .add (.var 0) (.var 4)),(.bi .min2 [(.bin .add (.bin .add (.var 0) (.var 4)) (.int 1)),(.var 1)])]),
  .asg (.nm 6) .dtk0,
  .for_ (.nm 7) .val [(.bi .list1 [(.var 3)])] [FX],
  .asg (.nm 3) (.var 6)]
def eO:Fn:={ n:=10,ps:=3,io:=[],body:=[.asg (.nm 3) (.dtk1 (.bi .trange [(.bi .min2 [(.var 0),(.var 1)])]) (.bl true)),
  .for_ (.nm 4) .range [(.var 2)] Af,
  .ret (.bi .sorted1 [(.var 3)])] }
section
variable {call:Nat→List D→Option (D × List D)} {io:Nat→List Nat}
theorem jZ {a0 a1 a2 a3 a4:Option D} {fresh row:List Nat} {acc:List (List Nat)} (i:row.length≤6) (hf:fresh.length≤10) (ha:acc.length≤1000) (hn:fX ((lV fresh row).map kI)=true) (m:Nat) :
  evS ⟨call,io,[]⟩ (m+60) FX [a0,a1,a2,a3,a4,some (tN fresh),some (dk true acc),some (tN row),none,none] =
   some (.nx [a0,a1,a2,a3,a4,some (tN fresh),some (dk true ((lV fresh row).foldl putN acc)),some (tN row),none,none]):=by
 have f1:=bj fresh
 have f2:=bj row
 have g:=kO row
 have hit:∀ m,dB ⟨call,io,[]⟩ (m+10) .val [(.var 7)] [a0,a1,a2,a3,a4,some (tN fresh),some (dk true acc),some (tN row),none,none]=some (row.map nt,[a0,a1,a2,a3,a4,some (tN fresh),some (dk true acc),some (tN row),none,none]):=fun m=>by
  generalize dk true acc=DD at *
  simp [f2,g]
 have key:∀ x∈row,∀ m,evV ⟨call,io,[]⟩ (m+40) (.bin .add (.bi .tuple1 [(.lc (.var 9) (.nm 9) .val [(.var 7)] [(.cmp .ne (.var 9) (.var 8))] [9])]) (.var 5)) [a0,a1,a2,a3,a4,some (tN fresh),some (dk true acc),some (tN row),some (nt x),none] =
   some (tN (v5 fresh row x),[a0,a1,a2,a3,a4,some (tN fresh),some (dk true acc),some (tN row),some (nt x),none]):=fun x h m=>by
  have b:∀ m,evE ⟨call,io,[]⟩ (m+20) (.lc (.var 9) (.nm 9) .val [(.var 7)] [(.cmp .ne (.var 9) (.var 8))] [9]) [a0,a1,a2,a3,a4,some (tN fresh),some (dk true acc),some (tN row),some (nt x),none]=some (.tmp (.lst true ((row.filter fun y=>y != x).map nt)),[a0,a1,a2,a3,a4,some (tN fresh),some (dk true acc),some (tN row),some (nt x),none]):=fun m=>by
   refine (fR (C:=⟨call,io,[]⟩) (n:=m+18) (v:=9) (p:=fun d=>match d with
    | .int z=>z.toNat != x
    | _=>false) (f:=fun d=>d) (xs:=row.map nt) (δ:=[a0,a1,a2,a3,a4,some (tN fresh),some (dk true acc),some (tN row),some (nt x),none]) rfl ?_ (by simp) (by simp [cH]) (by simp [cap];omega) (fun y e=>?_) (fun y e s=>?_)).trans ?_
   ·generalize dk true acc=DD at *
    simp [f2,g]
   ·obtain ⟨z,_,rfl⟩:=List.mem_map.mp e
    have j:((z:Int)==(x:Int))=(z==x):=rK _ _
    generalize dk true acc=DD at *
    simp [plain,j,bne]
   ·obtain ⟨z,_,rfl⟩:=List.mem_map.mp e
    generalize dk true acc=DD at *
    simp
   ·simp only [List.map_id',List.filter_map]
    simp [Function.comp_def]
  have lf:(row.filter fun y=>y != x).length≤6:=Nat.le_trans (List.length_filter_le ..) i
  have fz:=bj (row.filter fun y=>y != x)
  have lc:(row.filter fun y=>y != x).length+fresh.length≤cap:=by unfold cap;omega
  have em:(v5 fresh row x).map nt=(row.filter fun y=>y != x).map nt++fresh.map nt:=by unfold v5;rw [List.map_append]
  unfold tN
  rw [em]
  have k:((row.filter fun y=>y != x).map nt).length+(fresh.map nt).length≤cap:=by rw [List.length_map,List.length_map];exact lc
  generalize dk true acc=DD at *
  generalize (row.filter fun y=>y != x).map nt=RF at *
  simp only [tN] at b
  generalize fresh.map nt=FF at *
  generalize row.map nt=t at *
  simp [b,items,fz,f1,k]
 have c:=yi (set:=setT [] (.nm 8)) (key:=evV ⟨call,io,[]⟩ (m+57) (.bin .add (.bi .tuple1 [(.lc (.var 9) (.nm 9) .val [(.var 7)] [(.cmp .ne (.var 9) (.var 8))] [9])]) (.var 5))) (val:=evV ⟨call,io,[]⟩ (m+57) (.bl true)) (own:=[8]) (δ:=[a0,a1,a2,a3,a4,some (tN fresh),some (dk true acc),some (tN row),none,none]) (f:=v5 fresh row) row [] (fun x h=>by
  refine ⟨[a0,a1,a2,a3,a4,some (tN fresh),some (dk true acc),some (tN row),some (nt x),none],[a0,a1,a2,a3,a4,some (tN fresh),some (dk true acc),some (tN row),some (nt x),none],[a0,a1,a2,a3,a4,some (tN fresh),some (dk true acc),some (tN row),some (nt x),none],by simp,key x h (m+17),?_,rfl⟩
  simp) (by simp;omega)
 have sl:=gS fresh row row []
 rw [show row.foldl (fun a x=>putN a (v5 fresh row x)) []=lV fresh row from rfl] at c sl
 simp only [List.map_nil,List.length_nil] at c sl
 have l:bls []=[]:=rfl
 rw [l] at c
 have o:evV ⟨call,io,[]⟩ (m+59) (.dck (.bin .add (.bi .tuple1 [(.lc (.var 9) (.nm 9) .val [(.var 7)] [(.cmp .ne (.var 9) (.var 8))] [9])]) (.var 5)) (.bl true) (.nm 8) .val [(.var 7)] [8]) [a0,a1,a2,a3,a4,some (tN fresh),some (dk true acc),some (tN row),none,none] =
   some (dk true (lV fresh row),[a0,a1,a2,a3,a4,some (tN fresh),some (dk true acc),some (tN row),none,none]):=by
  have wp:aY [a0,a1,a2,a3,a4,some (tN fresh),some (dk true acc),some (tN row),none,none] [8]=[a0,a1,a2,a3,a4,some (tN fresh),some (dk true acc),some (tN row),none,none]:=rfl
  have rs:gh [a0,a1,a2,a3,a4,some (tN fresh),some (dk true acc),some (tN row),none,none] [a0,a1,a2,a3,a4,some (tN fresh),some (dk true acc),some (tN row),none,none] [8]=[a0,a1,a2,a3,a4,some (tN fresh),some (dk true acc),some (tN row),none,none]:=rfl
  have of:cH [a0,a1,a2,a3,a4,some (tN fresh),some (dk true acc),some (tN row),none,none] [8]=true:=rfl
  rw [Cn,xD,hit (m+47)]
  simp only [of,wp,if_true]
  show (match (match dcL _ _ _ _ _ _ _ _ with
   | some (r,δ2)=>some (A.tmp (.dtk true r.1 r.2),gh _ δ2 [8])
   | none=>none) with
   | some (a,δ1)=>toV δ1 a
   | none=>none)=_
  rw [c]
  simp only [rs]
  unfold dk
  generalize lV fresh row=SS at *
  simp
 have pu:=o7 (lV fresh row) acc
 have q:Nat.ble ((acc.map kI).length+((lV fresh row).map kI).length) 100000=true:=by rw [List.length_map,List.length_map,Nat.ble_eq];omega
 unfold FX
 rw [rV]
 rw [show evE ⟨call,io,[]⟩ (m+59) (.var 6) [a0,a1,a2,a3,a4,some (tN fresh),some (dk true acc),some (tN row),none,none]=some (.bor 6 [],[a0,a1,a2,a3,a4,some (tN fresh),some (dk true acc),some (tN row),none,none]) by simp [dk]]
 simp only [show slot [a0,a1,a2,a3,a4,some (tN fresh),some (dk true acc),some (tN row),none,none] 6=some (dk true acc) from rfl,show xN (some (dk true acc))=true from rfl,if_true,o]
 simp only [dk,hn,Bool.or_true,Bool.true_and,nN,om,q,if_true,pu]
 rfl
theorem w9 {size n step:Nat} {a2 a5 a6 a7:Option D} {o:Bool} {found:List (List Nat)} (hs:size≤100) (hn:n≤100) (hk:step≤100) (hf:found.length≤30) (l:∀ r∈found,r.length≤6∧fX ((lV (dc size n step) r).map kI)=true) {Q:Fl→Prop}
  (q:∀ d b,Q (.nx [some (nt size),some (nt n),a2,some (dk false (kj (dc size n step) found)),some (nt step),some (tN (dc size n step)),d,b,none,none])) :
  W ⟨call,io,[]⟩ 97 Af [some (nt size),some (nt n),a2,some (dk o found),some (nt step),a5,a6,a7,none,none] Q:=by
 have em:(if (n:Int)<(size:Int)+(step:Int)+1 then (n:Int) else (size:Int)+(step:Int)+1)=((min (size+step+1) n:Nat):Int):=by split<;>omega
 have c:=xa (i:=size+step) (j:=min (size+step+1) n) (by omega) (by omega)
 rw [show aC ((size+step:Nat):Int) 1 (min (size+step+1) n-(size+step))=(dc size n step).map nt from rM _ _] at c
 have lf:(dc size n step).length≤10:=by unfold dc up;rw [List.length_map,List.length_range];omega
 have p:=bj (dc size n step)
 have lc:((dc size n step).map nt).length≤cap:=by rw [List.length_map];unfold cap;omega
 unfold Af
 refine W.cons (δ1:=[some (nt size),some (nt n),a2,some (dk o found),some (nt step),some (tN (dc size n step)),a6,a7,none,none]) ?_ ?_
 ·have e0:((size+step:Nat):Int)=(size:Int)+(step:Int):=by omega
  rw [e0] at c
  rw [← em] at c
  generalize dk o found=DD at *
  unfold tN
  generalize (dc size n step).map nt=FF at *
  simp [c,p,lc]
 ·generalize dc size n step=fresh at *
  refine W.cons (δ1:=[some (nt size),some (nt n),a2,some (dk o found),some (nt step),some (tN fresh),some (dk true []),a7,none,none]) (by generalize dk o found=DD at *;simp [dk,bls]) ?_
  have e:(found.map kI).map tupI=found.map tN:=by
   rw [List.map_map]
   exact List.map_congr_left fun k _=>um k
  have fz:=df found
  have m:=cU found
  refine W.for (fun pre δ=>∃ b,δ=[some (nt size),some (nt n),a2,some (dk o found),some (nt step),some (tN fresh),some (dk true (pre.foldl (fun a row=>(lV fresh row).foldl putN a) [])),b,none,none]) tN found (δ1:=[some (nt size),some (nt n),a2,some (dk o found),some (nt step),some (tN fresh),some (dk true []),a7,none,none]) ?_ ⟨a7,rfl⟩ ?_ ?_
  ·rw [← e] at fz m ⊢
   unfold dk
   have f:=lu found
   generalize found.map kI=KK at *
   generalize bls found=BB at *
   cases o<;>simp [fz,m,f]
  ·rintro pre x post δ eq ⟨b,rfl⟩
   have s:x∈found:=by rw [eq];simp
   have w:pre.length≤30:=by
    have:=congrArg List.length eq
    simp only [List.length_append] at this
    omega
   have t:=jn fresh pre [] (fun r g=>(l r (by rw [eq];simp [g])).1)
   simp only [List.length_nil] at t
   obtain ⟨u,x2⟩:=l x s
   refine ⟨[some (nt size),some (nt n),a2,some (dk o found),some (nt step),some (tN fresh),some (dk true (pre.foldl (fun a row=>(lV fresh row).foldl putN a) [])),some (tN x),none,none],by simp,?_⟩
   have h:=jZ (call:=call) (io:=io) (a0:=some (nt size)) (a1:=some (nt n)) (a2:=a2) (a3:=some (dk o found)) (a4:=some (nt step)) (fresh:=fresh) (row:=x) (acc:=pre.foldl (fun a row=>(lV fresh row).foldl putN a) []) u lf (by omega) x2 33
   refine W.cons h (W.nil ⟨some (tN x),?_⟩)
   rw [List.foldl_append]
   rfl
  ·rintro δ ⟨b,rfl⟩
   show W _ _ _ [some (nt size),some (nt n),a2,some (dk o found),some (nt step),some (tN fresh),some (dk true (kj fresh found)),b,none,none] _
   refine W.cons (δ1:=[some (nt size),some (nt n),a2,some (dk false (kj fresh found)),some (nt step),some (tN fresh),some (dk false (kj fresh found)),b,none,none]) ?_ (W.nil (q _ _))
   have f:=lu (kj fresh found)
   have v:=AL (kj fresh found)
   generalize dk o found=DD at *
   unfold dk
   generalize (kj fresh found).map kI=KK at *
   generalize bls (kj fresh found)=BB at *
   simp [f,v]
theorem uW {size n far:Nat} (hs:size∈lB) (hn:n∈nsL) (hf:far≤n):dh ⟨call,io,[]⟩ eO [.int size,.int n,.int far]=some (.lst true ((ee size n far).map tN),[]):=by
 have c:=List.all_eq_true.mp (List.all_eq_true.mp zw size hs) n hn
 have a:=List.all_eq_true.mp (List.all_eq_true.mp (List.all_eq_true.mp AY size hs) n hn) far (List.mem_range.mpr (by omega))
 rw [List.all_eq_true] at c
 unfold Cj at a
 rw [Bool.and_eq_true] at a
 obtain ⟨h,nn⟩:=a
 have i:size≤6:=by simp only [lB,List.mem_cons,List.not_mem_nil,or_false] at hs;omega
 have j:n≤6:=by simp only [nsL,List.mem_cons,List.not_mem_nil,or_false] at hn;omega
 have em:(if n<size then (n:Int) else (size:Int))=((min size n:Nat):Int):=by split<;>omega
 have e:=cK (t:=min size n) (by omega)
 rw [eJ,← em] at e
 have g:=cK (t:=far) (by omega)
 rw [cZ] at g
 refine W.run (f:=eO) (δ0:=[some (nt size),some (nt n),some (nt far),none,none,none,none,none,none,none]) rfl rfl ?_
 refine W.cons (δ1:=[some (nt size),some (nt n),some (nt far),some (dk true (cg size n 0)),none,none,none,none,none,none]) ?_ ?_
 ·have k:nk (.tup ((List.range (min size n)).map nt))=some (kI (List.range (min size n))):=gY _
  have b:=bj (List.range (min size n))
  have c4:((List.range (min size n)).map nt).length≤cap:=by rw [List.length_map,List.length_range];unfold cap;omega
  unfold dk bls cg
  simp only [List.map_cons,List.map_nil]
  generalize kI (List.range (min size n))=KK at *
  generalize (List.range (min size n)).map nt=v at *
  simp [e,c4,b,k]
 ·refine W.for (fun pre δ=>∃ o a4 a5 a6 a7,δ=[some (nt size),some (nt n),some (nt far),some (dk o (cg size n pre.length)),a4,a5,a6,a7,none,none]) nt (List.range far) (δ1:=[some (nt size),some (nt n),some (nt far),some (dk true (cg size n 0)),none,none,none,none,none,none]) ?_ ⟨true,none,none,none,none,rfl⟩ ?_ ?_
  ·generalize dk true (cg size n 0)=DD at *
   simp [g]
  ·rintro pre x post δ eq ⟨o,a4,a5,a6,a7,rfl⟩
   obtain ⟨rfl,l⟩:=mY eq
   have cs:=c pre.length (List.mem_range.mpr (by omega))
   unfold yH at cs
   rw [Bool.and_eq_true,Nat.ble_eq,List.all_eq_true] at cs
   refine ⟨[some (nt size),some (nt n),some (nt far),some (dk o (cg size n pre.length)),some (nt pre.length),a5,a6,a7,none,none],by simp,?_⟩
   refine w9 (by omega) (by omega) (by omega) cs.1 (fun r m=>?_) (fun p q=>?_)
   ·have:=cs.2 r m
    rw [Bool.and_eq_true,Nat.ble_eq] at this
    exact this
   ·exact ⟨false,_,_,_,_,by rw [List.length_append];rfl⟩
  ·rintro δ ⟨o,a4,a5,a6,a7,rfl⟩
   rw [List.length_range]
   refine W.ret (d:=.lst true ((ee size n far).map tN)) (δ1:=[some (nt size),some (nt n),some (nt far),some (dk o (cg size n far)),a4,a5,a6,a7,none,none]) ?_ ⟨_,rfl,rfl⟩
   have s:=sM nn
   unfold ee
   rw [← s]
   have u:=lu (cg size n far)
   unfold dk
   generalize (cg size n far).map kI=KK at *
   generalize bls (cg size n far)=BB at *
   cases o<;>simp [h,u]
end
end Ev.K68
namespace Ev.K68
open PySem Ev Ev.Bu Ev.U Ev.Ch Ev.Ob Ev.K27
def bX (size far:Nat) (row:List Nat):List Nat:=(List.range (min row.length (size+far))).filter fun x=>!(row.take far).contains x
def getL (l:List (List Nat × List Nat)) (k:List Nat):Option (List Nat):=(l.find? fun p=>decide (p.1=k)).map (·.2)
def xb (l:List (List Nat × List Nat)) (k:List Nat) (v:List Nat):List (List Nat × List Nat) :=
 if (l.map (·.1)).contains k then l.map (fun p=>if p.1=k then (p.1,v) else p) else l++[(k,v)]
def bO (size far:Nat) (sm:List (List Nat × List Nat)) (row:List Nat):List (List Nat × List Nat):=xb sm (bX size far row) ((getL sm (bX size far row)).getD []++(row.drop far).take 1)
def BA (size far:Nat) (rows:List (List Nat)):List (List Nat × List Nat):=rows.foldl (bO size far) []
def bM (size n:Nat):List (List Nat):=(cG n).filter fun row=>(tw size row).isNone
def cR (l:List Nat):List Nat:=(cj (l.map fun (x:Nat)=>(x:Int))).map Int.toNat
def vJ (size n far:Nat):Bool :=
 let sm:=BA size far (bM size n)
 let told:=ee size n far
 told==wz (sm.map (·.1))&&lA ((sm.map (·.1)).map kI)&&nnB (sm.map (·.1))&&Nat.ble told.length 64&&told.all fun own=>Nat.ble own.length 6&&match getL sm own with
  | some v=>cR v==own
  | none=>false
def gb (size n:Nat):Bool:=(List.range (n+1)).all fun far=>vJ size n far
end Ev.K68
namespace Ev.K20
open PySem Ev Ev.Bu Ev.U Ev.Ch
section
variable {call:Nat→List D→Option (D × List D)} {io:Nat→List Nat} {it ia ie ican itoo ilst is:Nat}
end
end Ev.K20
namespace Ev.K68
open PySem Ev Ev.Bu Ev.U Ev.Ch Ev.Ob Ev.K27
def dT (o:Bool) (l:List (List Nat × List Nat)):D:=.dtk o (l.map fun p=>kI p.1) (l.map fun p=>tN p.2)
theorem G5 (k:List Nat):∀ l:List (List Nat × List Nat),atK (l.map fun p=>kI p.1) (l.map fun p=>tN p.2) (kI k)=(getL l k).map tN
 | []=>rfl
 | p::l=>by
  have ih:=G5 k l
  unfold atK getL at *
  simp only [List.map_cons,List.zip_cons_cons,List.find?_cons]
  by_cases h:p.1=k
  ·rw [decide_eq_true h,decide_eq_true (show kI p.1=kI k by rw [h])]
   rfl
  ·rw [decide_eq_false h,decide_eq_false (show ¬ kI p.1=kI k from fun e=>h (ud e))]
   exact ih
theorem qj (k:List Nat) (l:List (List Nat × List Nat)):(l.map fun p=>kI p.1).contains (kI k)=(l.map (·.1)).contains k:=by
 have:=th (l.map (·.1)) k
 rw [List.map_map] at this
 exact this
theorem lO (k:List Nat) (v:List Nat):∀ l:List (List Nat × List Nat),((l.map fun p=>kI p.1).zip (l.map fun p=>tN p.2)).map (fun p=>if p.1=kI k then tN v else p.2)=(l.map fun p=>if p.1=k then (p.1,v) else p).map fun p=>tN p.2
 | []=>rfl
 | p::l=>by
  simp only [List.map_cons,List.zip_cons_cons,lO k v l]
  congr 1
  by_cases h:p.1=k
  ·rw [if_pos h,if_pos (show kI p.1=kI k by rw [h])]
  ·rw [if_neg h,if_neg (show ¬ kI p.1=kI k from fun e=>h (ud e))]
theorem mb (k:List Nat) (v:List Nat):∀ l:List (List Nat × List Nat),(l.map fun p=>if p.1=k then (p.1,v) else p).map (fun p=>kI p.1)=l.map fun p=>kI p.1
 | []=>rfl
 | p::l=>by
  simp only [List.map_cons,mb k v l]
  congr 1
  split<;>rfl
theorem G0 (l:List (List Nat × List Nat)) (k v:List Nat):putD (l.map fun p=>kI p.1) (l.map fun p=>tN p.2) (kI k) (tN v)=((xb l k v).map (fun p=>kI p.1),(xb l k v).map fun p=>tN p.2):=by
 unfold putD xb
 rw [qj]
 split
 ·rw [lO,mb]
 ·simp
theorem xO (l:List (List Nat × List Nat)) (k v:List Nat):(xb l k v).length≤l.length+1:=by
 unfold xb
 split
 ·rw [List.length_map];omega
 ·simp
theorem u9 {l:List (List Nat × List Nat)} {k v:List Nat} {B:Nat} (h:∀ p∈l,p.2.length≤B) (b:v.length≤B):∀ p∈xb l k v,p.2.length≤B:=by
 intro p a
 unfold xb at a
 split at a
 ·obtain ⟨q,c,rfl⟩:=List.mem_map.mp a
  split
  ·exact b
  ·exact h q c
 ·rcases List.mem_append.mp a with a | a
  ·exact h p a
  ·cases List.mem_singleton.mp a
   exact b
theorem pC {l:List (List Nat × List Nat)} {k v:List Nat} (h:getL l k=some v):∃ p∈l,p.2=v:=by
 unfold getL at h
 obtain ⟨p,a,rfl⟩:=Option.map_eq_some_iff.mp h
 exact ⟨p,List.mem_of_find?_eq_some a,rfl⟩
theorem vh {l:List (List Nat × List Nat)} {k:List Nat} {B:Nat} (h:∀ p∈l,p.2.length≤B):((getL l k).getD []).length≤B:=by
 cases e:getL l k with
 | none=>simp
 | some v =>
  obtain ⟨p,a,rfl⟩:=pC e
  exact h p a
theorem kR (size far:Nat):∀ (rows:List (List Nat)) (l:List (List Nat × List Nat)) (B:Nat),(∀ p∈l,p.2.length≤B)→(rows.foldl (bO size far) l).length≤l.length+rows.length∧∀ p∈rows.foldl (bO size far) l,p.2.length≤B+rows.length
 | [],l,B,h=>⟨by simp,by simpa using h⟩
 | r::rows,l,B,h=>by
  have b:(((getL l (bX size far r)).getD []++(r.drop far).take 1)).length≤B+1:=by
   have:=vh (k:=bX size far r) h
   rw [List.length_append]
   have:((r.drop far).take 1).length≤1:=by rw [List.length_take];omega
   omega
  have hs:=u9 (k:=bX size far r) (fun p a=>Nat.le_succ_of_le (h p a)) b
  have c:=xO l (bX size far r) ((getL l (bX size far r)).getD []++(r.drop far).take 1)
  obtain ⟨i1,i2⟩:=kR size far rows (bO size far l r) (B+1) hs
  rw [List.foldl_cons,List.length_cons]
  refine ⟨?_,fun p a=>?_⟩
  ·unfold bO at i1 ⊢
   omega
  ·have:=i2 p a
   omega
def bh:Fn:={ n:=5,ps:=3,io:=[],body:=[.asg (.nm 3) (.slice (.var 1) none (some (.var 2))),
  .ret (.bi .tuple1 [(.lc (.var 4) (.nm 4) .range [(.bi .min2 [(.bi .len [(.var 1)]),(.bin .add (.var 0) (.var 2))])] [(.cmp .notin (.var 4) (.var 3))] [4])])] }
def aH (il ih is:Nat):Fn:={ n:=8,ps:=4,io:=[],body:=[.asg (.nm 4) .dtk0,
  .for_ (.nm 5) .val [(.var 3)] [.asg (.nm 7) (.call il [(.var 0),(.var 5),(.var 2)]),
  .setD 4 (.var 7) (.bin .add (.dgt 4 (.var 7) (.tup [])) (.slice (.var 5) (some (.var 2)) (some (.bin .add (.var 2) (.int 1)))))],
  .asg (.nm 6) (.call ih [(.var 0),(.var 1),(.var 2)]),
  .ifs (.bnot (.call is [(.var 6),(.bi .sorted1 [(.var 4)])])) [.ret (.bl false)] [],
  .ret (.cmp .eq (.lc (.var 7) (.nm 7) .val [(.var 6)] [(.cmp .ne (.bi .tuple1 [(.bi .sset [(.dix 4 (.var 7))])]) (.var 7))] [7]) (.lst []))] }
section
variable {call:Nat→List D→Option (D × List D)} {io:Nat→List Nat}
theorem w6 {size far:Nat} {row:List Nat} (hs:size≤1000) (hf:far≤1000) (h:row.length≤1000):dh ⟨call,io,[]⟩ bh [.int size,tN row,.int far]=some (tN (bX size far row),[]):=by
 have f1:=bj row
 have t1:=zj nt row far
 have g1:=bj (row.take far)
 have em:(if (size:Int)+(far:Int)<(row.length:Int) then (size:Int)+(far:Int) else (row.length:Int))=((min row.length (size+far):Nat):Int):=by split<;>omega
 have b:=cK (t:=min row.length (size+far)) (by omega)
 rw [eJ,← em] at b
 have c1:(row.take far).length≤cap:=by rw [List.length_take];unfold cap;omega
 rw [show bX size far row=(List.range (min row.length (size+far))).filter (fun x=>!(row.take far).contains x) from rfl]
 generalize row.take far=tk at *
 refine W.run (f:=bh) (δ0:=[some (nt size),some (tN row),some (nt far),none,none]) rfl rfl ?_
 refine W.cons (δ1:=[some (nt size),some (tN row),some (nt far),some (tN tk),none]) (by
  unfold tN
  generalize row.map nt=i at *
  generalize tk.map nt=TF at *
  simp [f1,t1,g1,partsOf];done) ?_
 have a:=lcN (C:=⟨call,io,[]⟩) (v:=4) (c:=.cmp .notin (.var 4) (.var 3)) (k:=.range) (its:=[.bi .min2 [(.bi .len [(.var 1)]),(.bin .add (.var 0) (.var 2))]]) (δ0:=[some (nt size),some (tN row),some (nt far),some (tN tk),none]) (δ:=[some (nt size),some (tN row),some (nt far),some (tN tk),none]) (xs:=List.range (min row.length (size+far))) (fun x=>!tk.contains x) rfl (fun m=>by
   generalize tN tk=TT at *
   generalize (List.range (min row.length (size+far))).map nt=UU at *
   simp [f1,b]) (by simp) (by simp [cH]) (by rw [List.length_range];unfold cap;omega) (fun w hw m=>by have e:=wO w tk;simp [g1,e])
 have fz:=bj (((List.range (min row.length (size+far))).filter fun x=>!tk.contains x))
 generalize tN tk=TT at *
 generalize ((List.range (min row.length (size+far))).filter fun x=>!tk.contains x)=g at *
 exact W.ret (d:=tN g) (δ1:=[some (nt size),some (tN row),some (nt far),some TT,none]) (by simp [a,items,fz];done) ⟨_,rfl,rfl⟩
theorem uF {il size far n:Nat} (b:io il=[]) {a1 a3 a6 a7:Option D} {sm:List (List Nat × List Nat)} {row:List Nat} (h:row.length≤100) (i:sm.length≤1000) (c:∀ p∈sm,p.2.length≤1000) (cl:call il [.int size,tN row,.int far]=some (tN (bX size far row),[])) (m:Nat) :
  bg ⟨call,io,[]⟩ (m+40) [.asg (.nm 7) (.call il [(.var 0),(.var 5),(.var 2)]),.setD 4 (.var 7) (.bin .add (.dgt 4 (.var 7) (.tup [])) (.slice (.var 5) (some (.var 2)) (some (.bin .add (.var 2) (.int 1)))))] [some (nt size),a1,some (nt far),a3,some (dT true sm),some (tN row),a6,a7] =
   some (.nx [some (nt size),a1,some (nt far),a3,some (dT true (bO size far sm row)),some (tN row),a6,some (tN (bX size far row))]):=by
 have f1:=bj row
 unfold bO
 have f2:=bj (bX size far row)
 have key:nk (.tup ((bX size far row).map nt))=some (kI (bX size far row)):=gY _
 have lv:=vh (k:=bX size far row) c
 have d:(atK (sm.map fun p=>kI p.1) (sm.map fun p=>tN p.2) (kI (bX size far row))).getD (.tup [])=.tup (((getL sm (bX size far row)).getD []).map nt):=by
  rw [G5]
  cases getL sm (bX size far row)<;>rfl
 have t1:=wD nt row far (far+1)
 rw [show far+1-far=1 by omega,show (((far+1:Nat)):Int)=(far:Int)+1 by omega] at t1
 have g1:=bj ((row.drop far).take 1)
 have e:((row.drop far).take 1).length≤1:=by rw [List.length_take];omega
 have ep:=G0 sm (bX size far row) ((getL sm (bX size far row)).getD []++(row.drop far).take 1)
 have s1:evS ⟨call,io,[]⟩ (m+39) (.asg (.nm 7) (.call il [(.var 0),(.var 5),(.var 2)])) [some (nt size),a1,some (nt far),a3,some (dT true sm),some (tN row),a6,a7]=some (.nx [some (nt size),a1,some (nt far),a3,some (dT true sm),some (tN row),a6,some (tN (bX size far row))]):=by
  generalize dT true sm=DD at *
  generalize bX size far row=a at *
  simp [b,f1,f2,cl]
 refine (aR _ (m+39) _ _ _ s1).trans ?_
 generalize bX size far row=a at *
 generalize hw:(getL sm a).getD []=w at *
 have g2:=bj w
 have lw:(w.map nt).length+(((row.drop far).take 1).map nt).length≤cap:=by rw [List.length_map,List.length_map];unfold cap;omega
 have g3:=bj (w++(row.drop far).take 1)
 have em:(w++(row.drop far).take 1).map nt=w.map nt++((row.drop far).take 1).map nt:=List.map_append ..
 have bl:Nat.ble (sm.map fun p=>kI p.1).length 100000=true:=by rw [List.length_map,Nat.ble_eq];omega
 have f:evV ⟨call,io,[]⟩ (m+37) (.bin .add (.dgt 4 (.var 7) (.tup [])) (.slice (.var 5) (some (.var 2)) (some (.bin .add (.var 2) (.int 1))))) [some (nt size),a1,some (nt far),a3,some (dT true sm),some (tN row),a6,some (tN a)] =
   some (tN (w++(row.drop far).take 1),[some (nt size),a1,some (nt far),a3,some (dT true sm),some (tN row),a6,some (tN a)]):=by
  unfold dT tN at *
  rw [em]
  generalize kI a=KO at *
  generalize a.map nt=LN at *
  generalize w.map nt=WN at *
  generalize ((row.drop far).take 1).map nt=TN at *
  generalize row.map nt=RN at *
  generalize (sm.map fun p=>kI p.1)=KK at *
  generalize (sm.map fun p=>D.tup (p.2.map nt))=VV at *
  simp [f1,f2,key,d,t1,g1,g2,lw,partsOf,cap]
 have s2:evS ⟨call,io,[]⟩ (m+38) (.setD 4 (.var 7) (.bin .add (.dgt 4 (.var 7) (.tup [])) (.slice (.var 5) (some (.var 2)) (some (.bin .add (.var 2) (.int 1)))))) [some (nt size),a1,some (nt far),a3,some (dT true sm),some (tN row),a6,some (tN a)] =
   some (.nx [some (nt size),a1,some (nt far),a3,some (dT true (xb sm a (w++(row.drop far).take 1))),some (tN row),a6,some (tN a)]):=by
  rw [rT,f]
  dsimp only
  have g:(tN (w++(row.drop far).take 1)).frz=tN (w++(row.drop far).take 1):=yx _ (eA _)
  rw [show evE ⟨call,io,[]⟩ (m+37) (.var 4) [some (nt size),a1,some (nt far),a3,some (dT true sm),some (tN row),a6,some (tN a)]=some (.bor 4 [],[some (nt size),a1,some (nt far),a3,some (dT true sm),some (tN row),a6,some (tN a)]) by simp [dT]]
  dsimp only
  rw [show evV ⟨call,io,[]⟩ (m+37) (.var 7) [some (nt size),a1,some (nt far),a3,some (dT true sm),some (tN row),a6,some (tN a)]=some (tN a,[some (nt size),a1,some (nt far),a3,some (dT true sm),some (tN row),a6,some (tN a)]) by generalize dT true sm=DD;simp [f2]]
  simp only [gY,g]
  unfold dT
  simp only [nN,om,bl,if_true,ep]
  rfl
 exact (aR _ (m+38) _ _ _ s2).trans (gu _ (m+37) _)
theorem v9 {v own:List Nat} (h:cR v=own):(cj (v.map fun (x:Nat)=>(x:Int))).map D.int=own.map nt∧(cj (v.map fun (x:Nat)=>(x:Int))).length=own.length:=by
 subst h
 unfold cR
 refine ⟨?_,(List.length_map ..).symm⟩
 rw [List.map_map]
 refine List.map_congr_left fun z a=>?_
 have:=dD.mp a
 obtain ⟨y,_,rfl⟩:=List.mem_map.mp this
 simp
theorem j0 {il ih is size n far:Nat} (g:io il=[]) (i:io ih=[]) (j:io is=[]) (hs:size≤6) (hn:n≤6) (hf:far≤6) (l:vJ size n far=true) (Q:(bM size n).length≤800) (r:∀ row∈bM size n,row.length≤100)
  (F:∀ row:List Nat,row.length≤100→call il [.int size,tN row,.int far]=some (tN (bX size far row),[])) (G:call ih [.int size,.int n,.int far]=some (.lst true ((ee size n far).map tN),[]))
  (SS:∀ xs:List (List Nat),xs.length≤1000→(∀ x∈xs,x.length≤1000)→call is [.lst false (xs.map tN),.lst true (xs.map tN)]=some (.bl true,[])) :
  dh ⟨call,io,[]⟩ (aH il ih is) [.int size,.int n,.int far,.lst false ((bM size n).map tN)]=some (.bl true,[]):=by
 unfold vJ at l
 simp only [Bool.and_eq_true,beq_iff_eq,Nat.ble_eq,List.all_eq_true] at l
 obtain ⟨⟨⟨⟨c1,c2⟩,c3⟩,c4⟩,c5⟩:=l
 unfold BA at *
 have fr:=df (bM size n)
 have H:=cU (bM size n)
 generalize hrows:bM size n=rows at *
 refine W.run (f:=aH il ih is) (δ0:=[some (nt size),some (nt n),some (nt far),some (.lst false (rows.map tN)),none,none,none,none]) rfl rfl ?_
 refine W.cons (δ1:=[some (nt size),some (nt n),some (nt far),some (.lst false (rows.map tN)),some (dT true []),none,none,none]) (by generalize rows.map tN=b at *;simp [dT];done) ?_
 refine W.for (fun pre δ=>∃ a5 a6:Option D,∃ w:List Nat,∃ a7:Option D,(a7=none∨a7=some (tN w))∧δ=[some (nt size),some (nt n),some (nt far),some (.lst false (rows.map tN)),some (dT true (pre.foldl (bO size far) [])),a5,none,a7]) tN rows (δ1:=[some (nt size),some (nt n),some (nt far),some (.lst false (rows.map tN)),some (dT true []),none,none,none]) ?_ ⟨none,none,[],none,.inl rfl,rfl⟩ ?_ ?_
 ·generalize dT true []=DD at *
  generalize rows.map tN=b at *
  simp [fr,H]
 ·rintro pre x post δ eq ⟨a5,a6,w,a7,_,rfl⟩
  have c:x∈rows:=by rw [eq];simp
  have e:pre.length≤800:=by
   have:=congrArg List.length eq
   simp only [List.length_append] at this
   omega
  obtain ⟨i1,i2⟩:=kR size far pre [] 0 (fun p h=>nomatch h)
  simp only [List.length_nil] at i1
  refine ⟨[some (nt size),some (nt n),some (nt far),some (.lst false (rows.map tN)),some (dT true (pre.foldl (bO size far) [])),some (tN x),none,a7],by simp,?_⟩
  have h:=uF (call:=call) (io:=io) (a1:=some (nt n)) (a3:=some (.lst false (rows.map tN))) (a6:=none) (a7:=a7) (sm:=pre.foldl (bO size far) []) (n:=n) g (r x c) (by omega) (fun p o=>by have:=i2 p o;omega) (F x (r x c)) 57
  refine ⟨_,h,some (tN x),none,bX size far x,_,.inr rfl,?_⟩
  rw [List.foldl_append]
  rfl
 ·rintro δ ⟨a5,a6,w,a7,ha7,rfl⟩
  obtain ⟨i1,i2⟩:=kR size far rows [] 0 (fun p h=>nomatch h)
  simp only [List.length_nil] at i1
  generalize hsm:rows.foldl (bO size far) []=sm at *
  have I:cH [some (nt size),some (nt n),some (nt far),some (.lst false (rows.map tN)),some (dT true sm),a5,some (.lst false ((ee size n far).map tN)),a7] [7]=true:=by
   rcases ha7 with rfl | rfl
   ·rfl
   ·show ((tN w).fz&&true)=true
    rw [eA]
    rfl
  have s:=df (ee size n far)
  have t:=cU (ee size n far)
  have u:=sM c3
  rw [← c1] at u
  have J:(sm.map fun p=>kI p.1)=(sm.map (·.1)).map kI:=by rw [List.map_map];rfl
  have ss:=SS (ee size n far) (by omega) (fun x c=>by have:=(c5 x c).1;omega)
  generalize R:ee size n far=told at *
  refine W.cons (δ1:=[some (nt size),some (nt n),some (nt far),some (.lst false (rows.map tN)),some (dT true sm),a5,some (.lst true (told.map tN)),a7]) (by
   generalize dT true sm=DD at *
   generalize rows.map tN=b at *
   generalize told.map tN=TT at *
   simp [i,G];done) ?_
  refine W.skip (δ1:=[some (nt size),some (nt n),some (nt far),some (.lst false (rows.map tN)),some (dT true sm),a5,some (.lst true (told.map tN)),a7]) (by
   have K:∀ z:Bool,isAtom (.bl z)=true:=fun _=>rfl
   have L:biD .sorted1 [dT true sm]=some (.lst true (told.map tN)):=by
    unfold dT
    rw [J]
    show (if lA ((sm.map (·.1)).map kI) then some (D.lst true ((fE ((sm.map (·.1)).map kI)).map tupI)) else none)=_
    rw [c2,u]
    rfl
   have ld:(dT true sm).fz=false:=rfl
   generalize dT true sm=DD at *
   generalize rows.map tN=b at *
   generalize told.map tN=TT at *
   simp [j,L,ld,s,t,ss,K];done) ?_
  have q:∀ m,evE ⟨call,io,[]⟩ (m+40) (.lc (.var 7) (.nm 7) .val [(.var 6)] [(.cmp .ne (.bi .tuple1 [(.bi .sset [(.dix 4 (.var 7))])]) (.var 7))] [7]) [some (nt size),some (nt n),some (nt far),some (.lst false (rows.map tN)),some (dT true sm),a5,some (.lst true (told.map tN)),a7] =
    some (.tmp (.lst true []),[some (nt size),some (nt n),some (nt far),some (.lst false (rows.map tN)),some (dT true sm),a5,some (.lst false (told.map tN)),a7]):=fun m=>by
   refine (fR (C:=⟨call,io,[]⟩) (n:=m+38) (v:=7) (p:=fun _=>false) (f:=fun d=>d) (xs:=told.map tN) (δ:=[some (nt size),some (nt n),some (nt far),some (.lst false (rows.map tN)),some (dT true sm),a5,some (.lst false (told.map tN)),a7]) rfl ?_ (by simp) I (by rw [List.length_map];unfold cap;omega) (fun y B=>?_) (fun y B e=>by cases e)).trans ?_
   ·generalize dT true sm=DD at *
    generalize rows.map tN=b at *
    generalize told.map tN=TT at *
    simp [s,t]
   ·obtain ⟨own,M,rfl⟩:=List.mem_map.mp B
    obtain ⟨o1,o2⟩:=c5 own M
    cases hg:getL sm own with
    | none=>rw [hg] at o2;cases o2
    | some v =>
     rw [hg] at o2
     simp only [beq_iff_eq] at o2
     obtain ⟨s1,s2⟩:=v9 o2
     obtain ⟨p,e,N⟩:=pC hg
     have lv:v.length≤3000:=by have:=i2 p e;rw [N] at this;omega
     have a:=G5 own sm
     rw [hg] at a
     simp only [Option.map_some] at a
     have iv:intsOf (v.map nt)=some (v.map fun (x:Nat)=>(x:Int)):=by
      have:=eF (v.map fun (x:Nat)=>(x:Int))
      rw [List.map_map] at this
      exact this
     have bs:biD .sset [tN v]=some (.lst true (own.map nt)):=by
      show (match intsOf (v.map nt) with
       | some ns=>if Nat.ble (v.map nt).length 3000&&Nat.blt (cj ns).length 64 then some (D.lst true ((cj ns).map D.int)) else none
       | none=>none)=_
      rw [iv]
      dsimp only
      rw [s1,s2,List.length_map,Nat.ble_eq.mpr lv,Nat.blt_eq.mpr (show own.length<64 by omega)]
      rfl
     have O:=bj own
     have ko:nk (.tup (own.map nt))=some (kI own):=gY own
     have pl:(tN own).ok 60=true:=nG 59 own
     have es:(tN own).eq (tN own)=true:=D.eq_self (k:=60) _ pl
     have P:=eA v
     show evT ⟨call,io,[]⟩ (m+38) _ [some (nt size),some (nt n),some (nt far),some (.lst false (rows.map tN)),some (dT true sm),a5,some (.lst false (told.map tN)),some (tN own)]=some (false,[some (nt size),some (nt n),some (nt far),some (.lst false (rows.map tN)),some (dT true sm),a5,some (.lst false (told.map tN)),some (tN own)])
     unfold dT
     generalize (sm.map fun p=>tN p.2)=VV at *
     generalize (sm.map fun p=>kI p.1)=KK at *
     generalize rows.map tN=b at *
     generalize told.map tN=TT at *
     generalize tN v=TV at *
     unfold tN at *
     generalize own.map nt=ON at *
     generalize kI own=KO at *
     simp [O,ko,a,bs,P,items,plain,pl,es]
   ·simp
  exact W.ret (d:=.bl true) (δ1:=[some (nt size),some (nt n),some (nt far),some (.lst false (rows.map tN)),some (dT true sm),a5,some (.lst false (told.map tN)),a7]) (by
   generalize dT true sm=DD at *
   generalize rows.map tN=b at *
   generalize told.map tN=TT at *
   simp [q,plain];done) ⟨_,rfl,rfl⟩
def aO (ir ic io1:Nat):Fn:={ n:=5,ps:=2,io:=[],body:=[.asg (.nm 2) (.lc (.var 3) (.nm 3) .val [(.call ir [(.var 1)])] [(.call ic [(.var 0),(.var 3)])] [3]),
  .ret (.cmp .eq (.lc (.var 4) (.nm 4) .range [(.bin .add (.var 1) (.int 1))] [(.bnot (.call io1 [(.var 0),(.var 1),(.var 4),(.var 2)]))] [4]) (.lst []))] }
def bq (it ir ic io1 ial:Nat):Fn:={ n:=6,ps:=1,io:=[0],body:=[.for_ (.nm 1) .range [(.int 1),(.int 6)] [.for_ (.nm 3) .range [(.int 6)] [.ifs (.bnot (.call ial [(.var 1),(.var 3)])) [.ret (.bl false)] []]],
  .par [1,4] [(.bin .add (.int 1) (.call it [(.var 0),(.int 6)])),(.call it [(.var 0),(.int 7)])],
  .asg (.nm 2) (.lc (.var 5) (.nm 5) .val [(.call ir [(.int 6)])] [(.call ic [(.var 1),(.var 5)])] [5]),
  .ret (.call io1 [(.var 1),(.int 6),(.var 4),(.var 2)])] }
theorem gX {n:Nat} (hn:n≤6):(cG n).length≤800:=by
 have:n=0∨n=1∨n=2∨n=3∨n=4∨n=5∨n=6:=by omega
 have h:([0,1,2,3,4,5,6].all fun n=>Nat.ble (cG n).length 800)=true:=by decide +kernel
 exact Nat.ble_eq.mp (List.all_eq_true.mp h n (by simp only [List.mem_cons,List.not_mem_nil,or_false];omega))
theorem vi {size n:Nat} (hn:n≤6):(bM size n).length≤800:=Nat.le_trans (List.length_filter_le ..) (gX hn)
theorem tH {size n:Nat} (hn:n≤6):∀ row∈bM size n,row.length≤6:=fun row h=>by
 have:=(cx n n).1 row (List.mem_filter.mp h).1
 omega
def iZ (call:Nat→List D→Option (D × List D)) (i n:Nat):Prop:=call i [.int n]=some (.lst false ((cG n).map tN),[])∨call i [.int n]=some (.lst true ((cG n).map tN),[])
section
variable {call:Nat→List D→Option (D × List D)} {io:Nat→List Nat}
theorem jP {ir ic a size n:Nat} (q:io ir=[]) (r:io ic=[]) (s:io a=[]) (hs:size≤100) (hn:n≤6) (g:iZ call ir n) (l:∀ row:List Nat,row.length≤6→call ic [.int size,tN row]=some (.bl (tw size row).isNone,[]))
  (u:∀ far,far≤n→call a [.int size,.int n,.int far,.lst false ((bM size n).map tN)]=some (.bl true,[])):dh ⟨call,io,[]⟩ (aO ir ic a) [.int size,.int n]=some (.bl true,[]):=by
 have fr:=df (cG n)
 have x:=cU (cG n)
 have J:=gX hn
 have h:∀ m,evE ⟨call,io,[]⟩ (m+40) (.lc (.var 3) (.nm 3) .val [(.call ir [(.var 1)])] [(.call ic [(.var 0),(.var 3)])] [3]) [some (nt size),some (nt n),none,none,none]=some (.tmp (.lst true ((bM size n).map tN)),[some (nt size),some (nt n),none,none,none]):=fun m=>by
  refine (fR (C:=⟨call,io,[]⟩) (n:=m+38) (v:=3) (p:=fun d=>match d with
   | .tup xs=>match call ic [.int size,.tup xs] with
    | some (.bl b,_)=>b
    | _=>false
   | _=>false) (f:=fun d=>d) (xs:=(cG n).map tN) (δ:=[some (nt size),some (nt n),none,none,none]) rfl ?_ (by simp) (by simp [cH]) (by rw [List.length_map];unfold cap;omega) (fun y i=>?_) (fun y i K=>?_)).trans ?_
  ·unfold iZ at g
   generalize (cG n).map tN=RN at *
   rcases g with g | g<;>simp [q,g,fr,x]
  ·obtain ⟨row,j,rfl⟩:=List.mem_map.mp i
   have B:=(cx n n).1 row j
   have cc:=l row (by omega)
   have f:=bj row
   simp only [tN] at cc ⊢
   rw [cc]
   simp [f,r,cc]
  ·obtain ⟨row,_,rfl⟩:=List.mem_map.mp i
   have f:=bj row
   simp [f]
  ·simp only [List.map_id',List.filter_map]
   have:((cG n).filter ((fun d=>match d with
    | .tup xs=>match call ic [.int size,.tup xs] with
     | some (.bl b,_)=>b
     | _=>false
    | _=>false)∘tN))=bM size n:=by
    unfold bM
    apply List.filter_congr
    intro row j
    have B:=(cx n n).1 row j
    have cc:=l row (by omega)
    simp only [tN] at cc
    simp only [Function.comp,tN,cc]
   rw [this]
 have fz:=df (bM size n)
 have F:=cU (bM size n)
 refine W.run (f:=aO ir ic a) (δ0:=[some (nt size),some (nt n),none,none,none]) rfl rfl ?_
 refine W.cons (δ1:=[some (nt size),some (nt n),some (.lst true ((bM size n).map tN)),none,none]) (by
  generalize (bM size n).map tN=RF at *
  simp [h];done) ?_
 have o:=cK (t:=n+1) (by omega)
 rw [eJ,show (((n+1:Nat)):Int)=(n:Int)+1 by omega] at o
 have e:=lcN (C:=⟨call,io,[]⟩) (v:=4) (c:=.bnot (.call a [(.var 0),(.var 1),(.var 4),(.var 2)])) (k:=.range) (its:=[.bin .add (.var 1) (.int 1)]) (δ0:=[some (nt size),some (nt n),some (.lst true ((bM size n).map tN)),none,none]) (δ:=[some (nt size),some (nt n),some (.lst true ((bM size n).map tN)),none,none]) (xs:=List.range (n+1)) (fun _=>false) rfl (fun m=>by
   generalize (bM size n).map tN=RF at *
   generalize (List.range (n+1)).map nt=UU at *
   simp [o]) (by simp) (by simp [cH]) (by rw [List.length_range];unfold cap;omega) (fun w hw m=>by
   have G:=List.mem_range.mp hw
   have H:=u w (by omega)
   have I:∀ z:Bool,isAtom (.bl z)=true:=fun _=>rfl
   generalize (bM size n).map tN=RF at *
   simp [s,H,fz,F,I])
 rw [show (List.range (n+1)).filter (fun _=>false)=[] by simp] at e
 generalize (bM size n).map tN=RF at *
 exact W.ret (d:=.bl true) (δ1:=[some (nt size),some (nt n),some (.lst true RF),none,none]) (by simp [e,plain];done) ⟨_,rfl,rfl⟩
theorem tO {it ir ic a e:Nat} (hit:io it=[0]) (B:io ir=[]) (F:io ic=[]) (G:io a=[]) (H:io e=[]) (TS:tR call it) (h:iZ call ir 6) (r:∀ (size:Nat) (row:List Nat),size≤6→row.length≤6→call ic [.int size,tN row]=some (.bl (tw size row).isNone,[]))
  (I:∀ size n:Nat,1≤size→size≤5→n≤5→call e [.int size,.int n]=some (.bl true,[])) (J:∀ size far:Nat,1≤size→size≤6→far≤6→call a [.int size,.int 6,.int far,.lst false ((bM size 6).map tN)]=some (.bl true,[]))
  {d:D} {c:Int} (s:Box c d) (V:c+2≤1000):∃ d',dh ⟨call,io,[0]⟩ (bq it ir ic a e) [d]=some (.bl true,[d'])∧Box (c+2) d':=by
 obtain ⟨r1,d1,g1,l1,u⟩:=tkI TS d c 6 s (by omega) (by omega) (by omega)
 obtain ⟨g,d2,g2,l2,w⟩:=tkI TS d1 (c+1) 7 u (by omega) (by omega) (by omega)
 obtain ⟨x0,rfl,f0,_⟩:=nF s
 obtain ⟨X,rfl,f1,_⟩:=nF u
 obtain ⟨x2,rfl,f2,t2⟩:=nF w
 have fr:=df (cG 6)
 have K:=cU (cG 6)
 have Y:=gX (n:=6) (by omega)
 generalize hs:1+r1=size at *
 have L:(1:Int)+(r1:Int)=(size:Int):=by omega
 have M:=J size g (by omega) (by omega) (by omega)
 have fz:=df (bM size 6)
 have N:=cU (bM size 6)
 refine ⟨.lst true x2,?_,by rw [show c+2=c+1+1 by omega];exact w⟩
 refine W.run (f:=bq it ir ic a e) (δ0:=[some (.lst true x0),none,none,none,none,none]) rfl rfl ?_
 have s1:aU 1=true:=rfl
 have O:aU 6=true:=rfl
 refine W.for (fun pre δ=>∃ a1 a3,δ=[some (.lst true x0),a1,none,a3,none,none]) nt [1,2,3,4,5] (δ1:=[some (.lst true x0),none,none,none,none,none]) (by simp [aQ,aC,s1,O];done) ⟨none,none,rfl⟩ ?_ ?_
 ·rintro pre x post δ eq ⟨a1,a3,rfl⟩
  have P:x∈[1,2,3,4,5]:=by rw [eq];simp
  simp only [List.mem_cons,List.not_mem_nil,or_false] at P
  refine ⟨[some (.lst true x0),some (nt x),none,a3,none,none],by simp,?_⟩
  refine W.for (fun pre δ=>∃ a3,δ=[some (.lst true x0),some (nt x),none,a3,none,none]) nt (List.range 6) (δ1:=[some (.lst true x0),some (nt x),none,a3,none,none]) (by
   have:aQ [.int 6]=some ((List.range 6).map nt):=(cK (t:=6) (by omega)).trans (by rw [cZ])
   simp [this]) ⟨a3,rfl⟩ ?_ ?_
  ·rintro pre2 y post2 δ eq2 ⟨i,rfl⟩
   have j:y<6:=List.mem_range.mp (by rw [eq2];simp)
   have Q:=I x y (by omega) (by omega) (by omega)
   refine ⟨[some (.lst true x0),some (nt x),none,some (nt y),none,none],by simp,?_⟩
   exact W.skip (δ1:=[some (.lst true x0),some (nt x),none,some (nt y),none,none]) (by simp [H,Q];done) (W.nil ⟨some (nt y),rfl⟩)
  ·rintro δ ⟨i,rfl⟩
   exact W.nil ⟨some (nt x),i,rfl⟩
 ·rintro δ ⟨a1,a3,rfl⟩
  refine W.cons (δ1:=[some (.lst true x2),some (nt size),none,a3,some (nt g),none]) (by simp [hit,i7,bR,g1,g2,L];done) ?_
  have k:∀ m,evE ⟨call,io,[0]⟩ (m+40) (.lc (.var 5) (.nm 5) .val [(.call ir [(.int 6)])] [(.call ic [(.var 1),(.var 5)])] [5]) [some (.lst true x2),some (nt size),none,a3,some (nt g),none]=some (.tmp (.lst true ((bM size 6).map tN)),[some (.lst true x2),some (nt size),none,a3,some (nt g),none]):=fun m=>by
   refine (fR (C:=⟨call,io,[0]⟩) (n:=m+38) (v:=5) (p:=fun d=>match d with
    | .tup xs=>match call ic [.int size,.tup xs] with
     | some (.bl b,_)=>b
     | _=>false
    | _=>false) (f:=fun d=>d) (xs:=(cG 6).map tN) (δ:=[some (.lst true x2),some (nt size),none,a3,some (nt g),none]) rfl ?_ (by simp) (by simp [cH]) (by rw [List.length_map];unfold cap;omega) (fun y j=>?_) (fun y j Z=>?_)).trans ?_
   ·unfold iZ at h
    generalize (cG 6).map tN=RN at *
    have l:call ir [.int 6]=some (.lst false RN,[])∨call ir [.int 6]=some (.lst true RN,[]):=h
    rcases l with h | h<;>simp [B,h,fr,K]
   ·obtain ⟨row,o,rfl⟩:=List.mem_map.mp j
    have q:=(cx 6 6).1 row o
    have cc:=r size row (by omega) q
    have f:=bj row
    simp only [tN] at cc ⊢
    rw [cc]
    simp [f,F,cc]
   ·obtain ⟨row,_,rfl⟩:=List.mem_map.mp j
    have f:=bj row
    simp [f]
   ·simp only [List.map_id',List.filter_map]
    have:((cG 6).filter ((fun d=>match d with
     | .tup xs=>match call ic [.int size,.tup xs] with
      | some (.bl b,_)=>b
      | _=>false
     | _=>false)∘tN))=bM size 6:=by
     unfold bM
     apply List.filter_congr
     intro row o
     have q:=(cx 6 6).1 row o
     have cc:=r size row (by omega) q
     simp only [tN] at cc
     simp only [Function.comp,tN,cc]
    rw [this]
  have R:∀ z:Bool,isAtom (.bl z)=true:=fun _=>rfl
  generalize (bM size 6).map tN=RF at *
  refine W.cons (δ1:=[some (.lst true x2),some (nt size),some (.lst true RF),a3,some (nt g),none]) (by simp [k];done) ?_
  exact W.ret (d:=.bl true) (δ1:=[some (.lst true x2),some (nt size),some (.lst true RF),a3,some (nt g),none]) (by simp [G,M,fz,N,R];done) ⟨_,rfl,by simp [bq,bc,bY,t2]⟩
end
end
end Ev.K68
namespace Ev.K68
open PySem Ev Ev.Bu Ev.U Ev.Ch Ev.Ob Ev.K27
theorem yT:([1,2,3,4,5].all fun size=>[0,1,2,3,4,5].all fun n=>gb size n)=true:=by decide +kernel
theorem c61:gb 1 6=true:=by decide +kernel
theorem c62:gb 2 6=true:=by decide +kernel
theorem of_fars {size : Nat} (h : ∀ far, far ≤ 6 → vJ size 6 far = true) : gb size 6 = true := by
  unfold gb
  rw [List.all_eq_true]
  exact fun far hf => h far (by have := List.mem_range.mp hf; omega)
theorem c63_0 : vJ 3 6 0 = true := by decide +kernel
theorem c63_1 : vJ 3 6 1 = true := by decide +kernel
theorem c63_2 : vJ 3 6 2 = true := by decide +kernel
theorem c63_3 : vJ 3 6 3 = true := by decide +kernel
theorem c63_4 : vJ 3 6 4 = true := by decide +kernel
theorem c63_5 : vJ 3 6 5 = true := by decide +kernel
theorem c63_6 : vJ 3 6 6 = true := by decide +kernel
theorem c63 : gb 3 6 = true := of_fars fun far hf => by
  have : far = 0 ∨ far = 1 ∨ far = 2 ∨ far = 3 ∨ far = 4 ∨ far = 5 ∨ far = 6 := by omega
  rcases this with rfl | rfl | rfl | rfl | rfl | rfl | rfl
  · exact c63_0
  · exact c63_1
  · exact c63_2
  · exact c63_3
  · exact c63_4
  · exact c63_5
  · exact c63_6
theorem c64_0 : vJ 4 6 0 = true := by decide +kernel
theorem c64_1 : vJ 4 6 1 = true := by decide +kernel
theorem c64_2 : vJ 4 6 2 = true := by decide +kernel
theorem c64_3 : vJ 4 6 3 = true := by decide +kernel
theorem c64_4 : vJ 4 6 4 = true := by decide +kernel
theorem c64_5 : vJ 4 6 5 = true := by decide +kernel
theorem c64_6 : vJ 4 6 6 = true := by decide +kernel
theorem c64 : gb 4 6 = true := of_fars fun far hf => by
  have : far = 0 ∨ far = 1 ∨ far = 2 ∨ far = 3 ∨ far = 4 ∨ far = 5 ∨ far = 6 := by omega
  rcases this with rfl | rfl | rfl | rfl | rfl | rfl | rfl
  · exact c64_0
  · exact c64_1
  · exact c64_2
  · exact c64_3
  · exact c64_4
  · exact c64_5
  · exact c64_6
theorem c65_0 : vJ 5 6 0 = true := by decide +kernel
theorem c65_1 : vJ 5 6 1 = true := by decide +kernel
theorem c65_2 : vJ 5 6 2 = true := by decide +kernel
theorem c65_3 : vJ 5 6 3 = true := by decide +kernel
theorem c65_4 : vJ 5 6 4 = true := by decide +kernel
theorem c65_5 : vJ 5 6 5 = true := by decide +kernel
theorem c65_6 : vJ 5 6 6 = true := by decide +kernel
theorem c65 : gb 5 6 = true := of_fars fun far hf => by
  have : far = 0 ∨ far = 1 ∨ far = 2 ∨ far = 3 ∨ far = 4 ∨ far = 5 ∨ far = 6 := by omega
  rcases this with rfl | rfl | rfl | rfl | rfl | rfl | rfl
  · exact c65_0
  · exact c65_1
  · exact c65_2
  · exact c65_3
  · exact c65_4
  · exact c65_5
  · exact c65_6
theorem c66_0 : vJ 6 6 0 = true := by decide +kernel
theorem c66_1 : vJ 6 6 1 = true := by decide +kernel
theorem c66_2 : vJ 6 6 2 = true := by decide +kernel
theorem c66_3 : vJ 6 6 3 = true := by decide +kernel
theorem c66_4 : vJ 6 6 4 = true := by decide +kernel
theorem c66_5 : vJ 6 6 5 = true := by decide +kernel
theorem c66_6 : vJ 6 6 6 = true := by decide +kernel
theorem c66 : gb 6 6 = true := of_fars fun far hf => by
  have : far = 0 ∨ far = 1 ∨ far = 2 ∨ far = 3 ∨ far = 4 ∨ far = 5 ∨ far = 6 := by omega
  rcases this with rfl | rfl | rfl | rfl | rfl | rfl | rfl
  · exact c66_0
  · exact c66_1
  · exact c66_2
  · exact c66_3
  · exact c66_4
  · exact c66_5
  · exact c66_6
theorem xS {size n far:Nat} (h:(1≤size∧size≤5∧n≤5)∨(1≤size∧size≤6∧n=6)) (hf:far≤n):vJ size n far=true:=by
 have key:gb size n=true:=by
  rcases h with ⟨a,b,c⟩ | ⟨a,b,rfl⟩
  ·exact List.all_eq_true.mp (List.all_eq_true.mp yT size (by simp only [List.mem_cons,List.not_mem_nil,or_false];omega)) n (by simp only [List.mem_cons,List.not_mem_nil,or_false];omega)
  ·have:size=1∨size=2∨size=3∨size=4∨size=5∨size=6:=by omega
   rcases this with rfl | rfl | rfl | rfl | rfl | rfl
   ·exact c61
   ·exact c62
   ·exact c63
   ·exact c64
   ·exact c65
   ·exact c66
 exact List.all_eq_true.mp key far (List.mem_range.mpr (by omega))
end Ev.K68
namespace Ev.Prog
open PySem PySem.Spec PyProof.Rows L2 Ev
def aS:Fn:={ n:=2,ps:=1,io:=[],body:=[.ret (.ite (.isi (.var 0) [.list,.tuple]) (.bi .tuple1 [(.lc (.call 0 [(.var 1)]) (.nm 1) .val [(.var 0)] [] [1])]) (.var 0))] }
def eO:Fn:={ n:=10,ps:=3,io:=[],body:=[.asg (.nm 3) (.dtk1 (.bi .trange [(.bi .min2 [(.var 0),(.var 1)])]) (.bl true)),
  .for_ (.nm 4) .range [(.var 2)] [.asg (.nm 5) (.bi .trange [(.bin .add (.var 0) (.var 4)),(.bi .min2 [(.bin .add (.bin .add (.var 0) (.var 4)) (.int 1)),(.var 1)])]),
  .asg (.nm 6) .dtk0,
  .for_ (.nm 7) .val [(.bi .list1 [(.var 3)])] [.updD 6 (.dck (.bin .add (.bi .tuple1 [(.lc (.var 9) (.nm 9) .val [(.var 7)] [(.cmp .ne (.var 9) (.var 8))] [9])]) (.var 5)) (.bl true) (.nm 8) .val [(.var 7)] [8])],
  .asg (.nm 3) (.var 6)],
  .ret (.bi .sorted1 [(.var 3)])] }
def aP:Fn:={ n:=4,ps:=2,io:=[],body:=[.for_ (.tp [2,3]) .enum [(.call 0 [(.var 1)])] [.ifs (.cmp .gt (.var 3) (.bin .sub (.bin .add (.var 2) (.var 0)) (.int 1))) [.ret (.var 2)] []],
  .ret .non] }
def bB:Fn:={ n:=2,ps:=2,io:=[],body:=[.ret (.cmp .isn (.call 2 [(.var 0),(.var 1)]) .non)] }
def bW:Fn:={ n:=3,ps:=2,io:=[],body:=[.asg (.nm 2) (.ite (.cmp .lt (.var 1) (.bi .len [(.var 0)])) (.sub (.var 0) (.var 1)) (.int 0)),
  .ret (.lst [(.bin .mul (.bi .abs [(.var 2)]) (.bi .int1 [(.cmp .ge (.bi .abs [(.var 2)]) (.bin .pow (.int 10) (.int 18)))])),(.bin .add (.bin .add (.bin .mod (.bi .int1 [(.var 2)]) (.int 2305843009213693951)) (.bin .mul (.int 39373) (.var 1))) (.int 241)),(.int 0)])] }
def aZ:Fn:={ n:=6,ps:=2,io:=[0],body:=[.ifs (.cmp .gt (.sub (.var 0) (.int 0)) (.int 0)) [.asg (.nm 5) (.bin .mod (.bi .int1 [(.sub (.var 0) (.int 0))]) (.var 1)),
  .setIx (.var 0) (.int 0) (.bin .fdiv (.sub (.var 0) (.int 0)) (.var 1)),
  .ret (.var 5)] [],
  .setIx (.var 0) (.int 2) (.bin .add (.sub (.var 0) (.int 2)) (.int 1)),
  .asg (.nm 2) (.bin .mod (.bi .int1 [(.bin .mul (.bin .add (.sub (.var 0) (.int 1)) (.bin .mul (.int 48271) (.sub (.var 0) (.int 2)))) (.bin .add (.int 39373) (.sub (.var 0) (.int 2))))]) (.int 2147483647)),
  .asg (.nm 3) (.bin .add (.bin .mod (.bi .int1 [(.var 2)]) (.int 40009)) (.int 7)),
  .asg (.nm 4) (.bin .mod (.bi .int1 [(.bin .mul (.bin .add (.bin .add (.var 2) (.sub (.var 0) (.int 2))) (.bin .fdiv (.sub (.var 0) (.int 1)) (.int 1000003))) (.var 3))]) (.int 2147483629)),
  .ret (.bin .mod (.bi .int1 [(.bin .fdiv (.bin .mod (.bi .int1 [(.bin .add (.bin .mul (.var 4) (.int 48271)) (.var 2))]) (.int 2147483587)) (.int 64))]) (.var 1))] }
def bz:Fn:={ n:=6,ps:=2,io:=[],body:=[.asg (.nm 2) (.bor [(.bi .list1 [(.slice (.var 0) none (some (.var 1)))]),(.lst [(.int 0)])]),
  .for_ (.tp [3,4]) .enum [(.slice (.var 0) (some (.var 1)) (some (.int 63)))] [.asg (.nm 5) (.bin .mod (.bi .int1 [(.var 3)]) (.var 1)),
  .setIx (.var 2) (.var 5) (.bin .add (.sub (.var 2) (.var 5)) (.bin .mul (.var 4) (.bin .add (.var 3) (.int 2))))],
  .ret (.var 2)] }
def aK:Fn:={ n:=5,ps:=2,io:=[],body:=[.ifs (.isi (.var 1) [.list,.tuple]) [.ifs (.bor [(.cmp .ne (.isi (.var 0) [.list]) (.isi (.var 1) [.list])),(.cmp .ne (.isi (.var 0) [.tuple]) (.isi (.var 1) [.tuple]))]) [.ret (.bl false)] [],
  .ret (.band [(.cmp .eq (.bi .len [(.var 0)]) (.bi .len [(.var 1)])),(.bi .all1 [(.lc (.call 7 [(.var 3),(.var 4)]) (.tp [3,4]) .zip [(.var 0),(.var 1)] [] [3,4])])])] [],
  .ifs (.isi (.var 1) [.dict]) [.ifs (.bor [(.bnot (.isi (.var 0) [.dict])),(.cmp .ne (.bi .len [(.var 0)]) (.bi .len [(.var 1)])),(.cmp .ne (.lc (.var 2) (.nm 2) .val [(.var 1)] [(.cmp .notin (.var 2) (.var 0))] [2]) (.lst []))]) [.ret (.bl false)] [],
  .ret (.bi .all1 [(.lc (.call 7 [(.sub (.var 0) (.var 2)),(.sub (.var 1) (.var 2))]) (.nm 2) .val [(.var 1)] [] [2])])] [],
  .ifs (.bor [(.cmp .isn (.var 1) .non),(.isi (.var 1) [.bool,.str])]) [.ret (.band [(.cmp .eq (.var 0) (.var 1)),(.cmp .eq (.isi (.var 0) [.bool]) (.isi (.var 1) [.bool])),(.cmp .eq (.cmp .isn (.var 0) .non) (.cmp .isn (.var 1) .non))])] [],
  .ret (.band [(.isi (.var 0) [.int]),(.bnot (.isi (.var 0) [.bool])),(.cmp .eq (.var 0) (.var 1))])] }
def aV:Fn:={ n:=6,ps:=1,io:=[],body:=[.asg (.nm 1) (.lst [(.tup [])]),
  .for_ (.nm 2) .range [(.var 0)] [.asg (.nm 3) (.lst []),
  .for_ (.nm 4) .val [(.var 1)] [.asg (.nm 3) (.bin .add (.var 3) (.lc (.bin .add (.var 4) (.tup [(.var 5)])) (.nm 5) .range [(.var 0)] [(.cmp .notin (.var 5) (.var 4))] [5]))],
  .asg (.nm 1) (.var 3)],
  .ret (.var 1)] }
def bh:Fn:={ n:=5,ps:=3,io:=[],body:=[.asg (.nm 3) (.slice (.var 1) none (some (.var 2))),
  .ret (.bi .tuple1 [(.lc (.var 4) (.nm 4) .range [(.bi .min2 [(.bi .len [(.var 1)]),(.bin .add (.var 0) (.var 2))])] [(.cmp .notin (.var 4) (.var 3))] [4])])] }
def aH:Fn:={ n:=8,ps:=4,io:=[],body:=[.asg (.nm 4) .dtk0,
  .for_ (.nm 5) .val [(.var 3)] [.asg (.nm 7) (.call 9 [(.var 0),(.var 5),(.var 2)]),
  .setD 4 (.var 7) (.bin .add (.dgt 4 (.var 7) (.tup [])) (.slice (.var 5) (some (.var 2)) (some (.bin .add (.var 2) (.int 1)))))],
  .asg (.nm 6) (.call 1 [(.var 0),(.var 1),(.var 2)]),
  .ifs (.bnot (.call 7 [(.var 6),(.bi .sorted1 [(.var 4)])])) [.ret (.bl false)] [],
  .ret (.cmp .eq (.lc (.var 7) (.nm 7) .val [(.var 6)] [(.cmp .ne (.bi .tuple1 [(.bi .sset [(.dix 4 (.var 7))])]) (.var 7))] [7]) (.lst []))] }
def aO:Fn:={ n:=5,ps:=2,io:=[],body:=[.asg (.nm 2) (.lc (.var 3) (.nm 3) .val [(.call 8 [(.var 1)])] [(.call 3 [(.var 0),(.var 3)])] [3]),
  .ret (.cmp .eq (.lc (.var 4) (.nm 4) .range [(.bin .add (.var 1) (.int 1))] [(.bnot (.call 10 [(.var 0),(.var 1),(.var 4),(.var 2)]))] [4]) (.lst []))] }
def bq:Fn:={ n:=6,ps:=1,io:=[0],body:=[.for_ (.nm 1) .range [(.int 1),(.int 6)] [.for_ (.nm 3) .range [(.int 6)] [.ifs (.bnot (.call 11 [(.var 1),(.var 3)])) [.ret (.bl false)] []]],
  .par [1,4] [(.bin .add (.int 1) (.call 5 [(.var 0),(.int 6)])),(.call 5 [(.var 0),(.int 7)])],
  .asg (.nm 2) (.lc (.var 5) (.nm 5) .val [(.call 8 [(.int 6)])] [(.call 3 [(.var 1),(.var 5)])] [5]),
  .ret (.call 10 [(.var 1),(.int 6),(.var 4),(.var 2)])] }
def Cu:Fn:={ n:=5,ps:=1,io:=[],body:=[.asg (.nm 1) (.call 6 [(.var 0),(.int 2)]),
  .for_ (.nm 2) .range [(.bi .len [(.var 1)])] [.asg (.nm 3) (.call 4 [(.var 1),(.var 2)]),
  .ifs (.bnot (.bi .all1 [(.lc (.call 12 [(.var 3)]) (.nm 4) .range [(.int 1)] [] [4])])) [.ret (.bl false)] []],
  .ret (.bl true)] }
def T:List Fn:=[aS,eO,aP,bB,bW,aZ,bz,aK,aV,bh,aH,aO,bq,Cu]
def top (i:Nat):Stmt:=PySem.Challenge.pw_stoppedloops_k68_whole_what_a_buffer_hol.main.body.getD i (.Pass ⟨0,0,0,0⟩)
abbrev gcs:List (Str × Kc):=[]
abbrev osl:List (Str × Str × Nat):=[]
abbrev d0:Def:=⟨"tupled",top 1,["thing","part"],["thing"],aS,[],gcs,"",none,osl,{},false,[],false⟩
abbrev d1:Def:=⟨"hands",top 3,["size","n","given","found","step","fresh","longer","row","item","own"],["size","n","given"],eO,[],gcs,"",none,osl,{},false,[],false⟩
abbrev d2:Def:=⟨"too_early",top 5,["size","row","place","item"],["size","row"],aP,[],gcs,"",none,osl,{},false,[],false⟩
abbrev d3:Def:=⟨"can_come",top 6,["size","row"],["size","row"],bB,[],gcs,"",none,osl,{},false,[],false⟩
abbrev d4:Def:=⟨"_law_box",top 8,["_law_script","_law_k","_law_cell"],["_law_script","_law_k"],bW,[],gcs,"",none,osl,{},false,[],false⟩
abbrev d5:Def:=⟨"_law_take",top 9,["_law_box_here","_law_below","_law_once","_law_far","_law_twice","_law_drawn"],["_law_box_here","_law_below"],aZ,[],gcs,"",none,osl,{},false,[],false⟩
abbrev d6:Def:=⟨"_law_cells",top 10,["_law_script","_law_most_so","_law_cells_here","_law_k","_law_cell","_law_at_so"],["_law_script","_law_most_so"],bz,[],gcs,"",none,osl,{},false,[],false⟩
abbrev d7:Def:=⟨"_law_same",top 11,["_law_got","_law_due","_law_own","_law_mine","_law_its"],["_law_got","_law_due"],aK,[],gcs,"",none,osl,{},false,[],false⟩
abbrev d8:Def:=⟨"_law_rows",top 12,["_law_n_so","_law_rows_here","_law_k","_law_longer","_law_row_so","_law_own"],["_law_n_so"],aV,[],gcs,"",none,osl,{},false,[],false⟩
abbrev d9:Def:=⟨"_law_left_so",top 13,["_law_size_so","_law_row_so","_law_far","_law_come","_law_own"],["_law_size_so","_law_row_so","_law_far"],bh,[],gcs,"",none,osl,{},false,[],false⟩
abbrev d10:Def:=⟨"_law_one_right",top 14,["_law_size_so","_law_n_so","_law_far","_law_rows_here","_law_some","_law_row_so","_law_told_so","_law_own"],["_law_size_so","_law_n_so","_law_far","_law_rows_here"],aH,[],gcs,"",none,osl,{},false,[],false⟩
abbrev d11:Def:=⟨"_law_all_right",top 15,["_law_size_so","_law_n_so","_law_rows_here","_law_own","_law_far"],["_law_size_so","_law_n_so"],aO,[],gcs,"",none,osl,{},false,[],false⟩
abbrev d12:Def:=⟨"_law_right",top 16,["_law_box_here","_law_size_so","_law_rows_here","_law_n_so","_law_far","_law_own"],["_law_box_here"],bq,[],gcs,"",none,osl,{},false,[],false⟩
abbrev d13:Def:=⟨"law",top 17,["_law_script","_law_cells_here","_law_k","_law_box_here","_law_turn"],["_law_script"],Cu,[],gcs,"",none,osl,{},false,[],false⟩
def defs:List Def:=[d0,d1,d2,d3,d4,d5,d6,d7,d8,d9,d10,d11,d12,d13]
theorem E9:eG defs=T:=rfl
theorem IE:d0.chk defs=true:=by decide +kernel
theorem sc0:FnScope d0.N d0.ps (defScope d0.st):=⟨by decide +kernel,by decide +kernel,by decide +kernel,by decide +kernel,by decide +kernel,by decide +kernel,by decide +kernel⟩
theorem Iv:d1.chk defs=true:=by decide +kernel
theorem sc1:FnScope d1.N d1.ps (defScope d1.st):=⟨by decide +kernel,by decide +kernel,by decide +kernel,by decide +kernel,by decide +kernel,by decide +kernel,by decide +kernel⟩
theorem Iq:d2.chk defs=true:=by decide +kernel
theorem sc2:FnScope d2.N d2.ps (defScope d2.st):=⟨by decide +kernel,by decide +kernel,by decide +kernel,by decide +kernel,by decide +kernel,by decide +kernel,by decide +kernel⟩
theorem IU:d3.chk defs=true:=by decide +kernel
theorem sc3:FnScope d3.N d3.ps (defScope d3.st):=⟨by decide +kernel,by decide +kernel,by decide +kernel,by decide +kernel,by decide +kernel,by decide +kernel,by decide +kernel⟩
theorem Jf:d4.chk defs=true:=by decide +kernel
theorem sc4:FnScope d4.N d4.ps (defScope d4.st):=⟨by decide +kernel,by decide +kernel,by decide +kernel,by decide +kernel,by decide +kernel,by decide +kernel,by decide +kernel⟩
theorem Iz:d5.chk defs=true:=by decide +kernel
theorem sc5:FnScope d5.N d5.ps (defScope d5.st):=⟨by decide +kernel,by decide +kernel,by decide +kernel,by decide +kernel,by decide +kernel,by decide +kernel,by decide +kernel⟩
theorem IM:d6.chk defs=true:=by decide +kernel
theorem sc6:FnScope d6.N d6.ps (defScope d6.st):=⟨by decide +kernel,by decide +kernel,by decide +kernel,by decide +kernel,by decide +kernel,by decide +kernel,by decide +kernel⟩
theorem Ih:d7.chk defs=true:=by decide +kernel
theorem sc7:FnScope d7.N d7.ps (defScope d7.st):=⟨by decide +kernel,by decide +kernel,by decide +kernel,by decide +kernel,by decide +kernel,by decide +kernel,by decide +kernel⟩
theorem IT:d8.chk defs=true:=by decide +kernel
theorem sc8:FnScope d8.N d8.ps (defScope d8.st):=⟨by decide +kernel,by decide +kernel,by decide +kernel,by decide +kernel,by decide +kernel,by decide +kernel,by decide +kernel⟩
theorem Ia:d9.chk defs=true:=by decide +kernel
theorem sc9:FnScope d9.N d9.ps (defScope d9.st):=⟨by decide +kernel,by decide +kernel,by decide +kernel,by decide +kernel,by decide +kernel,by decide +kernel,by decide +kernel⟩
theorem FZ:d10.chk defs=true:=by decide +kernel
theorem IY:FnScope d10.N d10.ps (defScope d10.st):=⟨by decide +kernel,by decide +kernel,by decide +kernel,by decide +kernel,by decide +kernel,by decide +kernel,by decide +kernel⟩
theorem FD:d11.chk defs=true:=by decide +kernel
theorem IX:FnScope d11.N d11.ps (defScope d11.st):=⟨by decide +kernel,by decide +kernel,by decide +kernel,by decide +kernel,by decide +kernel,by decide +kernel,by decide +kernel⟩
theorem GP:d12.chk defs=true:=by decide +kernel
theorem IK:FnScope d12.N d12.ps (defScope d12.st):=⟨by decide +kernel,by decide +kernel,by decide +kernel,by decide +kernel,by decide +kernel,by decide +kernel,by decide +kernel⟩
theorem Fh:d13.chk defs=true:=by decide +kernel
theorem IQ:FnScope d13.N d13.ps (defScope d13.st):=⟨by decide +kernel,by decide +kernel,by decide +kernel,by decide +kernel,by decide +kernel,by decide +kernel,by decide +kernel⟩
theorem xI:∀ d∈defs,d.chk defs=true:=by
 intro d hd
 simp only [defs,List.mem_cons,List.not_mem_nil,or_false] at hd
 rcases hd with rfl | rfl | rfl | rfl | rfl | rfl | rfl | rfl | rfl | rfl | rfl | rfl | rfl | rfl
 ·exact IE
 ·exact Iv
 ·exact Iq
 ·exact IU
 ·exact Jf
 ·exact Iz
 ·exact IM
 ·exact Ih
 ·exact IT
 ·exact Ia
 ·exact FZ
 ·exact FD
 ·exact GP
 ·exact Fh
theorem all_mk {l:PySem.W.OpenLaw} {w:World} {K:Frag} {h:Heap} {mg:Str→Option Value} {fa:Addr} (X:K.In h) (G:h.Ns mainGlobals mg) (bY:mg "law" = some (.ref fa)) {f0 f1 f2 f3 f4 f5 f6 f7 f8 f9 r u x B:Addr}
  {ca cb cc cd ce ch ci cl cm co cp cr cs ct cv cx cy cB cC cD F H I J L M N O:Option Addr} {cL cN da db dd de dl dm dn dq P Q R V:Array (Option Value)} {dr ds du dv Y dw dx dy dK dL Z dP dR dU dW ea aa eb ec ed ef eg ab ei ej ek el em ac en eo ep er es ad et eu ev ew ex ae ey ez eA eH eL af e0 e1 e2 e3 e4 ag e5 e6 e7 ff fg ai fi al am an ap m ar aW ba bb bd n be bi bk bm bn o bo bp bs bt bv q bw:Value}
  (a0:nsIn K mainGlobals "tupled" = some (some (.ref f0))) (l0:K.lookup f0=some ⟨dr,ca,.func (fnOf d0.name d0.name (defArgs d0.st) (defBody d0.st) (defScope d0.st) .none ds du dv cb Y dw),cL⟩) (c0:codeIn K Y d0.name=true) (k0:keepIn K (.ref f0)=true)
  (a1:nsIn K mainGlobals "hands" = some (some (.ref f1))) (l1:K.lookup f1=some ⟨dx,cc,.func (fnOf d1.name d1.name (defArgs d1.st) (defBody d1.st) (defScope d1.st) .none dy dK dL cd Z dP),cN⟩) (c1:codeIn K Z d1.name=true) (k1:keepIn K (.ref f1)=true)
  (a2:nsIn K mainGlobals "too_early" = some (some (.ref f2))) (l2:K.lookup f2=some ⟨dR,ce,.func (fnOf d2.name d2.name (defArgs d2.st) (defBody d2.st) (defScope d2.st) .none dU dW ea ch aa eb),da⟩) (c2:codeIn K aa d2.name=true) (k2:keepIn K (.ref f2)=true)
  (a3:nsIn K mainGlobals "can_come" = some (some (.ref f3))) (l3:K.lookup f3=some ⟨ec,ci,.func (fnOf d3.name d3.name (defArgs d3.st) (defBody d3.st) (defScope d3.st) .none ed ef eg cl ab ei),db⟩) (c3:codeIn K ab d3.name=true) (k3:keepIn K (.ref f3)=true)
  (a4:nsIn K mainGlobals "_law_box" = some (some (.ref f4))) (l4:K.lookup f4=some ⟨ej,cm,.func (fnOf d4.name d4.name (defArgs d4.st) (defBody d4.st) (defScope d4.st) .none ek el em co ac en),dd⟩) (c4:codeIn K ac d4.name=true) (k4:keepIn K (.ref f4)=true)
  (a5:nsIn K mainGlobals "_law_take" = some (some (.ref f5))) (l5:K.lookup f5=some ⟨eo,cp,.func (fnOf d5.name d5.name (defArgs d5.st) (defBody d5.st) (defScope d5.st) .none ep er es cr ad et),de⟩) (c5:codeIn K ad d5.name=true) (k5:keepIn K (.ref f5)=true)
  (a6:nsIn K mainGlobals "_law_cells" = some (some (.ref f6))) (l6:K.lookup f6=some ⟨eu,cs,.func (fnOf d6.name d6.name (defArgs d6.st) (defBody d6.st) (defScope d6.st) .none ev ew ex ct ae ey),dl⟩) (c6:codeIn K ae d6.name=true) (k6:keepIn K (.ref f6)=true)
  (a7:nsIn K mainGlobals "_law_same" = some (some (.ref f7))) (l7:K.lookup f7=some ⟨ez,cv,.func (fnOf d7.name d7.name (defArgs d7.st) (defBody d7.st) (defScope d7.st) .none eA eH eL cx af e0),dm⟩) (c7:codeIn K af d7.name=true) (k7:keepIn K (.ref f7)=true)
  (a8:nsIn K mainGlobals "_law_rows" = some (some (.ref f8))) (l8:K.lookup f8=some ⟨e1,cy,.func (fnOf d8.name d8.name (defArgs d8.st) (defBody d8.st) (defScope d8.st) .none e2 e3 e4 cB ag e5),dn⟩) (c8:codeIn K ag d8.name=true) (k8:keepIn K (.ref f8)=true)
  (a9:nsIn K mainGlobals "_law_left_so" = some (some (.ref f9))) (l9:K.lookup f9=some ⟨e6,cC,.func (fnOf d9.name d9.name (defArgs d9.st) (defBody d9.st) (defScope d9.st) .none e7 ff fg cD ai fi),dq⟩) (c9:codeIn K ai d9.name=true) (k9:keepIn K (.ref f9)=true)
  (a10:nsIn K mainGlobals "_law_one_right" = some (some (.ref r))) (l10:K.lookup r=some ⟨al,F,.func (fnOf d10.name d10.name (defArgs d10.st) (defBody d10.st) (defScope d10.st) .none am an ap H m ar),P⟩) (c10:codeIn K m d10.name=true) (k10:keepIn K (.ref r)=true)
  (a11:nsIn K mainGlobals "_law_all_right" = some (some (.ref u))) (l11:K.lookup u=some ⟨aW,I,.func (fnOf d11.name d11.name (defArgs d11.st) (defBody d11.st) (defScope d11.st) .none ba bb bd J n be),Q⟩) (c11:codeIn K n d11.name=true) (k11:keepIn K (.ref u)=true)
  (a12:nsIn K mainGlobals "_law_right" = some (some (.ref x))) (l12:K.lookup x=some ⟨bi,L,.func (fnOf d12.name d12.name (defArgs d12.st) (defBody d12.st) (defScope d12.st) .none bk bm bn M o bo),R⟩) (c12:codeIn K o d12.name=true) (k12:keepIn K (.ref x)=true)
  (a13:nsIn K mainGlobals "law" = some (some (.ref B))) (l13:K.lookup B=some ⟨bp,N,.func (fnOf d13.name d13.name (defArgs d13.st) (defBody d13.st) (defScope d13.st) .none bs bt bv O q bw),V⟩) (c13:codeIn K q d13.name=true) (k13:keepIn K (.ref B)=true)
  (z0:nsIn K mainGlobals "len" = some none)
  (z1:nsIn K mainGlobals "abs" = some none)
  (z2:nsIn K mainGlobals "min" = some none)
  (z3:nsIn K mainGlobals "max" = some none)
  (z4:nsIn K mainGlobals "sum" = some none)
  (z5:nsIn K mainGlobals "int" = some none)
  (z6:nsIn K mainGlobals "list" = some none)
  (z7:nsIn K mainGlobals "tuple" = some none)
  (z8:nsIn K mainGlobals "sorted" = some none)
  (z9:nsIn K mainGlobals "all" = some none)
  (z10:nsIn K mainGlobals "any" = some none)
  (z11:nsIn K mainGlobals "divmod" = some none)
  (z12:nsIn K mainGlobals "range" = some none)
  (z13:nsIn K mainGlobals "enumerate" = some none)
  (z14:nsIn K mainGlobals "zip" = some none)
  (z15:nsIn K mainGlobals "isinstance" = some none)
  (z16:nsIn K mainGlobals "bool" = some none)
  (z17:nsIn K mainGlobals "str" = some none)
  (z18:nsIn K mainGlobals "dict" = some none)
  (z19:nsIn K mainGlobals "set" = some none)
  (law:∀ ns:List Int,ns.length≤63→(∀ z∈ns,Builtin.Int.intBits z≤1048576)→evF T 60 13 [.scr ns]=some (.bl true,[])) :
  ∃ fd:FuncData,(∀ (s:Shared) (v:Value),BindsTo s fd ⟨[v],[]⟩ [("_law_script",v)])∧∀ base:Heap,K.In base→base.Ns mainGlobals mg→FnOk l.prog w K mg base CX0 120 fa fd ["_law_script"] (ro K 63):=by
 have e:=bY.symm.trans (mg_of X G a13)
 cases e
 have a:∀ y k,gcs.lookup y=some k→wU K w mg y k:=zP
 have c:∀ cn nm i,(cn,nm,i)∈osl→∃ Ca:Addr,nsIn K mainGlobals cn=some (some (.ref Ca))∧SlX.SCls K Ca∧∃ p:Addr,SlX.Slot1 K Ca nm p i:=fun cn nm i h=>by cases h
 have F0:=fun_mk (st:=d0.st) l0 c0 k0
 have b0:=F0.binds (ps:=d0.ps) fun _ _ _ _ _ _ us j=>match us,j with | [_],_=>rfl
 have D0:cQ K w mg d0:=⟨⟨_,_,F0,mg_of X G a0,k0,fun _=>b0,cI,cM⟩,sc0,a,c,.nil⟩
 have F1:=fun_mk (st:=d1.st) l1 c1 k1
 have b1:=F1.binds (ps:=d1.ps) fun _ _ _ _ _ _ us j=>match us,j with | [_,_,_],_=>rfl
 have D1:cQ K w mg d1:=⟨⟨_,_,F1,mg_of X G a1,k1,fun _=>b1,cI,cM⟩,sc1,a,c,.nil⟩
 have F2:=fun_mk (st:=d2.st) l2 c2 k2
 have b2:=F2.binds (ps:=d2.ps) fun _ _ _ _ _ _ us j=>match us,j with | [_,_],_=>rfl
 have D2:cQ K w mg d2:=⟨⟨_,_,F2,mg_of X G a2,k2,fun _=>b2,cI,cM⟩,sc2,a,c,.nil⟩
 have F3:=fun_mk (st:=d3.st) l3 c3 k3
 have b3:=F3.binds (ps:=d3.ps) fun _ _ _ _ _ _ us j=>match us,j with | [_,_],_=>rfl
 have D3:cQ K w mg d3:=⟨⟨_,_,F3,mg_of X G a3,k3,fun _=>b3,cI,cM⟩,sc3,a,c,.nil⟩
 have F4:=fun_mk (st:=d4.st) l4 c4 k4
 have b4:=F4.binds (ps:=d4.ps) fun _ _ _ _ _ _ us j=>match us,j with | [_,_],_=>rfl
 have D4:cQ K w mg d4:=⟨⟨_,_,F4,mg_of X G a4,k4,fun _=>b4,cI,cM⟩,sc4,a,c,.nil⟩
 have F5:=fun_mk (st:=d5.st) l5 c5 k5
 have b5:=F5.binds (ps:=d5.ps) fun _ _ _ _ _ _ us j=>match us,j with | [_,_],_=>rfl
 have D5:cQ K w mg d5:=⟨⟨_,_,F5,mg_of X G a5,k5,fun _=>b5,cI,cM⟩,sc5,a,c,.nil⟩
 have F6:=fun_mk (st:=d6.st) l6 c6 k6
 have b6:=F6.binds (ps:=d6.ps) fun _ _ _ _ _ _ us j=>match us,j with | [_,_],_=>rfl
 have D6:cQ K w mg d6:=⟨⟨_,_,F6,mg_of X G a6,k6,fun _=>b6,cI,cM⟩,sc6,a,c,.nil⟩
 have F7:=fun_mk (st:=d7.st) l7 c7 k7
 have b7:=F7.binds (ps:=d7.ps) fun _ _ _ _ _ _ us j=>match us,j with | [_,_],_=>rfl
 have D7:cQ K w mg d7:=⟨⟨_,_,F7,mg_of X G a7,k7,fun _=>b7,cI,cM⟩,sc7,a,c,.nil⟩
 have F8:=fun_mk (st:=d8.st) l8 c8 k8
 have b8:=F8.binds (ps:=d8.ps) fun _ _ _ _ _ _ us j=>match us,j with | [_],_=>rfl
 have D8:cQ K w mg d8:=⟨⟨_,_,F8,mg_of X G a8,k8,fun _=>b8,cI,cM⟩,sc8,a,c,.nil⟩
 have F9:=fun_mk (st:=d9.st) l9 c9 k9
 have b9:=F9.binds (ps:=d9.ps) fun _ _ _ _ _ _ us j=>match us,j with | [_,_,_],_=>rfl
 have D9:cQ K w mg d9:=⟨⟨_,_,F9,mg_of X G a9,k9,fun _=>b9,cI,cM⟩,sc9,a,c,.nil⟩
 have bI:=fun_mk (st:=d10.st) l10 c10 k10
 have fk:=bI.binds (ps:=d10.ps) fun _ _ _ _ _ _ us j=>match us,j with | [_,_,_,_],_=>rfl
 have fl:cQ K w mg d10:=⟨⟨_,_,bI,mg_of X G a10,k10,fun _=>fk,cI,cM⟩,IY,a,c,.nil⟩
 have bP:=fun_mk (st:=d11.st) l11 c11 k11
 have fn:=bP.binds (ps:=d11.ps) fun _ _ _ _ _ _ us j=>match us,j with | [_,_],_=>rfl
 have fo:cQ K w mg d11:=⟨⟨_,_,bP,mg_of X G a11,k11,fun _=>fn,cI,cM⟩,IX,a,c,.nil⟩
 have bS:=fun_mk (st:=d12.st) l12 c12 k12
 have fp:=bS.binds (ps:=d12.ps) fun _ _ _ _ _ _ us j=>match us,j with | [_],_=>rfl
 have fq:cQ K w mg d12:=⟨⟨_,_,bS,mg_of X G a12,k12,fun _=>fp,cI,cM⟩,IK,a,c,.nil⟩
 have C:=fun_mk (st:=d13.st) l13 c13 k13
 have fr:=C.binds (ps:=d13.ps) fun _ _ _ _ _ _ us j=>match us,j with | [_],_=>rfl
 have fs:cQ K w mg d13:=⟨⟨_,_,C,mg_of X G a13,k13,fun _=>fr,cI,cM⟩,IQ,a,c,.nil⟩
 have hT:∀ d∈defs,cQ K w mg d:=by
  intro d hd
  simp only [defs,List.mem_cons,List.not_mem_nil,or_false] at hd
  rcases hd with rfl | rfl | rfl | rfl | rfl | rfl | rfl | rfl | rfl | rfl | rfl | rfl | rfl | rfl
  ·exact D0
  ·exact D1
  ·exact D2
  ·exact D3
  ·exact D4
  ·exact D5
  ·exact D6
  ·exact D7
  ·exact D8
  ·exact D9
  ·exact fl
  ·exact fo
  ·exact fq
  ·exact fs
 have hB:∀ b∈vy,mg b=none:=by
  intro b hb
  simp only [vy,List.mem_cons,List.not_mem_nil,or_false] at hb
  rcases hb with rfl | rfl | rfl | rfl | rfl | rfl | rfl | rfl | rfl | rfl | rfl | rfl | rfl | rfl | rfl | rfl | rfl | rfl | rfl | rfl
  ·exact mg_none_of X G z0
  ·exact mg_none_of X G z1
  ·exact mg_none_of X G z2
  ·exact mg_none_of X G z3
  ·exact mg_none_of X G z4
  ·exact mg_none_of X G z5
  ·exact mg_none_of X G z6
  ·exact mg_none_of X G z7
  ·exact mg_none_of X G z8
  ·exact mg_none_of X G z9
  ·exact mg_none_of X G z10
  ·exact mg_none_of X G z11
  ·exact mg_none_of X G z12
  ·exact mg_none_of X G z13
  ·exact mg_none_of X G z14
  ·exact mg_none_of X G z15
  ·exact mg_none_of X G z16
  ·exact mg_none_of X G z17
  ·exact mg_none_of X G z18
  ·exact mg_none_of X G z19
 have hZ:∀ d∈defs,d.f.vt=none:=by
  intro d hd
  simp only [defs,List.mem_cons,List.not_mem_nil,or_false] at hd
  rcases hd with rfl | rfl | rfl | rfl | rfl | rfl | rfl | rfl | rfl | rfl | rfl | rfl | rfl | rfl<;>rfl
 have ft:∀ d∈defs,d.f.tr=none∨∃ t vars,d.f.tr=some t∧t.sco=some vars:=by
  intro d hd
  simp only [defs,List.mem_cons,List.not_mem_nil,or_false] at hd
  rcases hd with rfl | rfl | rfl | rfl | rfl | rfl | rfl | rfl | rfl | rfl | rfl | rfl | rfl | rfl<;>first | exact .inl rfl | exact .inr ⟨_,_,rfl,rfl⟩
 exact ⟨_,fun s v=>.of_eq rfl,fun base _ _=>Dg (k:=60) (g:=13) (most:=63) (d:=d13) hT xI hB hZ ft rfl rfl law C⟩
theorem walk {l:PySem.W.OpenLaw} {q:Program} {loose:List Str} {g:(Str→Option Value)→Heap→Prop} {c:World→Heap→Prop} {d:DefRec} {K:Params→Frag} (hn:l.most=some 63) (b:d.params.defaults=[]) (i:∀ (w:World) (h:Heap),c w h→(K w.params).In h)
  (F:∀ (w:World) (mg:Str→Option Value) (e:Addr) (h:Heap),(K w.params).In h→h.Ns mainGlobals mg→mg d.name=some (.ref e)→∃ fd:FuncData,(∀ (s:Shared) (u:Value),BindsTo s fd ⟨[u],[]⟩ [("_law_script",u)])∧∀ base:Heap,(K w.params).In base→base.Ns mainGlobals mg→FnOk l.prog w (K w.params) mg base CX0 120 e fd ["_law_script"] (ro (K w.params) 63)) :
  PySem.W.WalkO q loose g c l.row.toRowW d [] (fun f vs=>PySem.call f vs) :=
 L2.walk_ofB (n:=63) (k:=120) (x:="_law_script") (CX:=fun _=>CX0) (sp:=fun w=>ro (K w.params) 63) hn (by decide) b ⟨rfl,by decide,by decide⟩ i F (fun _ _ a ns j m _ o=>⟨a,ns,rfl,o,j,m,fun _=>rfl⟩) fun _ _ _ _ _ z=>z
theorem Du (m:Nat) (x:List Nat) (h:x.length≤1000):sam (m+1) (tN x):=⟨Bu.eA x,Bu.pD m x h,nG _ x⟩
theorem iz (k n:Nat) (hn:n≤6):K68.iZ (evF T (k+1)) 8 n:=by
 have a:T[8]?=some Ev.aV:=rfl
 have b:∀ j,j≤n→(eZ n j).length≤9000:=fun j c=>by
  have h:([0,1,2,3,4,5,6].all fun n=>(List.range 7).all fun j=>Nat.ble (eZ n j).length 9000)=true:=by decide +kernel
  have:=List.all_eq_true.mp (List.all_eq_true.mp h n (by simp only [List.mem_cons,List.not_mem_nil,or_false];omega)) j (List.mem_range.mpr (by omega))
  exact Nat.ble_eq.mp this
 have r:=xq (call:=evF T k) (io:=fun h=>((T[h]?).map (·.io)).getD []) (n:=n) (by omega) b
 unfold K68.iZ
 rw [bK a]
 exact r
theorem x9 (k:Nat) {size n far:Nat} (h:(1≤size∧size≤5∧n≤5)∨(1≤size∧size≤6∧n=6)) (hf:far≤n):evF T (k+40) 10 [.int size,.int n,.int far,.lst false ((K68.bM size n).map tN)]=some (.bl true,[]):=by
 have t1:T[1]?=some Ev.K68.eO:=rfl
 have c:T[7]?=some (Ev.aK 7):=rfl
 have d:T[9]?=some Ev.K68.bh:=rfl
 have a:T[10]?=some (Ev.K68.aH 9 1 7):=rfl
 have e:=K68.xS h hf
 have hn:n≤6:=by omega
 rw [bK a]
 refine K68.j0 (by simp [d,K68.bh]) (by simp [t1,K68.eO]) (by simp [c,Ev.aK]) (by omega) hn (by omega) e (K68.vi hn) (fun row f=>by have:=K68.tH hn row f;omega) (fun row g=>?_) ?_ (fun xs g i=>?_)
 ·rw [bK d]
  exact K68.w6 (by omega) (by omega) (by omega)
 ·rw [bK t1]
  refine K68.uW ?_ ?_ hf
  ·simp only [K68.lB,List.mem_cons,List.not_mem_nil,or_false];omega
  ·simp only [K68.nsL,List.mem_cons,List.not_mem_nil,or_false];omega
 ·refine qg c (k+37) false true (xs.map tN) (fun x b=>?_) (by rw [List.length_map];unfold cap;omega)
  obtain ⟨y,j,rfl⟩:=List.mem_map.mp b
  exact Du (k+36) y (i y j)
theorem we:∀ ns:List Int,ns.length≤63→(∀ z∈ns,Builtin.Int.intBits z≤1048576)→evF T 60 13 [.scr ns]=some (.bl true,[]):=by
 intro ns _ _
 have h0:T[0]?=some (Ev.aS 0):=rfl
 have o:T[2]?=some (Ev.Bu.aP 0):=rfl
 have j:T[3]?=some (Ev.Bu.bB 2):=rfl
 have p:T[4]?=some Ev.bW:=rfl
 have q:T[5]?=some Ev.aZ:=rfl
 have r:T[6]?=some Ev.bz:=rfl
 have s:T[8]?=some Ev.aV:=rfl
 have f:T[10]?=some (Ev.K68.aH 9 1 7):=rfl
 have g:T[11]?=some (Ev.K68.aO 8 3 10):=rfl
 have i:T[12]?=some (Ev.K68.bq 5 8 3 10 11):=rfl
 have l:T[13]?=some (Ev.hW 6 4 12 2 1):=rfl
 rw [bK l]
 have t:Right (evF T 59) 12 2 998:=fun d c u v=>by
  rw [bK i]
  refine K68.tO (by simp [q,Ev.aZ]) (by simp [s,Ev.aV]) (by simp [j,Bu.bB]) (by simp [f,K68.aH]) (by simp [g,K68.aO]) (Ax (k:=57) q) (iz 57 6 (by omega)) (fun size row a b=>Ob.ye h0 o j 46 size row (by omega)) (fun size n a b cc=>?_) (fun size far a b cc=>x9 18 (.inr ⟨a,b,rfl⟩) cc) u (by omega)
  rw [bK g]
  exact K68.jP (by simp [s,Ev.aV]) (by simp [j,Bu.bB]) (by simp [f,K68.aH]) (by omega) (by omega) (iz 56 n (by omega)) (fun row w=>Ob.ye h0 o j 45 size row (by omega)) (fun far hf=>x9 17 (.inl ⟨a,b,cc⟩) hf)
 refine v7 (by simp [i,K68.bq]) (by simp [p,Ev.bW]) (by simp [r,Ev.bz]) t (by omega) (by omega) (by omega) (by omega) (fun cs k c hk=>?_) (fun ns=>?_) ns
 ·obtain ⟨d,e,b⟩:=DJ (call:=evF T 58) (io:=fun h=>((T[h]?).map (·.io)).getD []) hk
  exact ⟨d,by rw [bK p];exact e,b⟩
 ·obtain ⟨cs,l1,l2,e⟩:=xl (call:=evF T 58) (io:=fun h=>((T[h]?).map (·.io)).getD []) (ns:=ns) (m:=2) (by omega) (by omega)
  exact ⟨cs,l1,l2,by rw [bK r];exact e⟩
end Ev.Prog
open PySem PySem.W PyProof.Rows in
set_option maxHeartbeats 0 in
theorem PySem.Challenge.cw_stoppedloops_k68_whole_what_a_buffer_hol_holds : PySem.Challenge.rw_stoppedloops_k68_whole_what_a_buffer_hol.Holds := by
 refine Ev.hd ?_
 k_fill
 refine Ev.Prog.walk (l:=PySem.Challenge.rw_stoppedloops_k68_whole_what_a_buffer_hol) rfl rfl (fun w h Y=>PySem.W.kIn_of Y) ?F
 case F =>
  intro w mg fa h KX G hmg
  refine' Ev.Prog.all_mk KX G hmg ?a0 ?l0 ?c0 ?k0 ?a1 ?l1 ?c1 ?k1 ?a2 ?l2 ?c2 ?k2 ?a3 ?l3 ?c3 ?k3 ?a4 ?l4 ?c4 ?k4 ?a5 ?l5 ?c5 ?k5 ?a6 ?l6 ?c6 ?k6 ?a7 ?l7 ?c7 ?k7 ?a8 ?l8 ?c8 ?k8 ?a9 ?l9 ?c9 ?k9 ?a10 ?l10 ?c10 ?k10 ?a11 ?l11 ?c11 ?k11 ?a12 ?l12 ?c12 ?k12 ?a13 ?l13 ?c13 ?k13 ?z0 ?z1 ?z2 ?z3 ?z4 ?z5 ?z6 ?z7 ?z8 ?z9 ?z10 ?z11 ?z12 ?z13 ?z14 ?z15 ?z16 ?z17 ?z18 ?z19 Ev.Prog.we
  (case a0=>k_is)
  (case l0=>k_is)
  (case c0=>k_is)
  (case k0=>k_is)
  (case a1=>k_is)
  (case l1=>k_is)
  (case c1=>k_is)
  (case k1=>k_is)
  (case a2=>k_is)
  (case l2=>k_is)
  (case c2=>k_is)
  (case k2=>k_is)
  (case a3=>k_is)
  (case l3=>k_is)
  (case c3=>k_is)
  (case k3=>k_is)
  (case a4=>k_is)
  (case l4=>k_is)
  (case c4=>k_is)
  (case k4=>k_is)
  (case a5=>k_is)
  (case l5=>k_is)
  (case c5=>k_is)
  (case k5=>k_is)
  (case a6=>k_is)
  (case l6=>k_is)
  (case c6=>k_is)
  (case k6=>k_is)
  (case a7=>k_is)
  (case l7=>k_is)
  (case c7=>k_is)
  (case k7=>k_is)
  (case a8=>k_is)
  (case l8=>k_is)
  (case c8=>k_is)
  (case k8=>k_is)
  (case a9=>k_is)
  (case l9=>k_is)
  (case c9=>k_is)
  (case k9=>k_is)
  (case a10=>k_is)
  (case l10=>k_is)
  (case c10=>k_is)
  (case k10=>k_is)
  (case a11=>k_is)
  (case l11=>k_is)
  (case c11=>k_is)
  (case k11=>k_is)
  (case a12=>k_is)
  (case l12=>k_is)
  (case c12=>k_is)
  (case k12=>k_is)
  (case a13=>k_is)
  (case l13=>k_is)
  (case c13=>k_is)
  (case k13=>k_is)
  (case z0=>k_is)
  (case z1=>k_is)
  (case z2=>k_is)
  (case z3=>k_is)
  (case z4=>k_is)
  (case z5=>k_is)
  (case z6=>k_is)
  (case z7=>k_is)
  (case z8=>k_is)
  (case z9=>k_is)
  (case z10=>k_is)
  (case z11=>k_is)
  (case z12=>k_is)
  (case z13=>k_is)
  (case z14=>k_is)
  (case z15=>k_is)
  (case z16=>k_is)
  (case z17=>k_is)
  (case z18=>k_is)
  (case z19=>k_is)
