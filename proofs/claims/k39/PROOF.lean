import PyProof.Rows.All
import HandS.Defaults
import HandS.ExcOwn
import HandS.ForSpec
import HandS.ForMost
import HandS.Deep
import HandS.Comp
import HandS.TupAny
import HandS.IsInst
import HandS.TupSets
import HandS.AnyAll
import HandS.RevRange
import HandS.Rev
import HandS.More
import HandS.Conv
import HandS.SortInts
import KE.SortData
import KE.DataCmp
import KE.DataMinMax
import HandS.Zip
import KE.KTupSum
import KE.KIndexOf
import HandS.Strs
import PyProof.ReprRoads
import HandS.Style
import KE.KRevSl
import HandS.Iter
import HandS.SetFor
import HandS.ExcField
import HandS.HeadEnd
import Wide.All
import OpenK.AllK
import Wide.FinOn
import KE.KStateDown
import HandS.Exc
import HandS.WordsExc
import HandS.Head0
import HandS.Head1
import HandS.Head2
import HandS.HeadHook1
import HandS.HeadHook2
import HandS.HeadHook3
import HandS.HeadHook4
import KE.KDictKeyed
import KE.KDictDisplayH
import HandS.DictTup
import HandS.ExcInit
import HandS.Nested
import KE.KExcSuper
import PySem.Challenge.RW_everycatalan_k39_whole_nests_to_tables
/-! The statement of the law, proved: a small language with a soundness proof (DI*), the module head run (Head*), the law and the program's defs as terms of that language (TL, T_*), and the law by plain reasoning (P*). Written by an AI agent. -/
section
set_option linter.all false
set_option maxRecDepth 100000
set_option Elab.async false
/-! DI1: plain data, the small language that the defs are written in, and what it computes. -/
namespace DI
open PySem

inductive D where
  | non | bl (b : Bool) | int (i : Int) | str (x : Str) | tup (xs : List D) | lst (xs : List D)

inductive Op where | add | sub | mul | fdiv | mod
  deriving DecidableEq
inductive Cp where | eq | ne | lt | le | gt | ge
  deriving DecidableEq
inductive Bl where | len | int | abs | list | tuple | min | max | sorted | repr | all | any | sum | rev
  deriving DecidableEq
inductive Ty where | int | bool | str | tuple | list
  deriving DecidableEq
inductive Tg where | nm (i : Nat) | two (i j : Nat)

mutual
inductive ME where
  | var (i : Nat) | non | bl (b : Bool) | int (i : Int) | str (x : Str) | glo (n : Str)
  | tup (es : MEs) | lis (es : MEs)
  | bin (o : Op) (a b : ME) | neg (a : ME) | nt (a : ME)
  | cmp (o : Cp) (a b : ME) | isN (a : ME) | notN (a : ME) | isin (a b : ME) | nin (a b : ME)
  | ch (o1 o2 : Cp) (a b c : ME) | ch4 (o1 o2 o3 : Cp) (a b c d : ME)
  | and (a b : ME) | or (a b : ME) | ife (c a b : ME)
  | idx (a i : ME) | slF (a lo : ME) | slT (a hi : ME) | slB (a lo hi : ME) | sRev (a : ME) | sRvt (a : ME) | cnt (i : Nat) (b : ME)
  | call (f : Str) (es : MEs)
  | blt (f : Bl) (a : ME) | max2 (a b : ME) | lrg (a : ME) | ixo (i : Nat) (b : ME) | zipT (a b : ME)
  | isi (a : ME) (t : Ty)
  | lc (elt : ME) (t : Tg) (it : MI) (c : MC) (own : List Nat)
  | lc2 (elt : ME) (t : Tg) (it : MI) (t2 : Tg) (it2 : MI) (own own2 : List Nat)
  | dcall (d : Str) (k a : ME) | din (d : Str) (k : ME) | dnin (d : Str) (k : ME)
inductive MEs where | nil | cons (e : ME) (r : MEs)
inductive MI where | zip (a b : ME) | seq (e : ME) | rng1 (a : ME) | rng2 (a b : ME) | rngD (a : ME)
inductive MC where | yes | one (c : ME)
end

mutual
inductive MS where
  | set (i : Nat) (e : ME) | own (i : Nat) (e : ME)
  | mv (i j : Nat)
  | par (i j : Nat) (a b : ME)
  | sto (i : Nat) (k e : ME)
  | swp (i : Nat) (a b c d : Nat)
  | app (i : Nat) (e : ME) | ext (i : Nat) (e : ME) | sau (i : Nat) (o : Op) (k e : ME) | aui (i : Nat) (o : Op) (e : ME)
  | whl (c : ME) (b : MSs)
  | unp (i j : Nat) (e : ME)
  | aug (i : Nat) (e : ME)
  | ret (e : ME) | retv (i : Nat)
  | ifs (c : ME) (a b : MSs)
  | for_ (t : Tg) (it : MI) (b : MSs)
  | expr (e : ME) | doc
  | raise (c : Str) (es : MEs)
  | tryR (e : ME) (c : Str) (i : Nat)
inductive MSs where | nil | cons (s : MS) (r : MSs)
end

inductive Sl where | no | dat (d : D) | own (l : List D) | lent (l : List D)
abbrev Ro := List Sl
inductive Out (α : Type) where | ok (a : α) (ρ : Ro) | ex (c : Str) (fs : List D) (ρ : Ro) | no
def Out.bind {α β : Type} (x : Out α) (f : α → Ro → Out β) : Out β :=
  match x with | .ok a ρ => f a ρ | .ex c fs ρ => .ex c fs ρ | .no => .no
/-- a value that may be absent -/
def ofO {α : Type} (x : Option α) (ρ : Ro) : Out α := match x with | some a => .ok a ρ | none => .no
inductive Res where | dat (d : D) | new (l : List D) | var (i : Nat)
/-- an argument handed over; what comes back -/
inductive Ag where | dat (d : D) | len (l : List D)
inductive OutC where | ok (r : Ag) (as : List Ag) | ex (c : Str) (fs : List D) | no
abbrev CF := Str → List Ag → OutC

def LIM : Nat := 1000000
def cellAt (ρ : Ro) (i : Nat) : Option (List D) := match ρ[i]? with | some (.own l) => some l | some (.lent l) => some l | _ => none
/-- a result as data -/
def toD : Res → Option D | .dat d => some d | .new l => some (.lst l) | .var _ => none
/-- a result looked at -/
def look (ρ : Ro) : Res → Option D | .dat d => some d | .new l => some (.lst l) | .var i => (cellAt ρ i).map .lst

mutual
def toPy : D → PyData
  | .non => .none | .bl b => .bool b | .int i => .int i | .str x => .str x | .tup xs => .tuple (toPys xs) | .lst xs => .list (toPys xs)
def toPys : List D → List PyData
  | [] => [] | x :: xs => toPy x :: toPys xs
end
def eqD (a b : D) : Option Bool := if (SeqAt.shaped (toPy a) && SeqAt.shaped (toPy b)) = true then some (PyData.eqv (toPy a) (toPy b)) else none
def flatD : D → Bool | .tup _ => false | .lst _ => false | _ => true
def intsD : List D → Option (List Int)
  | [] => some []
  | .int i :: r => (intsD r).map (i :: ·)
  | _ => none
def boolsD : List D → Option (List Bool)
  | [] => some []
  | .bl i :: r => (boolsD r).map (i :: ·)
  | _ => none
def tupsI : List D → Option (List (List Int))
  | [] => some []
  | .tup xs :: r => match intsD xs, tupsI r with | some a, some b => some (a :: b) | _, _ => none
  | _ => none

def binR : Op → D → D → Option Res
  | .add, .int i, .int j => some (.dat (.int (i + j)))
  | .sub, .int i, .int j => some (.dat (.int (i - j)))
  | .mul, .int i, .int j => if (i.natAbs < 2 ^ 63 ∨ j.natAbs < 2 ^ 63) then some (.dat (.int (i * j))) else none
  | .fdiv, .int i, .int j => if 0 < j ∧ j < 1073741824 then some (.dat (.int (i / j))) else none
  | .mod, .int i, .int j => if 0 < j then some (.dat (.int (i % j))) else none
  | .add, .str x, .str y => if x.length + y.length ≤ LIM then some (.dat (.str (x ++ y))) else none
  | .add, .tup xs, .tup ys => if xs.length + ys.length ≤ LIM then some (.dat (.tup (xs ++ ys))) else none
  | .add, .lst xs, .lst ys => if xs.length + ys.length ≤ LIM then some (.new (xs ++ ys)) else none
  | _, _, _ => none
def cmpOk (a b : D) : Bool := PySem.W.alike (toPy a) (toPy b) && decide ((toPy a).depth ≤ 60)
def cmpD : Cp → D → D → Option Bool
  | .eq, a, b => eqD a b
  | .ne, a, b => (eqD a b).map (!·)
  | .lt, .int i, .int j => some (decide (i < j))
  | .le, .int i, .int j => some (decide (i ≤ j))
  | .gt, .int i, .int j => some (decide (j < i))
  | .ge, .int i, .int j => some (decide (j ≤ i))
  | .lt, .tup a, .tup b => if cmpOk (.tup a) (.tup b) = true then some (PySem.W.dataLt (toPy (.tup a)) (toPy (.tup b))) else none
  | .gt, .tup a, .tup b => if cmpOk (.tup a) (.tup b) = true then some (PySem.W.dataLt (toPy (.tup b)) (toPy (.tup a))) else none
  | .le, .tup a, .tup b => if cmpOk (.tup a) (.tup b) = true then some (!PySem.W.dataLt (toPy (.tup b)) (toPy (.tup a))) else none
  | .ge, .tup a, .tup b => if cmpOk (.tup a) (.tup b) = true then some (!PySem.W.dataLt (toPy (.tup a)) (toPy (.tup b))) else none
  | _, _, _ => none
def lenD : D → Option Int
  | .tup xs => some xs.length | .lst xs => some xs.length | .str x => if x.length ≤ LIM then some x.length else none | _ => none
def idxD : D → D → Option D
  | .tup xs, .int i => L2.atI xs i
  | .lst xs, .int i => L2.atI xs i
  | _, _ => none
def cutD (xs : List D) (lo hi : Option Int) : List D := (xs.drop (HT.sIx xs.length 0 lo)).take (HT.sIx xs.length xs.length hi - HT.sIx xs.length 0 lo)
def slD (a : D) (lo hi : Option Int) : Option Res :=
  match a with
  | .tup xs => some (.dat (.tup (cutD xs lo hi)))
  | .lst xs => some (.new (cutD xs lo hi))
  | .str x => if x.length ≤ LIM then some (.dat (.str (L2.cutS x lo hi))) else none
  | _ => none
def tyIs : Ty → D → Bool
  | .int, .int _ => true | .int, .bl _ => true | .bool, .bl _ => true | .str, .str _ => true | .tuple, .tup _ => true | .list, .lst _ => true | _, _ => false
def noTupD : D → Bool | .tup _ => false | .non => false | _ => true
def tupD1 : D → Bool | .tup (_ :: _) => true | _ => false
def isNonD : D → Bool | .non => true | _ => false
def sortOk (xs : List D) : Bool := (xs.all fun a => xs.all fun b => PySem.W.alike (toPy a) (toPy b)) && (xs.all tupD1 || xs.all noTupD || (decide (xs.length ≤ 1) && xs.all fun d => !isNonD d)) && (xs.all fun a => decide ((toPy a).depth ≤ 60)) && decide (xs.length ≤ LIM)
def sortD (xs : List D) : List D := xs.mergeSort (PySem.W.dataLe false toPy)
def minI : List Int → Option Int | [] => none | x :: r => some (r.foldl min x)
def maxI : List Int → Option Int | [] => none | x :: r => some (r.foldl max x)
def isRow : D → Bool | .tup _ => true | .lst _ => true | _ => false
def reprOk (d : D) : Bool := isRow d && (toPy d).showable && decide ((toPy d).depth ≤ 60) && decide ((toPy d).shown.length ≤ LIM)
def reprD (d : D) : Option Str := if reprOk d = true then some (toPy d).shown else none
def bltR : Bl → D → Option Res
  | .len, d => (lenD d).map fun n => .dat (.int n)
  | .int, .int i => some (.dat (.int i))
  | .abs, .int i => some (.dat (.int (if i < 0 then -i else i)))
  | .list, .lst xs => some (.new xs)
  | .list, .tup xs => some (.new xs)
  | .tuple, .lst xs => some (.dat (.tup xs))
  | .tuple, .tup xs => some (.dat (.tup xs))
  | .min, .lst xs => (intsD xs).bind fun l => (minI l).map fun i => .dat (.int i)
  | .max, .lst xs => (intsD xs).bind fun l => (maxI l).map fun i => .dat (.int i)
  | .max, .tup xs => (intsD xs).bind fun l => (maxI l).map fun i => .dat (.int i)
  | .sum, .lst xs => (intsD xs).map fun l => .dat (.int l.sum)
  | .sum, .tup xs => (intsD xs).map fun l => .dat (.int l.sum)
  | .all, .lst xs => (boolsD xs).map fun l => .dat (.bl (l.all id))
  | .any, .lst xs => (boolsD xs).map fun l => .dat (.bl (l.any id))
  | .sorted, .lst xs => if sortOk xs = true then some (.new (sortD xs)) else none
  | .repr, d => (reprD d).map fun x => .dat (.str x)
  | _, _ => none
/-- tuple(reversed(a list)) -/
def revR : D → Option Res | .lst xs => some (.dat (.tup xs.reverse)) | _ => none
/-- a list in a slot -/
def lstS : Option Sl → Option (List D) | some (.dat (.lst xs)) => some xs | some (.own xs) => some xs | some (.lent xs) => some xs | _ => none
def cntR (xs : List D) (k : Int) : Option Res := (intsD xs).map fun ns => .dat (.int (ns.count k : Nat))
/-- max of two ints -/
def max2R : D → D → Option Res | .int i, .int j => some (.dat (.int (if j > i then j else i))) | _, _ => none
/-- list(range(n)) -/
def lrgR : D → Option Res | .int n => if 0 ≤ n ∧ n.natAbs ≤ 100000 then some (.new ((List.range n.toNat).map fun (k : Nat) => D.int (0 + (k : Int)))) else none | _ => none
def idxOfR (xs : List D) (k : Int) : Option Res := (intsD xs).bind fun ns => if k ∈ ns then some (.dat (.int (ns.idxOf k : Nat))) else none
def zipD : List D → List D → List D | x :: r, y :: q => .tup [x, y] :: zipD r q | _, _ => []
def zipR : D → D → Option Res | .tup xs, .tup ys => if xs.length ≤ 100000 then some (.dat (.tup (zipD xs ys))) else none | _, _ => none
/-- x[::-1] of a tuple -/
def revT : D → Option Res | .tup xs => some (.dat (.tup xs.reverse)) | _ => none
/-- x in a row -/
def isinD (x : D) : D → Option Bool
  | .tup ys => if (flatD x && ys.all flatD) = true then some (ys.any fun y => PyData.eqv (toPy y) (toPy x)) else if (SeqAt.shaped (toPy x) && SeqAt.shaped (.tuple (toPys ys))) = true then some (ys.any fun y => PyData.eqv (toPy y) (toPy x)) else none
  | .lst ys => if (SeqAt.shaped (toPy x) && SeqAt.shaped (.list (toPys ys))) = true then some (ys.any fun y => PyData.eqv (toPy y) (toPy x)) else none
  | _ => none

structure Fi where
  np : Nat
  nl : Nat
  body : MSs
structure Gm where
  fn : Str → Option Fi
  con : Str → Option D
  dic : Str → Option (List (D × Str))
  xc : Str → Option Nat
def strsD : List D → Option (List Str)
  | [] => some []
  | .str x :: r => (strsD r).map (x :: ·)
  | _ => none
/-- a key: a text, or a tuple of texts -/
def keyD : D → Option (Bool × List Str)
  | .str x => some (false, [x])
  | .tup xs => (strsD xs).map (true, ·)
  | _ => none
def dLook : List (D × Str) → Bool × List Str → Option (Option Str)
  | [], _ => some none
  | (k', f) :: r, q => match keyD k' with
    | some q' => if q'.1 = q.1 then (if q'.2 = q.2 then some (some f) else dLook r q) else none
    | none => none
def dGet (l : List (D × Str)) (k : D) : Option (Option Str) := match keyD k with
  | some q => dLook l q
  | none => none

inductive Ar where | dat (d : D) | cel (i : Nat)
def Ar.cels : List Ar → List Nat | [] => [] | .dat _ :: r => cels r | .cel i :: r => i :: cels r
def toAg (ρ : Ro) : List Ar → Option (List Ag)
  | [] => some []
  | .dat d :: r => (toAg ρ r).map (.dat d :: ·)
  | .cel i :: r => match cellAt ρ i, toAg ρ r with | some l, some q => some (.len l :: q) | _, _ => none
def setCell (ρ : Ro) (i : Nat) (l : List D) : Ro := match ρ[i]? with | some (.own _) => ρ.set i (.own l) | some (.lent _) => ρ.set i (.lent l) | _ => ρ
def back (ρ : Ro) : List Ar → List Ag → Ro
  | .cel i :: r, .len l :: q => back (setCell ρ i l) r q
  | _ :: r, _ :: q => back ρ r q
  | _, _ => ρ
def agRes : Ag → Res | .dat d => .dat d | .len l => .new l
def doCall (call : CF) (f : Str) (as : List Ar) (ρ : Ro) : Out Res :=
  if (Ar.cels as).Nodup then
    match toAg ρ as with
    | none => .no
    | some ags => match call f ags with
      | .ok r q => .ok (agRes r) (back ρ as q)
      | .ex c fs => if Ar.cels as = [] then .ex c fs ρ else .no
      | .no => .no
  else .no
def wipeR (ρ : Ro) : List Nat → Ro | [] => ρ | i :: r => (wipeR ρ r).set i .no
def setD (ρ : Ro) (i : Nat) (d : D) : Option Ro := match ρ[i]? with | some (.lent _) => none | none => none | _ => some (ρ.set i (.dat d))
def asg (t : Tg) (d : D) (ρ : Ro) : Option Ro :=
  match t with
  | .nm i => setD ρ i d
  | .two i j => match d with | .tup [a, b] => (setD ρ i a).bind fun ρ => setD ρ j b | _ => none
/-- the slots of a comprehension's own names as they were -/
def unwipe (ρ0 ρ : Ro) : List Nat → Ro | [] => ρ | i :: r => match ρ0[i]? with | some s => (unwipe ρ0 ρ r).set i s | none => unwipe ρ0 ρ r
def lcL (c : Ro → Out Bool) (e : Ro → Out D) (t : Tg) (own : List Nat) : List D → Ro → List D → Out (List D)
  | [], ρ, acc => .ok acc ρ
  | d :: r, ρ, acc => match asg t d ρ with
    | none => .no
    | some ρ1 => (c ρ1).bind fun b ρ2 => if b = true then (e ρ2).bind fun x ρ3 => if acc.length < LIM then lcL c e t own r (wipeR ρ3 own) (acc ++ [x]) else .no else lcL c e t own r (wipeR ρ2 own) acc
/-- two sources, the second one made anew for each item of the first -/
def lcL2 (it2 : Ro → Out (List D)) (e : Ro → Out D) (t t2 : Tg) (own own2 : List Nat) : List D → Ro → List D → Out (List D)
  | [], ρ, acc => .ok acc ρ
  | d :: r, ρ, acc => match asg t d ρ with
    | none => .no
    | some ρ1 => (it2 ρ1).bind fun ds2 ρ2 => (lcL (fun ρ => .ok true ρ) e t2 own2 ds2 (wipeR ρ2 own2) acc).bind fun acc ρ3 => lcL2 it2 e t t2 own own2 r (wipeR ρ3 own) acc
def noEx {α : Type} : Out α → Out α | .ex _ _ _ => .no | x => x

def rngL (lo : Int) (n : Nat) : List D := (List.range n).map fun (k : Nat) => D.int (lo + (k : Int))
def dnL (n : Nat) : List D := (List.range n).map fun (k : Nat) => D.int ((n : Int) - (k : Int))
def asD (x : Out Res) : Out D := x.bind fun x ρ => ofO (toD x) ρ
def asI (x : Out Res) : Out Int := x.bind fun x ρ => match x with | .dat (.int i) => .ok i ρ | _ => .no
def asT (x : Out Res) : Out Bool := x.bind fun x ρ => match x with | .dat (.bl b) => .ok b ρ | _ => .no

section
variable (G : Gm) (call : CF)
mutual
def ev : ME → Ro → Out Res
  | .var i, ρ => match ρ[i]? with | some (.dat d) => .ok (.dat d) ρ | some (.own _) => .ok (.var i) ρ | some (.lent _) => .ok (.var i) ρ | _ => .no
  | .non, ρ => .ok (.dat .non) ρ
  | .bl b, ρ => .ok (.dat (.bl b)) ρ
  | .int i, ρ => .ok (.dat (.int i)) ρ
  | .str x, ρ => .ok (.dat (.str x)) ρ
  | .glo n, ρ => ofO ((G.con n).map .dat) ρ
  | .tup es, ρ => (evDs es ρ).bind fun ds ρ => .ok (.dat (.tup ds)) ρ
  | .lis es, ρ => (evDs es ρ).bind fun ds ρ => .ok (.new ds) ρ
  | .bin o a b, ρ => (ev a ρ).bind fun x ρ => (ev b ρ).bind fun y ρ => match look ρ x, look ρ y with | some x, some y => ofO (binR o x y) ρ | _, _ => .no
  | .neg a, ρ => (ev a ρ).bind fun x ρ => match x with | .dat (.int i) => .ok (.dat (.int (-i))) ρ | _ => .no
  | .nt a, ρ => (asT (ev a ρ)).bind fun b ρ => .ok (.dat (.bl (!b))) ρ
  | .cmp o a b, ρ => (ev a ρ).bind fun x ρ => (ev b ρ).bind fun y ρ => match look ρ x, look ρ y with | some x, some y => ofO ((cmpD o x y).map fun b => .dat (.bl b)) ρ | _, _ => .no
  | .isN a, ρ => (ev a ρ).bind fun x ρ => match look ρ x with | some .non => .ok (.dat (.bl true)) ρ | some _ => .ok (.dat (.bl false)) ρ | none => .no
  | .notN a, ρ => (ev a ρ).bind fun x ρ => match look ρ x with | some .non => .ok (.dat (.bl false)) ρ | some _ => .ok (.dat (.bl true)) ρ | none => .no
  | .isin a b, ρ => (ev a ρ).bind fun x ρ => (ev b ρ).bind fun y ρ => match look ρ x, look ρ y with | some x, some y => ofO ((isinD x y).map fun b => .dat (.bl b)) ρ | _, _ => .no
  | .nin a b, ρ => (ev a ρ).bind fun x ρ => (ev b ρ).bind fun y ρ => match look ρ x, look ρ y with | some x, some y => ofO ((isinD x y).map fun b => .dat (.bl (!b))) ρ | _, _ => .no
  | .ch o1 o2 a b c, ρ => (ev a ρ).bind fun x ρ => (ev b ρ).bind fun y ρ => match look ρ x, look ρ y with
    | some x, some y' => (ofO (cmpD o1 x y') ρ).bind fun t ρ => if t = true then (ev c ρ).bind fun z ρ => match look ρ y, look ρ z with
        | some y, some z => ofO ((cmpD o2 y z).map fun b => .dat (.bl b)) ρ
        | _, _ => .no
      else .ok (.dat (.bl false)) ρ
    | _, _ => .no
  | .and a b, ρ => (asT (ev a ρ)).bind fun t ρ => if t = true then (asT (ev b ρ)).bind fun t ρ => .ok (.dat (.bl t)) ρ else .ok (.dat (.bl false)) ρ
  | .or a b, ρ => (asT (ev a ρ)).bind fun t ρ => if t = true then .ok (.dat (.bl true)) ρ else (asT (ev b ρ)).bind fun t ρ => .ok (.dat (.bl t)) ρ
  | .ife c a b, ρ => (asT (ev c ρ)).bind fun t ρ => if t = true then ev a ρ else ev b ρ
  | .idx a i, ρ => (ev a ρ).bind fun x ρ => (ev i ρ).bind fun y ρ => match look ρ x, look ρ y with | some x, some y => ofO ((idxD x y).map .dat) ρ | _, _ => .no
  | .slF a lo, ρ => (ev a ρ).bind fun x ρ => (asI (ev lo ρ)).bind fun i ρ => match look ρ x with | some x => ofO (slD x (some i) none) ρ | none => .no
  | .slT a hi, ρ => (ev a ρ).bind fun x ρ => (asI (ev hi ρ)).bind fun j ρ => match look ρ x with | some x => ofO (slD x none (some j)) ρ | none => .no
  | .slB a lo hi, ρ => (ev a ρ).bind fun x ρ => (asI (ev lo ρ)).bind fun i ρ => (asI (ev hi ρ)).bind fun j ρ => match look ρ x with | some x => ofO (slD x (some i) (some j)) ρ | none => .no
  | .sRev a, ρ => (ev a ρ).bind fun x ρ => match look ρ x with | some x => ofO (revR x) ρ | none => .no
  | .cnt i b, ρ => match lstS ρ[i]? with
    | none => .no
    | some _ => (asI (ev b ρ)).bind fun k ρ => match lstS ρ[i]? with | some xs => ofO (cntR xs k) ρ | none => .no
  | .sRvt a, ρ => (ev a ρ).bind fun x ρ => match look ρ x with | some x => ofO (revT x) ρ | none => .no
  | .call f es, ρ => if (G.fn f).isSome = true then (evAs es ρ).bind fun as ρ => doCall call f as ρ else .no
  | .ch4 o1 o2 o3 a b c d, ρ => (ev a ρ).bind fun x ρ => (ev b ρ).bind fun y ρ => match look ρ x, look ρ y with
    | some x, some y' => (ofO (cmpD o1 x y') ρ).bind fun t ρ => if t = true then (ev c ρ).bind fun z ρ => match look ρ y, look ρ z with
        | some y, some z' => (ofO (cmpD o2 y z') ρ).bind fun t ρ => if t = true then (ev d ρ).bind fun w ρ => match look ρ z, look ρ w with
            | some z, some w => ofO ((cmpD o3 z w).map fun b => .dat (.bl b)) ρ
            | _, _ => .no
          else .ok (.dat (.bl false)) ρ
        | _, _ => .no
      else .ok (.dat (.bl false)) ρ
    | _, _ => .no
  | .max2 a b, ρ => (ev a ρ).bind fun x ρ => (ev b ρ).bind fun y ρ => match look ρ x, look ρ y with | some x, some y => ofO (max2R x y) ρ | _, _ => .no
  | .zipT a b, ρ => (ev a ρ).bind fun x ρ => (ev b ρ).bind fun y ρ => match look ρ x, look ρ y with | some x, some y => ofO (zipR x y) ρ | _, _ => .no
  | .lrg a, ρ => (ev a ρ).bind fun x ρ => match look ρ x with | some x => ofO (lrgR x) ρ | none => .no
  | .ixo i b, ρ => match lstS ρ[i]? with
    | none => .no
    | some _ => (asI (ev b ρ)).bind fun k ρ => match lstS ρ[i]? with | some xs => ofO (idxOfR xs k) ρ | none => .no
  | .blt f a, ρ => (ev a ρ).bind fun x ρ => match look ρ x with | some x => ofO (bltR f x) ρ | none => .no
  | .isi a t, ρ => (ev a ρ).bind fun x ρ => match look ρ x with | some x => .ok (.dat (.bl (tyIs t x))) ρ | none => .no
  | .lc elt t it c own, ρ => (evI it ρ).bind fun ds ρ => if (own.all fun i => (cellAt ρ i).isNone) = true then (noEx (lcL (fun ρ => evC c ρ) (fun ρ => asD (ev elt ρ)) t own ds (wipeR ρ own) [])).bind fun l ρ' => .ok (.new l) (unwipe ρ ρ' own) else .no
  | .lc2 elt t it t2 it2 own own2, ρ => (evI it ρ).bind fun ds ρ => if (own.all fun i => (cellAt ρ i).isNone) = true then (noEx (lcL2 (fun ρ => evI it2 ρ) (fun ρ => asD (ev elt ρ)) t t2 own own2 ds (wipeR ρ own) [])).bind fun l ρ' => .ok (.new l) (unwipe ρ ρ' own) else .no
  | .dcall d k a, ρ => match G.dic d with
    | none => .no
    | some tb => (asD (ev k ρ)).bind fun k ρ => match dGet tb k with
      | some (some f) => if (G.fn f).isSome = true then (asD (ev a ρ)).bind fun x ρ => doCall call f [.dat x] ρ else .no
      | _ => .no
  | .din d k, ρ => match G.dic d with | none => .no | some tb => (asD (ev k ρ)).bind fun k ρ => ofO ((dGet tb k).map fun o => .dat (.bl o.isSome)) ρ
  | .dnin d k, ρ => match G.dic d with | none => .no | some tb => (asD (ev k ρ)).bind fun k ρ => ofO ((dGet tb k).map fun o => .dat (.bl (!o.isSome))) ρ
def evDs : MEs → Ro → Out (List D)
  | .nil, ρ => .ok [] ρ
  | .cons e r, ρ => (asD (ev e ρ)).bind fun d ρ => (evDs r ρ).bind fun ds ρ => if ds.length < LIM then .ok (d :: ds) ρ else .no
def evAs : MEs → Ro → Out (List Ar)
  | .nil, ρ => .ok [] ρ
  | .cons e r, ρ => (ev e ρ).bind fun x ρ => (evAs r ρ).bind fun as ρ => match x with | .dat d => .ok (.dat d :: as) ρ | .new l => .ok (.dat (.lst l) :: as) ρ | .var i => .ok (.cel i :: as) ρ
def evI : MI → Ro → Out (List D)
  | .zip a b, ρ => (asD (ev a ρ)).bind fun d ρ => (asD (ev b ρ)).bind fun d' ρ => match d, d' with | .tup xs, .tup ys => .ok (zipD xs ys) ρ | _, _ => .no
  | .seq e, ρ => (asD (ev e ρ)).bind fun d ρ => match d with | .tup xs => .ok xs ρ | .lst xs => .ok xs ρ | _ => .no
  | .rng1 a, ρ => (asD (ev a ρ)).bind fun d ρ => match d with | .int n => if n.natAbs < 2 ^ 60 then .ok (rngL 0 n.toNat) ρ else .no | _ => .no
  | .rng2 a b, ρ => (asD (ev a ρ)).bind fun d ρ => (asD (ev b ρ)).bind fun d' ρ => match d, d' with | .int m, .int n => if m.natAbs < 2 ^ 60 ∧ n.natAbs < 2 ^ 60 then .ok (rngL m (n - m).toNat) ρ else .no | _, _ => .no
  | .rngD a, ρ => (asD (ev a ρ)).bind fun d ρ => match d with | .int n => if n.natAbs < 2 ^ 60 then .ok (dnL n.toNat) ρ else .no | _ => .no
def evC : MC → Ro → Out Bool
  | .yes, ρ => .ok true ρ
  | .one c, ρ => asT (ev c ρ)
end
end

inductive Fl where | nx (ρ : Ro) | rt (r : Ag) (ρ : Ro) | bk (ρ : Ro) | ct (ρ : Ro) | ex (c : Str) (fs : List D) (ρ : Ro) | no
def Out.fl {α : Type} (x : Out α) (f : α → Ro → Fl) : Fl := match x with | .ok a ρ => f a ρ | .ex c fs ρ => .ex c fs ρ | .no => .no
def Fl.seq (x : Fl) (f : Ro → Fl) : Fl := match x with | .nx ρ => f ρ | y => y
def nxO (x : Option Ro) : Fl := match x with | some ρ => .nx ρ | none => .no
def forL (t : Tg) (b : Ro → Fl) : List D → Ro → Fl
  | [], ρ => .nx ρ
  | d :: r, ρ => match asg t d ρ with
    | none => .no
    | some ρ1 => match b ρ1 with
      | .nx ρ2 => forL t b r ρ2
      | .ct ρ2 => forL t b r ρ2
      | .bk ρ2 => .nx ρ2
      | y => y
def toAg1 : Res → Option Ag | .dat d => some (.dat d) | .new l => some (.len l) | .var _ => none
def stoR (ρ : Ro) (i : Nat) (k : Int) (d : D) : Option Ro := (cellAt ρ i).bind fun l => (L2.ixN l.length k).map fun j => setCell ρ i (l.set j d)
def datI (ρ : Ro) (i : Nat) : Option Int := match ρ[i]? with | some (.dat (.int k)) => some k | _ => none
def swpR (ρ : Ro) (i a b c d : Nat) : Option Ro :=
  (cellAt ρ i).bind fun l => match datI ρ a, datI ρ b, datI ρ c, datI ρ d with
  | some a, some b, some c, some d => (L2.ixN l.length c).bind fun c => (L2.ixN l.length d).bind fun d => match l[c]?, l[d]? with
    | some x, some y => (stoR ρ i a x).bind fun ρ => stoR ρ i b y
    | _, _ => none
  | _, _, _, _ => none
section
variable (G : Gm) (call : CF)
def tupS : Option Sl → Option (List D) | some (.dat (.tup xs)) => some xs | _ => none
def augR (i : Nat) (xs : List D) (d : D) (ρ : Ro) : Fl := match d with
  | .tup ys => if xs.length + ys.length ≤ LIM then nxO (setD ρ i (.tup (xs ++ ys))) else .no
  | _ => .no
/-- ints: op= -/
def sauO : Op → Int → D → Option Int | .sub, m, .int z => some (m - z) | .add, m, .int z => some (m + z) | _, _, _ => none
/-- x[k] op= e -/
def sauR (i : Nat) (o : Op) (k : Int) (e : Ro → Out D) (ρ : Ro) : Fl := match (cellAt ρ i).bind fun l => L2.atI l k with
  | some (.int m) => (e ρ).fl fun d ρ => match sauO o m d with
    | some z => nxO (stoR ρ i k (.int z))
    | none => .no
  | _ => .no
/-- while, at most so many turns -/
def WH : Nat := 4000
def whL (c : Ro → Out Bool) (b : Ro → Fl) : Nat → Ro → Fl
  | 0, _ => .no
  | n + 1, ρ => (c ρ).fl fun t ρ1 => if t = true then (match b ρ1 with
    | .nx ρ2 => whL c b n ρ2
    | .ct ρ2 => whL c b n ρ2
    | .bk ρ2 => .nx ρ2
    | y => y) else .nx ρ1
mutual
def exs : MSs → Ro → Fl
  | .nil, ρ => .nx ρ
  | .cons s r, ρ => (exe s ρ).seq fun ρ => exs r ρ
def exe : MS → Ro → Fl
  | .set i e, ρ => (asD (ev G call e ρ)).fl fun d ρ => nxO (setD ρ i d)
  | .own i e, ρ => (ev G call e ρ).fl fun x ρ => match x with
    | .new l => (match ρ[i]? with | some (.lent _) => .no | none => .no | _ => .nx (ρ.set i (.own l)))
    | _ => .no
  | .mv i j, ρ => if i = j then .no else match ρ[j]? with
    | some (.own l) => nxO (setD (ρ.set j (.dat (.lst l))) i (.lst l))
    | _ => .no
  | .par i j a b, ρ => (asD (ev G call a ρ)).fl fun x ρ => (asD (ev G call b ρ)).fl fun y ρ => if i = j then .no else nxO ((setD ρ i x).bind fun ρ => setD ρ j y)
  | .sto i k e, ρ => (asD (ev G call e ρ)).fl fun d ρ => match cellAt ρ i with
    | none => .no
    | some _ => (asD (ev G call k ρ)).fl fun k ρ => match k with | .int k => nxO (stoR ρ i k d) | _ => .no
  | .swp i a b c d, ρ => nxO (swpR ρ i a b c d)
  | .app i e, ρ => match cellAt ρ i with
    | none => .no
    | some _ => (asD (ev G call e ρ)).fl fun d ρ => match cellAt ρ i with
      | some l => if l.length < LIM then .nx (setCell ρ i (l ++ [d])) else .no
      | none => .no
  | .ext i e, ρ => match cellAt ρ i with
    | none => .no
    | some _ => (ev G call e ρ).fl fun x ρ => match x, cellAt ρ i with
      | .new ys, some l => if l.length + ys.length ≤ LIM then .nx (setCell ρ i (l ++ ys)) else .no
      | _, _ => .no
  | .sau i o k e, ρ => match cellAt ρ i with
    | none => .no
    | some _ => (asD (ev G call k ρ)).fl fun kd ρ => match kd with
      | .int kk => sauR i o kk (fun ρ => asD (ev G call e ρ)) ρ
      | _ => .no
  | .aui i o e, ρ => match datI ρ i with
    | none => .no
    | some m => (asD (ev G call e ρ)).fl fun d ρ => match sauO o m d with
      | some z => nxO (setD ρ i (.int z))
      | none => .no
  | .aug i e, ρ => match tupS ρ[i]? with
    | none => .no
    | some xs => (asD (ev G call e ρ)).fl fun d ρ => augR i xs d ρ
  | .unp i j e, ρ => (asD (ev G call e ρ)).fl fun d ρ => nxO (asg (.two i j) d ρ)
  | .whl c b, ρ => whL (fun ρ => asT (ev G call c ρ)) (fun ρ => exs b ρ) WH ρ
  | .ret e, ρ => (ev G call e ρ).fl fun x ρ => match toAg1 x with | some r => .rt r ρ | none => .no
  | .retv i, ρ => match ρ[i]? with | some (.own l) => .rt (.len l) (ρ.set i .no) | _ => .no
  | .ifs c a b, ρ => (asT (ev G call c ρ)).fl fun t ρ => if t = true then exs a ρ else exs b ρ
  | .for_ t it b, ρ => (evI G call it ρ).fl fun ds ρ => forL t (fun ρ => exs b ρ) ds ρ
  | .expr e, ρ => (ev G call e ρ).fl fun _ ρ => .nx ρ
  | .doc, ρ => .nx ρ
  | .raise c es, ρ => match G.xc c with
    | none => .no
    | some n => (evDs G call es ρ).fl fun ds ρ => if ds.length = n then .ex c ds ρ else .no
  | .tryR e c i, ρ => if i < ρ.length then (match asD (ev G call e ρ) with
    | .ok d ρ => .rt (.dat d) ρ
    | .ex c' fs ρ => if c = c' ∧ fs.length = 2 then .rt (.dat (.tup fs)) ρ else .no
    | .no => .no) else .no
end
end
def agSl : Ag → Sl | .dat d => .dat d | .len l => .lent l
def agBack : List Ag → Ro → Option (List Ag)
  | [], _ => some []
  | .dat d :: r, _ :: q => (agBack r q).map (.dat d :: ·)
  | .len _ :: r, .lent l :: q => (agBack r q).map (.len l :: ·)
  | _, _ => none
def outC (as : List Ag) : Fl → OutC
  | .rt r ρ => match agBack as ρ with | some q => .ok r q | none => .no
  | .nx ρ => match agBack as ρ with | some q => .ok (.dat .non) q | none => .no
  | .ex c fs _ => .ex c fs
  | _ => .no
def callF (G : Gm) : Nat → CF
  | 0, _, _ => .no
  | n + 1, f, as => match G.fn f with
    | none => .no
    | some F => if as.length = F.np then outC as (exs G (callF G n) F.body (as.map agSl ++ List.replicate F.nl .no)) else .no
end DI
end
section
set_option linter.all false
set_option maxRecDepth 100000
set_option Elab.async false
/-! DI2: plain data in the heap; what a piece of code promises about it. -/
namespace DI
open PySem PySem.Spec PyProof.Rows L2

abbrev Le (F H : Hp) : Prop := ∀ a o, F a = some o → H a = some o
theorem Rd.le {F H : Hp} {a : Addr} {u : HO} (h : Le F H) (r : Rd F a u) : Rd H a u := r.elim (fun e => .inl (h _ _ e)) fun ⟨o, e⟩ => .inr ⟨o, h _ _ e⟩
theorem SqL.le {K : PySem.W.Frag} {F H : Hp} {a : Addr} {xs : List V} (h : Le F H) (r : SqL K F a xs) : SqL K H a xs := r.elim (fun r => .inl (Rd.le h r)) .inr
theorem SqT.le {K : PySem.W.Frag} {F H : Hp} {a : Addr} {xs : List V} (h : Le F H) (r : SqT K F a xs) : SqT K H a xs := r.elim (fun r => .inl (Rd.le h r)) .inr

mutual
def Rep (K : PySem.W.Frag) (F : Hp) : D → V → Prop
  | .non, v => v = .non
  | .bl b, v => v = .bl b
  | .int i, v => v = .int i
  | .str x, v => v = .str x
  | .tup ds, v => ∃ a vs, v = .ref a ∧ SqT K F a vs ∧ Reps K F ds vs
  | .lst ds, v => ∃ a vs, v = .ref a ∧ Rd F a (.lst vs) ∧ Reps K F ds vs
def Reps (K : PySem.W.Frag) (F : Hp) : List D → List V → Prop
  | [], vs => vs = []
  | d :: ds, vs => ∃ v r, vs = v :: r ∧ Rep K F d v ∧ Reps K F ds r
end
section
variable {K : PySem.W.Frag} {F H : Hp}
mutual
theorem Rep.le (h : Le F H) : ∀ (d : D) (v : V), Rep K F d v → Rep K H d v
  | .non, v, r => by unfold Rep at r ⊢; exact r
  | .bl b, v, r => by unfold Rep at r ⊢; exact r
  | .int i, v, r => by unfold Rep at r ⊢; exact r
  | .str x, v, r => by unfold Rep at r ⊢; exact r
  | .tup ds, v, r => by
    unfold Rep at r ⊢
    obtain ⟨a, vs, e, q, t⟩ := r
    exact ⟨a, vs, e, SqT.le h q, Reps.le h ds vs t⟩
  | .lst ds, v, r => by
    unfold Rep at r ⊢
    obtain ⟨a, vs, e, q, t⟩ := r
    exact ⟨a, vs, e, Rd.le h q, Reps.le h ds vs t⟩
theorem Reps.le (h : Le F H) : ∀ (ds : List D) (vs : List V), Reps K F ds vs → Reps K H ds vs
  | [], vs, r => by unfold Reps at r ⊢; exact r
  | d :: ds, vs, r => by
    unfold Reps at r ⊢
    obtain ⟨v, q, e, a, b⟩ := r
    exact ⟨v, q, e, Rep.le h d v a, Reps.le h ds q b⟩
end
theorem Reps.len : ∀ {ds : List D} {vs : List V}, Reps K F ds vs → vs.length = ds.length
  | [], vs, r => by unfold Reps at r; subst r; rfl
  | d :: ds, vs, r => by
    unfold Reps at r
    obtain ⟨v, q, e, a, b⟩ := r
    subst e
    simp [Reps.len b]
theorem Reps.get : ∀ {ds : List D} {vs : List V} {i : Nat} {d : D}, Reps K F ds vs → ds[i]? = some d → ∃ v, vs[i]? = some v ∧ Rep K F d v
  | [], vs, i, d, r, e => by simp at e
  | d' :: ds, vs, i, d, r, e => by
    unfold Reps at r
    obtain ⟨v, q, rfl, a, b⟩ := r
    cases i with
    | zero => simp at e; subst e; exact ⟨v, by simp, a⟩
    | succ i => simpa using Reps.get (i := i) b (by simpa using e)
theorem Reps.append : ∀ {ds es : List D} {vs us : List V}, Reps K F ds vs → Reps K F es us → Reps K F (ds ++ es) (vs ++ us)
  | [], es, vs, us, r, q => by unfold Reps at r; subst r; exact q
  | d :: ds, es, vs, us, r, q => by
    unfold Reps at r
    obtain ⟨v, t, rfl, a, b⟩ := r
    rw [List.cons_append, List.cons_append]
    unfold Reps
    exact ⟨v, _, rfl, a, Reps.append b q⟩
theorem Reps.one {d : D} {v : V} (r : Rep K F d v) : Reps K F [d] [v] := by
  unfold Reps; exact ⟨v, [], rfl, r, by unfold Reps; rfl⟩
theorem Reps.nil : Reps K F [] [] := by unfold Reps; rfl
theorem Reps.cons {d : D} {v : V} {ds : List D} {vs : List V} (r : Rep K F d v) (q : Reps K F ds vs) : Reps K F (d :: ds) (v :: vs) := by
  unfold Reps; exact ⟨v, vs, rfl, r, q⟩
theorem Reps.take : ∀ {ds : List D} {vs : List V} (n : Nat), Reps K F ds vs → Reps K F (ds.take n) (vs.take n)
  | [], vs, n, r => by unfold Reps at r; subst r; simp; exact Reps.nil
  | d :: ds, vs, n, r => by
    unfold Reps at r
    obtain ⟨v, q, rfl, a, b⟩ := r
    cases n with
    | zero => simpa using Reps.nil
    | succ n => simpa using Reps.cons a (Reps.take n b)
theorem Reps.drop : ∀ {ds : List D} {vs : List V} (n : Nat), Reps K F ds vs → Reps K F (ds.drop n) (vs.drop n)
  | [], vs, n, r => by unfold Reps at r; subst r; simp; exact Reps.nil
  | d :: ds, vs, n, r => by
    unfold Reps at r
    obtain ⟨v, q, rfl, a, b⟩ := r
    cases n with
    | zero => simpa using Reps.cons a b
    | succ n => simpa using Reps.drop n b
theorem Reps.set : ∀ {ds : List D} {vs : List V} (i : Nat) {d : D} {v : V}, Reps K F ds vs → Rep K F d v → Reps K F (ds.set i d) (vs.set i v)
  | [], vs, i, d, v, r, q => by unfold Reps at r; subst r; simp; exact Reps.nil
  | d' :: ds, vs, i, d, v, r, q => by
    unfold Reps at r
    obtain ⟨v', t, rfl, a, b⟩ := r
    cases i with
    | zero => simpa using Reps.cons q b
    | succ i => simpa using Reps.cons a (Reps.set i b q)
end

/-! ### the cells: the lists that may still change -/
structure EnvOk (K : PySem.W.Frag) (C : Addr → Prop) (ad : Nat → Addr) (F H : Hp) (σ : L2.St) (ρ : Ro) : Prop where
  len : ρ.length = σ.length
  dat : ∀ (i : Nat) (d : D), ρ[i]? = some (Sl.dat d) → ∃ v, σ[i]? = some (some v) ∧ Rep K F d v
  cel : ∀ (i : Nat) (l : List D), cellAt ρ i = some l → σ[i]? = some (some (.ref (ad i))) ∧ C (ad i) ∧ ∃ vs, H (ad i) = some (.lst vs) ∧ Reps K F l vs
  inj : ∀ (i j : Nat) (l m : List D), cellAt ρ i = some l → cellAt ρ j = some m → ad i = ad j → i = j
  le : Le F H
  off : ∀ a, C a → F a = none
  there : ∀ a, C a → ∃ xs, H a = some (.lst xs)
structure Stp (C : Addr → Prop) (F H F' H' : Hp) : Prop where
  le : Le F F'
  keep : ∀ a o, H a = some o → ¬ C a → H' a = some o
  new : ∀ a o, F' a = some o → F a = some o ∨ H a = none
  off : ∀ a, C a → F' a = none
theorem Stp.refl {C : Addr → Prop} {F H : Hp} (off : ∀ a, C a → F a = none) : Stp C F H F H := ⟨fun _ _ e => e, fun _ _ e _ => e, fun _ _ e => .inl e, off⟩
theorem Stp.trans {C : Addr → Prop} {F H F1 H1 F2 H2 : Hp} (a : Stp C F H F1 H1) (b : Stp C F1 H1 F2 H2) : Stp C F H F2 H2 := by
  refine ⟨fun x o e => b.le _ _ (a.le _ _ e), fun x o e n => b.keep _ _ (a.keep _ _ e n) n, fun x o e => ?_, b.off⟩
  rcases b.new x o e with e1 | n1
  · exact a.new x o e1
  · by_cases c : C x
    · rw [b.off x c] at e; cases e
    · refine .inr ?_
      cases q : H x with
      | none => rfl
      | some u => rw [a.keep x u q c] at n1; cases n1
theorem Stp.none_back {C : Addr → Prop} {F H F1 H1 : Hp} (a : Stp C F H F1 H1) {p : Addr} (n : H1 p = none) (c : ¬ C p) : H p = none := by
  cases q : H p with
  | none => rfl
  | some u => rw [a.keep p u q c] at n; cases n

/-- what a result is: seen from the start Hs -/
def ResOk (K : PySem.W.Frag) (C : Addr → Prop) (ad : Nat → Addr) (Hs F H : Hp) (ρ : Ro) : Res → V → Prop
  | .dat d, v => Rep K F d v
  | .new l, v => ∃ p vs, v = .ref p ∧ Hs p = none ∧ ¬ C p ∧ F p = none ∧ H p = some (.lst vs) ∧ Reps K F l vs
  | .var i, v => v = .ref (ad i)
theorem ResOk.go {K : PySem.W.Frag} {C : Addr → Prop} {ad : Nat → Addr} {Hs F H F' H' : Hp} {ρ ρ' : Ro} {r : Res} {v : V} (h : ResOk K C ad Hs F H ρ r v) (s : Stp C F H F' H') : ResOk K C ad Hs F' H' ρ' r v := by
  cases r with
  | dat d => exact Rep.le s.le d v h
  | var i => exact h
  | new l =>
    obtain ⟨p, vs, e, n, c, f, a, r⟩ := h
    refine ⟨p, vs, e, n, c, ?_, s.keep _ _ a c, Reps.le s.le l vs r⟩
    cases q : F' p with
    | none => rfl
    | some o =>
      rcases s.new p o q with z | z
      · rw [f] at z; cases z
      · rw [a] at z; cases z
theorem ResOk.from {K : PySem.W.Frag} {C : Addr → Prop} {ad : Nat → Addr} {F0 H0 Hs F H : Hp} {Fs : Hp} {ρ : Ro} {r : Res} {v : V} (s : Stp C F0 H0 Fs Hs) (h : ResOk K C ad Hs F H ρ r v) : ResOk K C ad H0 F H ρ r v := by
  cases r with
  | dat d => exact h
  | var i => exact h
  | new l =>
    obtain ⟨p, vs, e, n, c, q⟩ := h
    exact ⟨p, vs, e, s.none_back n c, c, q⟩

/-! ### exceptions -/
/-- what an exception of the class named c bears -/
structure XCls where
  names : List Str
def ExAt (K : PySem.W.Frag) (mg : Str → Option Value) (xn : Str → List Str) (c : Str) (fs : List D) (F H : Hp) (cls : Value) (d : Option Addr) : Prop :=
  ∃ C, mg c = some (.ref C) ∧ cls = .ref C ∧ (fs = [] ∨ ∃ dd vs, d = some dd ∧ H dd = some (.xd ((xn c).zip vs)) ∧ Reps K F fs vs ∧ fs.length = (xn c).length)

/-! ### promises -/
section
variable {α β γ δ : Type}
/-- the code whose wish is T computes out; R tells what lies in the machine for it -/
def Sd (X : Cx) (xn : Str → List Str) (W : WX) (C : Addr → Prop) (ad : Nat → Addr) (σ : L2.St) (F H : Hp) (out : Out α) (R : α → Hp → Hp → Hp → Ro → β → Prop) (T : (β → Hp → Prop) → Prop) : Prop :=
  match out with
  | .no => True
  | .ok a ρ' => ∀ Q : β → Hp → Prop, (∀ y F' H', Stp C F H F' H' → EnvOk X.K C ad F' H' σ ρ' → R a H F' H' ρ' y → Q y H') → T Q
  | .ex c fs ρ' => (∀ F' H' cls d, Stp C F H F' H' → EnvOk X.K C ad F' H' σ ρ' → ExAt X.K X.mg xn c fs F' H' cls d → W cls d σ H') → ∀ Q : β → Hp → Prop, T Q
variable {X : Cx} {xn : Str → List Str} {W : WX} {C : Addr → Prop} {ad : Nat → Addr} {σ : L2.St} {F H : Hp}
theorem Sd.imp {out : Out α} {R : α → Hp → Hp → Hp → Ro → β → Prop} {T T' : (β → Hp → Prop) → Prop} (h : Sd X xn W C ad σ F H out R T) (i : ∀ Q, T Q → T' Q) : Sd X xn W C ad σ F H out R T' := by
  cases out with
  | no => trivial
  | ok a ρ' => exact fun Q q => i Q (h Q q)
  | ex c fs ρ' => exact fun q Q => i Q (h q Q)
theorem Sd.bind {out : Out α} {f : α → Ro → Out γ} {R : α → Hp → Hp → Hp → Ro → β → Prop} {R2 : γ → Hp → Hp → Hp → Ro → δ → Prop} {T : (β → Hp → Prop) → Prop} {T2 : β → Hp → (δ → Hp → Prop) → Prop}
    (h : Sd X xn W C ad σ F H out R T)
    (h2 : ∀ a ρ' y F' H', Stp C F H F' H' → EnvOk X.K C ad F' H' σ ρ' → R a H F' H' ρ' y → Sd X xn W C ad σ F' H' (f a ρ') R2 (T2 y H'))
    (mono : ∀ g F' H' F'' H'' ρ z, Stp C F H F' H' → R2 g H' F'' H'' ρ z → R2 g H F'' H'' ρ z) :
    Sd X xn W C ad σ F H (out.bind f) R2 (fun Q => T fun y H' => T2 y H' Q) := by
  cases out with
  | no => trivial
  | ex c fs ρ' => exact fun q Q => h q _
  | ok a ρ' =>
    show Sd X xn W C ad σ F H (f a ρ') R2 _
    cases hf : f a ρ' with
    | no => trivial
    | ok g ρ2 =>
      intro Q q
      refine h _ fun y F' H' s e r => ?_
      have k := h2 a ρ' y F' H' s e r
      rw [hf] at k
      exact k Q fun z F'' H'' s' e' r' => q z F'' H'' (s.trans s') e' (mono _ _ _ _ _ _ _ s r')
    | ex c fs ρ2 =>
      intro q Q
      refine h _ fun y F' H' s e r => ?_
      have k := h2 a ρ' y F' H' s e r
      rw [hf] at k
      exact k (fun F'' H'' cls d s' e' x => q F'' H'' cls d (s.trans s') e' x) Q
/-- nothing but the heap as it is -/
theorem Sd.pure {a : α} {ρ : Ro} {R : α → Hp → Hp → Hp → Ro → β → Prop} {y : β} (e : EnvOk X.K C ad F H σ ρ) (r : R a H F H ρ y) : Sd X xn W C ad σ F H (.ok a ρ) R (fun Q => Q y H) :=
  fun Q q => q y F H (Stp.refl e.off) e r
theorem Sd.ok {a : α} {ρ : Ro} {R : α → Hp → Hp → Hp → Ro → β → Prop} {T : (β → Hp → Prop) → Prop} (h : ∀ Q : β → Hp → Prop, (∀ y F' H', Stp C F H F' H' → EnvOk X.K C ad F' H' σ ρ → R a H F' H' ρ y → Q y H') → T Q) : Sd X xn W C ad σ F H (.ok a ρ) R T := h
end

/-! ### the wishes of code, as readings -/
section
variable {X : Cx} {e : Expr} {es : List Expr}
def We (X : Cx) (e : Expr) : TE := fun σ H Q => ∀ pins s, Inv X pins σ H s → wpAny (model X.prog X.w) X.A (eval e X.env) (EP X pins σ Q) X.xe s
theorem pe_we : PE X e (We X e) := ⟨fun pins s σ H Q I h => h pins s I⟩
theorem We.of {t : TE} (h : PE X e t) {σ : L2.St} {H : Hp} {Q : VK} (q : t σ H Q) : We X e σ H Q := fun pins s I => h.run pins s σ H Q I q
def Wt (X : Cx) (e : Expr) : TT := fun σ H Q => ∀ pins s, Inv X pins σ H s → wpAny (model X.prog X.w) X.A (isTrue e X.env (eval e X.env)) (TP X pins σ Q) X.xe s
theorem pt_wt : PT X e (Wt X e) := ⟨fun pins s σ H Q I h => h pins s I⟩
theorem Wt.of {t : TT} (h : PT X e t) {σ : L2.St} {H : Hp} {Q : Bool → Hp → Prop} (q : t σ H Q) : Wt X e σ H Q := fun pins s I => h.run pins s σ H Q I q
def Ww (X : Cx) (e : Expr) : TT := fun σ H Q => ∀ whole pins s, Inv X pins σ H s → wpAny (model X.prog X.w) X.A (isTrue e X.env whole) (TP X pins σ Q) X.xe s
theorem pw_ww : PW X e (Ww X e) := ⟨fun wh pins s σ H Q I h => h wh pins s I⟩
theorem Ww.of {t : TT} (h : PW X e t) {σ : L2.St} {H : Hp} {Q : Bool → Hp → Prop} (q : t σ H Q) : Ww X e σ H Q := fun wh pins s I => h.run wh pins s σ H Q I q
def Wa (X : Cx) (es : List Expr) : TA := fun σ H Q => ∀ pos pins s, Inv X pins σ H s → wpAny (model X.prog X.w) X.A (spliced (backTo pos (starEach es X.env))) (AP X pins σ Q) X.xe s
theorem pa_wa : PA X es (Wa X es) := ⟨fun pos pins s σ H Q I h => h pos pins s I⟩
theorem Wa.of {t : TA} (h : PA X es t) {σ : L2.St} {H : Hp} {Q : List V → Hp → Prop} (q : t σ H Q) : Wa X es σ H Q := fun pos pins s I => h.run pos pins s σ H Q I q
end
end DI
end
section
set_option linter.all false
set_option maxRecDepth 100000
set_option Elab.async false
/-! DI3: an expression of the program against one of the small language. -/
namespace DI
open PySem PySem.Spec PyProof.Rows L2

def plainE : Expr → Bool | .Starred _ _ => false | .Slice _ _ _ _ => false | .Set _ _ _ => false | _ => true
theorem star_plain {e : Expr} {es : List Expr} {env : Env} (h : plainE e = true) : starEach (e :: es) env = (false, eval e env) :: starEach es env := by
  cases e <;> first | rfl | cases h
theorem ix_plain {e : Expr} (h : plainE e = true) : PlainIx e := by
  intro o i
  cases e <;> first | rfl | cases h
theorem fold_plain {e : Expr} {env : Env} (h : plainE e = true) : ∀ x, foldedSetIterable e env x = pure x := by
  intro x
  cases e <;> first | rfl | cases h
theorem behind_plain {op : CmpOp} {e : Expr} (h : plainE e = true) : behindInMarks op e = false := by
  cases e <;> first | rfl | cases h
theorem last_plain {op op' : CmpOp} {b c : Expr} (h : plainE c = true) : lastMarks [op, op'] [b, c] = false := by
  show behindInMarks op' c = false
  exact behind_plain h

def eName : Expr → Option Str | .Name x _ => some x | _ => none
def eConst : Expr → Option Const | .Constant c _ _ => some c | _ => none
def eTup : Expr → Option (List Expr) | .Tuple es _ _ => some es | _ => none
def eLis : Expr → Option (List Expr) | .List es _ => some es | _ => none
def eBin : Expr → Option (Expr × Operator × Expr) | .BinOp a o b _ => some (a, o, b) | _ => none
def eUn : Expr → Option (UnaryOp × Expr) | .UnaryOp o a _ => some (o, a) | _ => none
def eCmp : Expr → Option (Expr × List CmpOp × List Expr) | .Compare a o b _ => some (a, o, b) | _ => none
def eBool : Expr → Option (BoolOp × List Expr × Pos) | .BoolOp o l p => some (o, l, p) | _ => none
def eIf : Expr → Option (Expr × Expr × Expr) | .IfExp c a b _ => some (c, a, b) | _ => none
def eSub : Expr → Option (Expr × Expr) | .Subscript a b _ => some (a, b) | _ => none
def eSli : Expr → Option (Option Expr × Option Expr) | .Slice a b none _ => some (a, b) | _ => none
def eCall : Expr → Option (Str × List Expr) | .Call (.Name f _) es [] _ => some (f, es) | _ => none
def eCallS : Expr → Option (Str × Expr × List Expr) | .Call (.Subscript (.Name d _) k _) es [] _ => some (d, k, es) | _ => none
def eLc1 : Expr → Option (Expr × Expr × Expr × List Expr × Scope) | .ListComp e [⟨t, i, f, 0⟩] s _ => some (e, t, i, f, s) | _ => none
def eCnt : Expr → Option (Expr × Expr) | .Call (.Attribute o m ap) [y] [] cp => if (decide (m = "count") && ap.endLine == cp.line) = true then some (o, y) else none | _ => none
theorem eCnt_inv {e o y : Expr} (h : eCnt e = some (o, y)) : ∃ ap cp, e = .Call (.Attribute o "count" ap) [y] [] cp ∧ (ap.endLine == cp.line) = true := by
  unfold eCnt at h
  split at h
  · split at h
    · rename_i q
      cases h
      simp only [Bool.and_eq_true, decide_eq_true_eq] at q
      obtain ⟨rfl, q⟩ := q
      exact ⟨_, _, rfl, q⟩
    · cases h
  · cases h
theorem last_plain4 {op op' op'' : CmpOp} {b c d : Expr} (h : plainE d = true) : lastMarks [op, op', op''] [b, c, d] = false := by
  show behindInMarks op'' d = false
  exact behind_plain h
def eLc2 : Expr → Option (Expr × Expr × Expr × Expr × Expr × Scope) | .ListComp e [⟨t, i, [], 0⟩, ⟨t2, i2, [], 0⟩] s _ => some (e, t, i, t2, i2, s) | _ => none
theorem eLc2_inv {e x t i t2 i2 : Expr} {s : Scope} (h : eLc2 e = some (x, t, i, t2, i2, s)) : ∃ p, e = .ListComp x [⟨t, i, [], 0⟩, ⟨t2, i2, [], 0⟩] s p := by
  unfold eLc2 at h
  split at h
  · cases h; exact ⟨_, rfl⟩
  · cases h
def eMeth (w : Str) : Expr → Option (Expr × Expr) | .Call (.Attribute o m ap) [y] [] cp => if (decide (m = w) && ap.endLine == cp.line) = true then some (o, y) else none | _ => none
theorem eMeth_inv {w : Str} {e o y : Expr} (h : eMeth w e = some (o, y)) : ∃ ap cp, e = .Call (.Attribute o w ap) [y] [] cp ∧ (ap.endLine == cp.line) = true := by
  unfold eMeth at h
  split at h
  · split at h
    · rename_i q
      cases h
      simp only [Bool.and_eq_true, decide_eq_true_eq] at q
      obtain ⟨rfl, q⟩ := q
      exact ⟨_, _, rfl, q⟩
    · cases h
  · cases h
def eRv : Expr → Option Expr | .Subscript x (.Slice none none (some (.UnaryOp .USub (.Constant (.int 1) _ _) _)) _) _ => some x | _ => none
theorem eRv_inv {e x : Expr} (h : eRv e = some x) : ∃ k p1 p2 p3 p, e = .Subscript x (.Slice none none (some (.UnaryOp .USub (.Constant (.int 1) k p1) p2)) p3) p := by
  unfold eRv at h
  split at h
  · cases h; exact ⟨_, _, _, _, _, rfl⟩
  · cases h
theorem eName_inv {e : Expr} {x : Str} (h : eName e = some x) : ∃ p, e = .Name x p := by cases e <;> first | (cases h; exact ⟨_, rfl⟩) | cases h
theorem eConst_inv {e : Expr} {c : Const} (h : eConst e = some c) : ∃ j p, e = .Constant c j p := by cases e <;> first | (cases h; exact ⟨_, _, rfl⟩) | cases h
theorem eTup_inv {e : Expr} {es : List Expr} (h : eTup e = some es) : ∃ k p, e = .Tuple es k p := by cases e <;> first | (cases h; exact ⟨_, _, rfl⟩) | cases h
theorem eLis_inv {e : Expr} {es : List Expr} (h : eLis e = some es) : ∃ p, e = .List es p := by cases e <;> first | (cases h; exact ⟨_, rfl⟩) | cases h
theorem eBin_inv {e a b : Expr} {o : Operator} (h : eBin e = some (a, o, b)) : ∃ p, e = .BinOp a o b p := by cases e <;> first | (cases h; exact ⟨_, rfl⟩) | cases h
theorem eUn_inv {e a : Expr} {o : UnaryOp} (h : eUn e = some (o, a)) : ∃ p, e = .UnaryOp o a p := by cases e <;> first | (cases h; exact ⟨_, rfl⟩) | cases h
theorem eCmp_inv {e a : Expr} {o : List CmpOp} {b : List Expr} (h : eCmp e = some (a, o, b)) : ∃ p, e = .Compare a o b p := by cases e <;> first | (cases h; exact ⟨_, rfl⟩) | cases h
theorem eBool_inv {e : Expr} {o : BoolOp} {l : List Expr} {p : Pos} (h : eBool e = some (o, l, p)) : e = .BoolOp o l p := by cases e <;> first | (cases h; rfl) | cases h
theorem eIf_inv {e c a b : Expr} (h : eIf e = some (c, a, b)) : ∃ p, e = .IfExp c a b p := by cases e <;> first | (cases h; exact ⟨_, rfl⟩) | cases h
theorem eSub_inv {e a b : Expr} (h : eSub e = some (a, b)) : ∃ p, e = .Subscript a b p := by cases e <;> first | (cases h; exact ⟨_, rfl⟩) | cases h
theorem eSli_inv {e : Expr} {a b : Option Expr} (h : eSli e = some (a, b)) : ∃ p, e = .Slice a b none p := by
  cases e with
  | Slice x y z p => cases z with
    | none => cases h; exact ⟨_, rfl⟩
    | some z => cases h
  | _ => cases h
theorem eCall_inv {e : Expr} {f : Str} {es : List Expr} (h : eCall e = some (f, es)) : ∃ p q, e = .Call (.Name f p) es [] q := by
  unfold eCall at h
  split at h
  · cases h; exact ⟨_, _, rfl⟩
  · cases h
theorem eCallS_inv {e k : Expr} {f : Str} {es : List Expr} (h : eCallS e = some (f, k, es)) : ∃ p q r, e = .Call (.Subscript (.Name f p) k q) es [] r := by
  unfold eCallS at h
  split at h
  · cases h; exact ⟨_, _, _, rfl⟩
  · cases h
theorem eLc1_inv {e x t i : Expr} {f : List Expr} {s : Scope} (h : eLc1 e = some (x, t, i, f, s)) : ∃ p, e = .ListComp x [⟨t, i, f, 0⟩] s p := by
  unfold eLc1 at h
  split at h
  · cases h; exact ⟨_, rfl⟩
  · cases h

def vis (sc : Scope) (x : Str) : Bool := match sc.names.lookup x with | some .local => true | some .cell => true | some .free => true | _ => false
def loc (sc : Scope) (x : Str) : Bool := match sc.names.lookup x with | some .local => true | some .cell => true | _ => false
def glb (sc : Scope) (x : Str) : Bool := match sc.names.lookup x with | some .globalImplicit => !(x == ("__debug__" : Str)) && !decide (x = "__name__") | _ => false
theorem vis_ok {sc : Scope} {x : Str} (h : vis sc x = true) : Vis sc x := by
  unfold vis at h
  split at h <;> first | (exact .inl (by assumption)) | (exact .inr (.inl (by assumption))) | (exact .inr (.inr (by assumption))) | cases h
theorem loc_ok {sc : Scope} {x : Str} (h : loc sc x = true) : Loc sc x := by
  unfold loc at h
  split at h <;> first | (exact .inl (by assumption)) | (exact .inr (by assumption)) | cases h
theorem glb_ok {X : Cx} {x : Str} (h : glb X.env.scope x = true) : Gl X x ∧ (x == ("__debug__" : Str)) = false ∧ x ≠ "__name__" := by
  unfold glb at h
  split at h
  · rename_i e
    simp only [Bool.and_eq_true, Bool.not_eq_true', decide_eq_false_iff_not] at h
    exact ⟨e, h.1, h.2⟩
  · cases h

def opOf : Op → Operator | .add => .Add | .sub => .Sub | .mul => .Mult | .fdiv => .FloorDiv | .mod => .Mod
def cpOf : Cp → CmpOp | .eq => .Eq | .ne => .NotEq | .lt => .Lt | .le => .LtE | .gt => .Gt | .ge => .GtE
def blName : Bl → Str | .len => "len" | .int => "int" | .abs => "abs" | .list => "list" | .tuple => "tuple" | .min => "min" | .max => "max" | .sorted => "sorted" | .repr => "repr" | .all => "all" | .any => "any" | .sum => "sum" | .rev => "reversed"
def tyName : Ty → Str | .int => "int" | .bool => "bool" | .str => "str" | .tuple => "tuple" | .list => "list"
def ownP (N : List Str) (own : List Nat) : List (Str × Nat) := own.filterMap fun i => (N[i]?).map fun x => (x, i)
/-- a test that is no a if b else c -/
def tOk : ME → Bool | .ife _ _ _ => false | .and a b => tOk a && tOk b | .or a b => tOk a && tOk b | .nt a => tOk a | _ => true
/-- names stored -/
def chkN (N : List Str) (i : Nat) (sc : Scope) (fr : Bool) (e : Expr) : Bool :=
  match eName e with | some x => decide (N[i]? = some x) && loc sc x && (fr || decide (sc.names.lookup x = some .local)) | none => false
def chkG (N : List Str) (t : Tg) (sc : Scope) (fr : Bool) (e : Expr) : Bool :=
  match t with
  | .nm i => chkN N i sc fr e
  | .two i j => match eTup e with | some [a, b] => chkN N i sc fr a && chkN N j sc fr b && !decide (i = j) | _ => false
/-- names that a comprehension stores; s: its own scope, sc: the one around -/
def chkNB (N : List Str) (i : Nat) (s sc : Scope) (e : Expr) : Bool :=
  match eName e with | some x => decide (N[i]? = some x) && loc (relS s sc) x && (decide ((relS s sc).names.lookup x = some .local) || decide (s.names.lookup x = some .cell)) | none => false
def chkGB (N : List Str) (t : Tg) (s sc : Scope) (e : Expr) : Bool :=
  match t with
  | .nm i => chkNB N i s sc e
  | .two i j => match eTup e with | some [a, b] => chkNB N i s sc a && chkNB N j s sc b && !decide (i = j) | _ => false
section
variable (N : List Str)
/-- a zip is walked with two names only -/
def tgI (t : Tg) (it : MI) : Bool := match it with | .zip _ _ => (match t with | .two _ _ => true | _ => false) | _ => true
def inTs (t : Tg) (own : List Nat) : Bool := match t with | .nm i => own.contains i | .two i j => own.contains i && own.contains j
def chkVr (N : List Str) (i : Nat) (sc : Scope) (e : Expr) : Bool := match eName e with | some x => decide (N[i]? = some x) && vis sc x && !(x == ("__debug__" : Str)) && !(x == ("__classdict__" : Str)) | none => false
mutual
def chk : ME → Scope → Expr → Bool
  | .var i, sc, e => match eName e with | some x => decide (N[i]? = some x) && vis sc x && !(x == ("__debug__" : Str)) && !(x == ("__classdict__" : Str)) | none => false
  | .non, _, e => match eConst e with | some .none => true | _ => false
  | .bl b, _, e => match eConst e with | some (.bool c) => b == c | _ => false
  | .int i, _, e => match eConst e with | some (.int j) => decide (i = j) | _ => false
  | .str x, _, e => match eConst e with | some (.str y) => decide (x = y) | _ => false
  | .glo n, sc, e => match eName e with | some x => decide (x = n) && glb sc x | none => false
  | .tup es, sc, e => match eTup e with | some l => chks es sc l | none => false
  | .lis es, sc, e => match eLis e with | some l => chks es sc l | none => false
  | .bin o a b, sc, e => match eBin e with | some (x, p, y) => decide (p = opOf o) && chk a sc x && chk b sc y | none => false
  | .neg a, sc, e => match eUn e with | some (.USub, x) => chk a sc x | _ => false
  | .nt a, sc, e => match eUn e with | some (.Not, x) => chk a sc x | _ => false
  | .cmp o a b, sc, e => match eCmp e with | some (x, [p], [y]) => decide (p = cpOf o) && plainE y && chk a sc x && chk b sc y | _ => false
  | .isN a, sc, e => match eCmp e with | some (x, [.Is], [y]) => decide (eConst y = some .none) && chk a sc x | _ => false
  | .notN a, sc, e => match eCmp e with | some (x, [.IsNot], [y]) => decide (eConst y = some .none) && chk a sc x | _ => false
  | .isin a b, sc, e => match eCmp e with | some (x, [.In], [y]) => plainE y && chk a sc x && chk b sc y | _ => false
  | .nin a b, sc, e => match eCmp e with | some (x, [.NotIn], [y]) => plainE y && chk a sc x && chk b sc y | _ => false
  | .ch o o' a b c, sc, e => match eCmp e with | some (x, [p, p'], [y, z]) => decide (p = cpOf o) && decide (p' = cpOf o') && plainE z && chk a sc x && chk b sc y && chk c sc z | _ => false
  | .and a b, sc, e => match eBool e with | some (.And, x :: y :: r, p) => chk a sc x && (match r with | [] => chk b sc y | _ => chk b sc (.BoolOp .And (y :: r) p)) | _ => false
  | .or a b, sc, e => match eBool e with | some (.Or, x :: y :: r, p) => chk a sc x && (match r with | [] => chk b sc y | _ => chk b sc (.BoolOp .Or (y :: r) p)) | _ => false
  | .ife c a b, sc, e => match eIf e with | some (x, y, z) => tOk c && chk c sc x && chk a sc y && chk b sc z | _ => false
  | .idx a i, sc, e => match eSub e with | some (x, y) => plainE y && chk a sc x && chk i sc y | _ => false
  | .slF a l, sc, e => match eSub e with | some (x, s) => (match eSli s with | some (some y, none) => chk a sc x && chk l sc y | _ => false) | _ => false
  | .slT a h, sc, e => match eSub e with | some (x, s) => (match eSli s with | some (none, some y) => chk a sc x && chk h sc y | _ => false) | _ => false
  | .slB a l h, sc, e => match eSub e with | some (x, s) => (match eSli s with | some (some y, some z) => chk a sc x && chk l sc y && chk h sc z | _ => false) | _ => false
  | .sRev a, sc, e => match eCall e with | some (g, [y]) => (match eCall y with | some (g2, [x]) => decide (g = "tuple") && glb sc g && (decide (g2 = blName .rev) && glb sc g2) && (plainE x && plainE y) && chk a sc x | _ => false) | _ => false
  | .cnt i b, sc, e => match eCnt e with | some (o, y) => chkVr N i sc o && plainE y && chk b sc y | _ => false
  | .sRvt a, sc, e => match eRv e with | some x => chk a sc x | _ => false
  | .call f es, sc, e => match eCall e with | some (g, x :: r) => decide (g = f) && glb sc g && chks es sc (x :: r) | _ => false
  | .blt f a, sc, e => match eCall e with | some (g, [x]) => decide (g = blName f) && glb sc g && plainE x && chk a sc x | _ => false
  | .ch4 o1 o2 o3 a b c d, sc, e => match eCmp e with | some (x, [p1, p2, p3], [y, z, w]) => decide (p1 = cpOf o1) && decide (p2 = cpOf o2) && decide (p3 = cpOf o3) && plainE w && chk a sc x && chk b sc y && chk c sc z && chk d sc w | _ => false
  | .max2 a b, sc, e => match eCall e with | some (g, [x, y]) => decide (g = "max") && glb sc g && (plainE x && plainE y) && chk a sc x && chk b sc y | _ => false
  | .zipT _ _, _, _ => false
  | .lrg a, sc, e => match eCall e with | some (g, [z]) => (match eCall z with | some (g2, [x]) => decide (g = "list") && glb sc g && (decide (g2 = "range") && glb sc g2) && plainE x && chk a sc x | _ => false) | _ => false
  | .ixo i b, sc, e => match eMeth "index" e with | some (o, y) => chkVr N i sc o && plainE y && chk b sc y | _ => false
  | .isi a t, sc, e => match eCall e with | some (g, [x, y]) => decide (g = "isinstance") && glb sc g && decide (eName y = some (tyName t)) && glb sc (tyName t) && plainE x && chk a sc x | _ => false
  | .lc elt t it c own, sc, e => match eLc1 e with
    | some (x, g, i, f, s) => blkC N sc s (ownP N own) && decide ((ownP N own).map (·.2) = own) && (match t with | .nm i => own.contains i | .two i j => own.contains i && own.contains j) && plainE i && tgI t it && chkGB N t s sc g && chkI it sc i && chkC c (relS s sc) f && chk elt (relS s sc) x
    | _ => false
  | .lc2 elt t it t2 it2 own own2, sc, e => match eLc2 e with
    | some (x, g, i, g2, i2, s) => blkC N sc s (ownP N own) && decide ((ownP N own).map (·.2) = own) && inTs t own && inTs t2 own2 && own2.all own.contains && plainE i && plainE i2 && tgI t it && tgI t2 it2 && chkGB N t s sc g && chkGB N t2 s sc g2 && chkI it sc i && chkI it2 (relS s sc) i2 && chk elt (relS s sc) x
    | _ => false
  | .dcall d k a, sc, e => match eCallS e with | some (g, x, [y]) => decide (g = d) && glb sc g && plainE x && plainE y && chk k sc x && chk a sc y | _ => false
  | .din d k, sc, e => match eCmp e with | some (x, [.In], [y]) => decide (eName y = some d) && glb sc d && chk k sc x | _ => false
  | .dnin d k, sc, e => match eCmp e with | some (x, [.NotIn], [y]) => decide (eName y = some d) && glb sc d && chk k sc x | _ => false
def chks : MEs → Scope → List Expr → Bool
  | .nil, _, l => match l with | [] => true | _ => false
  | .cons m r, sc, l => match l with | e :: es => plainE e && chk m sc e && chks r sc es | [] => false
def chkI : MI → Scope → Expr → Bool
  | .zip a b, sc, e => match eCall e with | some (g, [x, y]) => decide (g = "zip") && glb sc g && (plainE x && plainE y) && chk a sc x && chk b sc y | _ => false
  | .seq m, sc, e => plainE e && chk m sc e
  | .rng1 a, sc, e => match eCall e with | some (g, [x]) => decide (g = "range") && glb sc g && plainE x && chk a sc x | _ => false
  | .rng2 a b, sc, e => match eCall e with | some (g, [x, y]) => decide (g = "range") && glb sc g && plainE x && plainE y && chk a sc x && chk b sc y | _ => false
  | .rngD a, sc, e => match eCall e with
    | some (g, [x, y, z]) => decide (g = "range") && glb sc g && plainE x && decide (eConst y = some (.int 0)) && (match eUn z with | some (.USub, w) => decide (eConst w = some (.int 1)) | _ => false) && chk a sc x
    | _ => false
def chkC : MC → Scope → List Expr → Bool
  | .yes, _, l => match l with | [] => true | _ => false
  | .one c, sc, l => match l with | [x] => tOk c && chk c sc x | _ => false
end
end
end DI
end
section
set_option linter.all false
set_option maxRecDepth 100000
set_option Elab.async false
/-! DI4: new objects; the operations on values. -/
namespace DI
open PySem PySem.Spec PyProof.Rows L2

theorem lim_line : LIM ≤ sizeLine := by rw [sizeLine_eq]; decide
section
variable {K : PySem.W.Frag} {C : Addr → Prop} {ad : Nat → Addr} {F H : Hp} {σ : L2.St} {ρ : Ro} {p : Addr} {o : HO}
theorem le_upd {F H : Hp} (h : Le F H) (n : H p = none) : Le F (upd H p o) := fun a u e => by
  rw [upd_ne (ne_of_none (h a u e) n)]; exact h a u e
theorem le_upd0 (n : H p = none) : Le H (upd H p o) := fun a u e => by rw [upd_ne (ne_of_none e n)]; exact e
theorem EnvOk.notC (e : EnvOk K C ad F H σ ρ) (n : H p = none) : ¬ C p := fun c => by obtain ⟨xs, h⟩ := e.there p c; rw [n] at h; cases h
theorem EnvOk.neC (e : EnvOk K C ad F H σ ρ) (n : H p = none) {a : Addr} (c : C a) : a ≠ p := fun z => e.notC n (z ▸ c)
theorem EnvOk.F_none (e : EnvOk K C ad F H σ ρ) (n : H p = none) : F p = none := by
  cases q : F p with
  | none => rfl
  | some u => rw [e.le p u q] at n; cases n
/-- a new object that will stay -/
theorem EnvOk.frozen (e : EnvOk K C ad F H σ ρ) (n : H p = none) : EnvOk K C ad (upd F p o) (upd H p o) σ ρ := by
  have f := e.F_none n
  refine ⟨e.len, fun i d h => ?_, fun i l h => ?_, e.inj, fun a u q => ?_, fun a c => ?_, fun a c => ?_⟩
  · obtain ⟨v, h1, h2⟩ := e.dat i d h
    exact ⟨v, h1, Rep.le (le_upd0 f) d v h2⟩
  · obtain ⟨h1, h2, vs, h3, h4⟩ := e.cel i l h
    exact ⟨h1, h2, vs, by rw [upd_ne (ne_of_none h3 n)]; exact h3, Reps.le (le_upd0 f) l vs h4⟩
  · by_cases z : a = p
    · subst z; rw [upd_same] at q ⊢; exact q
    · rw [upd_ne z] at q ⊢; exact e.le a u q
  · rw [upd_ne (e.neC n c)]; exact e.off a c
  · obtain ⟨xs, h⟩ := e.there a c
    exact ⟨xs, by rw [upd_ne (e.neC n c)]; exact h⟩
theorem EnvOk.stpF (e : EnvOk K C ad F H σ ρ) (n : H p = none) : Stp C F H (upd F p o) (upd H p o) := by
  have f := e.F_none n
  refine ⟨le_upd0 f, fun a u q _ => by rw [upd_ne (ne_of_none q n)]; exact q, fun a u q => ?_, (e.frozen n).off⟩
  by_cases z : a = p
  · subst z; exact .inr n
  · rw [upd_ne z] at q; exact .inl q
/-- a new object that may still change -/
theorem EnvOk.fresh (e : EnvOk K C ad F H σ ρ) (n : H p = none) : EnvOk K C ad F (upd H p o) σ ρ := by
  refine ⟨e.len, e.dat, fun i l h => ?_, e.inj, le_upd e.le n, e.off, fun a c => ?_⟩
  · obtain ⟨h1, h2, vs, h3, h4⟩ := e.cel i l h
    exact ⟨h1, h2, vs, by rw [upd_ne (ne_of_none h3 n)]; exact h3, h4⟩
  · obtain ⟨xs, h⟩ := e.there a c
    exact ⟨xs, by rw [upd_ne (e.neC n c)]; exact h⟩
theorem EnvOk.stpN (e : EnvOk K C ad F H σ ρ) (n : H p = none) : Stp C F H F (upd H p o) :=
  ⟨fun _ _ q => q, fun a u q _ => by rw [upd_ne (ne_of_none q n)]; exact q, fun a u q => .inl q, e.off⟩
theorem EnvOk.stp (e : EnvOk K C ad F H σ ρ) : Stp C F H F H := Stp.refl e.off
/-- a new list is left as it is -/
theorem EnvOk.freeze (e : EnvOk K C ad F H σ ρ) (h : H p = some o) (c : ¬ C p) (f : F p = none) : EnvOk K C ad (upd F p o) H σ ρ := by
  refine ⟨e.len, fun i d q => ?_, fun i l q => ?_, e.inj, fun a u q => ?_, fun a q => ?_, e.there⟩
  · obtain ⟨v, h1, h2⟩ := e.dat i d q
    exact ⟨v, h1, Rep.le (le_upd0 f) d v h2⟩
  · obtain ⟨h1, h2, vs, h3, h4⟩ := e.cel i l q
    exact ⟨h1, h2, vs, h3, Reps.le (le_upd0 f) l vs h4⟩
  · by_cases z : a = p
    · subst z; rw [upd_same] at q; cases q; exact h
    · rw [upd_ne z] at q; exact e.le a u q
  · rw [upd_ne (show a ≠ p from fun z => c (z ▸ q))]; exact e.off a q
theorem Stp.freeze {F0 H0 : Hp} (s : Stp C F0 H0 F H) (n : H0 p = none) (c : ¬ C p) (f : F p = none) : Stp C F0 H0 (upd F p o) H := by
  refine ⟨fun a u q => le_upd0 f a u (s.le a u q), s.keep, fun a u q => ?_, fun a q => ?_⟩
  · by_cases z : a = p
    · subst z; exact .inr n
    · rw [upd_ne z] at q; exact s.new a u q
  · rw [upd_ne (show a ≠ p from fun z => c (z ▸ q))]; exact s.off a q

/-- data looked at: a list may still change -/
def RepB (K : PySem.W.Frag) (F H : Hp) : D → V → Prop
  | .lst ds, v => ∃ a vs, v = .ref a ∧ Rd H a (.lst vs) ∧ Reps K F ds vs
  | d, v => Rep K F d v
theorem RepB.of (le : Le F H) {d : D} {v : V} (h : Rep K F d v) : RepB K F H d v := by
  cases d with
  | lst ds =>
    unfold Rep at h
    obtain ⟨a, vs, e, q, r⟩ := h
    exact ⟨a, vs, e, Rd.le le q, r⟩
  | _ => exact h
theorem RepB.rep (le : Le F H) {d : D} {v : V} (h : RepB K F H d v) : Rep K H d v := by
  cases d with
  | lst ds =>
    obtain ⟨a, vs, e, q, r⟩ := h
    unfold Rep
    exact ⟨a, vs, e, q, Reps.le le ds vs r⟩
  | _ => exact Rep.le le _ v h
theorem ResOk.look {Hs : Hp} (e : EnvOk K C ad F H σ ρ) {r : Res} {v : V} {d : D} (h : ResOk K C ad Hs F H ρ r v) (l : DI.look ρ r = some d) : RepB K F H d v := by
  cases r with
  | dat d' => cases l; exact RepB.of e.le h
  | new ls =>
    cases l
    obtain ⟨p, vs, e1, _, _, _, h1, h2⟩ := h
    exact ⟨p, vs, e1, .inl h1, h2⟩
  | var i =>
    cases q : cellAt ρ i with
    | none => simp [DI.look, q] at l
    | some ls =>
      simp only [DI.look, q, Option.map_some, Option.some.injEq] at l
      subst l
      obtain ⟨_, _, vs, h1, h2⟩ := e.cel i ls q
      exact ⟨ad i, vs, h, .inl h1, h2⟩
theorem Rep.tup {ds : List D} {v : V} : Rep K F (.tup ds) v ↔ ∃ a vs, v = .ref a ∧ SqT K F a vs ∧ Reps K F ds vs := by unfold Rep; rfl
theorem Rep.lst {ds : List D} {v : V} : Rep K F (.lst ds) v ↔ ∃ a vs, v = .ref a ∧ Rd F a (.lst vs) ∧ Reps K F ds vs := by unfold Rep; rfl
theorem Rep.int {i : Int} {v : V} : Rep K F (.int i) v ↔ v = .int i := by unfold Rep; rfl
theorem Rep.str {i : Str} {v : V} : Rep K F (.str i) v ↔ v = .str i := by unfold Rep; rfl
theorem Rep.bl {i : Bool} {v : V} : Rep K F (.bl i) v ↔ v = .bl i := by unfold Rep; rfl
theorem RepB.int {i : Int} {v : V} (h : RepB K F H (.int i) v) : v = .int i := Rep.int.mp (show Rep K F _ _ from h)
theorem RepB.str {i : Str} {v : V} (h : RepB K F H (.str i) v) : v = .str i := Rep.str.mp (show Rep K F _ _ from h)
theorem RepB.bl {i : Bool} {v : V} (h : RepB K F H (.bl i) v) : v = .bl i := Rep.bl.mp (show Rep K F _ _ from h)
theorem RepB.tup {ds : List D} {v : V} (h : RepB K F H (.tup ds) v) : ∃ a vs, v = .ref a ∧ SqT K F a vs ∧ Reps K F ds vs := Rep.tup.mp (show Rep K F _ _ from h)
theorem Rep.non {v : V} : Rep K F .non v ↔ v = .non := by unfold Rep; rfl
mutual
theorem Rep.dp : ∀ (d : D) (v : V), Rep K H d v → Dp K H v (toPy d)
  | .non, v, h => by unfold Rep at h; subst h; unfold toPy; exact .non
  | .bl b, v, h => by unfold Rep at h; subst h; unfold toPy; exact .bl b
  | .int b, v, h => by unfold Rep at h; subst h; unfold toPy; exact .int b
  | .str b, v, h => by unfold Rep at h; subst h; unfold toPy; exact .str b
  | .tup ds, v, h => by
    unfold Rep at h
    obtain ⟨a, vs, rfl, q, r⟩ := h
    unfold toPy
    exact .tup q (Reps.dp ds vs r)
  | .lst ds, v, h => by
    unfold Rep at h
    obtain ⟨a, vs, rfl, q, r⟩ := h
    unfold toPy
    exact .lst (.inl q) (Reps.dp ds vs r)
theorem Reps.dp : ∀ (ds : List D) (vs : List V), Reps K H ds vs → DpAll K H vs (toPys ds)
  | [], vs, h => by unfold Reps at h; subst h; unfold toPys; exact .nil
  | d :: ds, vs, h => by
    unfold Reps at h
    obtain ⟨v, r, rfl, a, b⟩ := h
    unfold toPys
    exact .cons (Rep.dp d v a) (Reps.dp ds r b)
end
end

/-! ### operations -/
def rop (X : Cx) (f : Value → Value → Sem Value) : R2 := fun v u H Q => ∀ pins s σ vv uu, Inv X pins σ H s → RelV v vv → RelV u uu → wpAny (model X.prog X.w) X.A (f vv uu) (EP X pins σ Q) X.xe s
theorem rop_ok {X : Cx} {f : Value → Value → Sem Value} : OpR X f (rop X f) := fun pins s σ H x y v u Q I rx ry h => h pins s σ v u I rx ry
theorem rop.of {X : Cx} {f : Value → Value → Sem Value} {r : R2} (h : OpR X f r) {v u : V} {H : Hp} {Q : VK} (q : r v u H Q) : rop X f v u H Q := fun pins s σ vv uu I rx ry => h pins s σ H v u vv uu Q I rx ry q
/-- list + list -/
def rCatL : R2 := fun x y H Q => ∃ l b xs zs, x = .ref l ∧ y = .ref b ∧ Rd H l (.lst xs) ∧ Rd H b (.lst zs) ∧ xs.length + zs.length ≤ sizeLine ∧ ∀ p, H p = none → Q (.ref p) (upd H p (.lst (xs ++ zs)))
theorem op_catL {X : Cx} : OpR X (binaryOp .Add) rCatL := by
  intro pins s σ H x y v u Q I rx ry h
  obtain ⟨l, b, xs, zs, rfl, rfl, hH, hB, hz, q⟩ := h
  cases rx
  cases ry
  obtain ⟨_, its, n, r, e⟩ := hH.ok I.hok
  obtain ⟨_, its2, n2, r2, e2⟩ := hB.ok I.hok
  have hl := r.length
  have hl2 := r2.length
  refine PySem.P.add_list e e2 ?_ (by rw [List.size_toArray, List.size_toArray]; omega)
  have ea : its.toArray ++ its2.toArray = (its ++ its2).toArray := by simp
  rw [ea]
  exact ⟨.ref _, _, I.lnew (t' := s.toks) (r.append r2) (by rw [List.length_append]; omega), rfl, q _ I.fresh⟩
section
variable {X : Cx} {C : Addr → Prop} {ad : Nat → Addr} {F H : Hp} {σ : L2.St} {ρ : Ro} {v u : V}
/-- the wish behind a result -/
abbrev Fin (X : Cx) (C : Addr → Prop) (ad : Nat → Addr) (F H : Hp) (σ : L2.St) (ρ : Ro) (r : Res) (Q : VK) : Prop :=
  ∀ w F' H', Stp C F H F' H' → EnvOk X.K C ad F' H' σ ρ → ResOk X.K C ad H F' H' ρ r w → Q w H'
theorem bin_ok {o : Op} {x y : D} {r : Res} {Q : VK} (e : EnvOk X.K C ad F H σ ρ) (hx : RepB X.K F H x v) (hy : RepB X.K F H y u) (h : binR o x y = some r) (q : Fin X C ad F H σ ρ r Q) : rop X (binaryOp (opOf o)) v u H Q := by
  have now : ∀ {d : D} {w : V}, r = .dat d → Rep X.K F d w → Q w H := fun {d w} er hr => q w F H e.stp e (by subst er; exact hr)
  unfold binR at h
  split at h
  · cases h; cases hx.int; cases hy.int
    exact rop.of op_add ⟨_, _, rfl, rfl, now rfl (Rep.int.mpr rfl)⟩
  · cases h; cases hx.int; cases hy.int
    exact rop.of op_sub ⟨_, _, rfl, rfl, now rfl (Rep.int.mpr rfl)⟩
  · split at h
    · rename_i hc
      cases h; cases hx.int; cases hy.int
      refine rop.of op_mul ⟨_, _, rfl, rfl, ?_, now rfl (Rep.int.mpr rfl)⟩
      rcases hc with hc | hc
      · exact .inl ⟨by omega, by omega⟩
      · exact .inr ⟨by omega, by omega⟩
    · cases h
  · split at h
    · rename_i hc
      cases h; cases hx.int; cases hy.int
      exact rop.of op_fdiv ⟨_, _, rfl, rfl, hc, now rfl (Rep.int.mpr rfl)⟩
    · cases h
  · split at h
    · rename_i hc
      cases h; cases hx.int; cases hy.int
      exact rop.of op_mod ⟨_, _, rfl, rfl, hc, now rfl (Rep.int.mpr rfl)⟩
    · cases h
  · split at h
    · rename_i hc
      cases h; cases hx.str; cases hy.str
      exact rop.of op_add_str ⟨_, _, rfl, rfl, Nat.le_trans hc lim_line, now rfl (Rep.str.mpr rfl)⟩
    · cases h
  · split at h
    · rename_i xs ys hc
      cases h
      obtain ⟨a, vs, rfl, h1, h2⟩ := hx.tup
      obtain ⟨b, us, rfl, h3, h4⟩ := hy.tup
      have hl : vs.length + us.length ≤ sizeLine := by rw [h2.len, h4.len]; exact Nat.le_trans hc lim_line
      refine rop.of op_catA ⟨a, b, vs, us, rfl, rfl, SqT.le e.le h1, SqT.le e.le h3, hl, fun z => ?_, fun z1 z => ?_, fun z1 z p n => ?_⟩
      · refine now rfl (Rep.tup.mpr ⟨b, us, rfl, h3, ?_⟩)
        subst z
        have hn : xs = [] := List.eq_nil_of_length_eq_zero h2.len.symm
        subst hn; exact h4
      · refine now rfl (Rep.tup.mpr ⟨a, vs, rfl, h1, ?_⟩)
        subst z
        have hn : ys = [] := List.eq_nil_of_length_eq_zero h4.len.symm
        subst hn; rw [List.append_nil]; exact h2
      · exact q _ _ _ (e.stpF n) (e.frozen n) (Rep.tup.mpr ⟨p, vs ++ us, rfl, SqT.of upd_same, Reps.le (le_upd0 (e.F_none n)) _ _ (h2.append h4)⟩)
    · cases h
  · split at h
    · rename_i xs ys hc
      cases h
      obtain ⟨a, vs, rfl, h1, h2⟩ := hx
      obtain ⟨b, us, rfl, h3, h4⟩ := hy
      have hl : vs.length + us.length ≤ sizeLine := by rw [h2.len, h4.len]; exact Nat.le_trans hc lim_line
      refine rop.of op_catL ⟨a, b, vs, us, rfl, rfl, h1, h3, hl, fun p n => ?_⟩
      exact q _ _ _ (e.stpN n) (e.fresh n) ⟨p, vs ++ us, rfl, n, e.notC n, e.F_none n, upd_same, h2.append h4⟩
    · cases h
  · cases h
end
end DI
end
section
set_option linter.all false
set_option maxRecDepth 100000
set_option Elab.async false
/-! DIV: max and sum of a tuple of ints, the place of an int in a row, the order of data: as rules by values. -/
namespace L2
open PySem PySem.Spec PyProof.Rows
theorem ints_reads {h : Heap} : ∀ {its : List Value} {ns : List Int}, IntsAre its ns → ReadsAll h its (ns.map PyData.int) []
  | _, _, .nil => .nil
  | _, _, .cons n t r => .cons (vs := _) (as := []) (bs := []) (.int n t) (ints_reads r)
theorem ints_alike (ns : List Int) : PySem.W.AlikeAll (ns.map PyData.int) := ⟨fun d hd d' hd' => by
  obtain ⟨i, _, rfl⟩ := List.mem_map.mp hd
  obtain ⟨j, _, rfl⟩ := List.mem_map.mp hd'
  rfl, fun d hd => by
  obtain ⟨i, _, rfl⟩ := List.mem_map.mp hd
  exact fun z => nomatch z⟩
theorem ints_depth : ∀ ns : List Int, PyData.depthAll (ns.map PyData.int) = 0
  | [] => rfl
  | n :: r => by
    rw [List.map_cons]
    show max (PyData.int n).depth (PyData.depthAll (r.map PyData.int)) = 0
    rw [ints_depth r]; rfl
section
variable {X : Cx}
def rMaxT (K : PySem.W.Frag) : List V → Hp → VK → Prop := fun vs H Q => ∃ (a : Addr) (n : Int) (ns : List Int), vs = [V.ref a] ∧ SqT K H a ((n :: ns).map V.int) ∧ Q (.int (ns.foldl max n)) H
theorem cr_maxT (hc : X.calm = true) (hu : X.A.units + 8 < cLine) : CallR X (.builtin "max") (rMaxT X.K) := by
  intro pins s σ H vs us Q I r h
  obtain ⟨a, n, ns, rfl, hs, q⟩ := h
  obtain ⟨its, rv, hl, _⟩ := I.tuple hs
  rw [Vals.ref1 r]
  have hi := intsAre_of rv
  refine PySem.W.max_tuple_data (as := []) (I.ok.hd hc) (show s.heap.IsTuple a its.toArray from hl) (x := .int n) (xs := ns.map PyData.int) (by have := ints_reads (h := s.heap) hi; simpa using this) (by have := ints_alike (n :: ns); simpa using this) (by
    have := ints_depth (n :: ns)
    rw [List.map_cons] at this
    rw [this]; omega) fun i v h' tk bs _ hr hk => ?_
  rw [PySem.W.maxD_ints] at hr
  cases hr with
  | int _ t => exact ⟨.int _, H, I.kept hk, ⟨_, rfl⟩, q⟩
def rSumT (K : PySem.W.Frag) : List V → Hp → VK → Prop := fun vs H Q => ∃ (a : Addr) (ns : List Int), vs = [V.ref a] ∧ SqT K H a (ns.map V.int) ∧ Q (.int ns.sum) H
theorem cr_sumT (hc : X.calm = true) : CallR X (.builtin "sum") (rSumT X.K) := by
  intro pins s σ H vs us Q I r h
  obtain ⟨a, ns, rfl, hs, q⟩ := h
  obtain ⟨its, rv, hl, _⟩ := I.tuple hs
  rw [Vals.ref1 r]
  have hi := intsAre_of rv
  obtain ⟨xs, e⟩ := hi.allInts.items
  have hn : numsOf (intItems xs).toList = ns := by rw [← e]; exact hi.numsOf
  rw [nums_intItems] at hn
  have hl : s.heap.IsTuple a its.toArray := hl
  rw [e] at hl
  refine PySem.W.ktm_sumG (I.ok.hd hc) hl fun h' tk t' hk => ?_
  refine ⟨.int _, H, I.kept hk, ⟨_, rfl⟩, ?_⟩
  have e2 : preSum (numAt xs) xs.size = ns.sum := by rw [preSum_eq, List.take_of_length_le (by simp), hn]
  rw [e2]; exact q
def rIxI (K : PySem.W.Frag) (Sq : PySem.W.Frag → Hp → Addr → List V → Prop) : V → List V → Hp → VK → Prop := fun x vs H Q => ∃ (a : Addr) (ns : List Int) (k : Int), x = V.ref a ∧ vs = [V.int k] ∧ Sq K H a (ns.map V.int) ∧ k ∈ ns ∧ Q (.int (ns.idxOf k : Nat)) H
theorem mt_lindexI : MtR X "list.index" (rIxI X.K SqL) := by
  intro pins s σ H x vs v us Q I rx rv h
  obtain ⟨a, ns, k, rfl, rfl, hs, hk, q⟩ := h
  cases rx
  obtain ⟨u, rfl, ru⟩ := rv.one
  obtain ⟨t, rfl⟩ := ru
  obtain ⟨its, rv, hl, hz⟩ := I.list hs
  exact PySem.SeqAt.list_index_ints hl.isList (intsAre_of rv) (by rw [List.length_map] at hz; exact hz) hk ⟨.int _, H, I.tok _, ⟨_, rfl⟩, q⟩
theorem mt_tindexI : MtR X "tuple.index" (rIxI X.K SqT) := by
  intro pins s σ H x vs v us Q I rx rv h
  obtain ⟨a, ns, k, rfl, rfl, hs, hk, q⟩ := h
  cases rx
  obtain ⟨u, rfl, ru⟩ := rv.one
  obtain ⟨t, rfl⟩ := ru
  obtain ⟨its, rv, hl, hz⟩ := I.tuple hs
  exact PySem.SeqAt.tuple_index_ints (show s.heap.IsTuple a its.toArray from hl) (intsAre_of rv) hk ⟨.int _, H, I.tok _, ⟨_, rfl⟩, q⟩
/-- l[i] behind an augmented store -/
theorem get_listR : PGet X (rIxL X.K) := by
  intro pins s σ H x y v u Q I rx ry h
  obtain ⟨p, xs, i, z, rfl, rfl, hq, he, q⟩ := h
  cases rx
  obtain ⟨t, rfl⟩ := ry
  obtain ⟨its, r, pl, hz⟩ := I.list hq
  obtain ⟨j, h1, h2, h3, h4, h5⟩ := atI_get he
  obtain ⟨w, ew, rw'⟩ := r.get h2
  have hl := r.length
  have hn := line63
  have fin : EP X pins σ Q w s := ⟨z, H, I, rw', q⟩
  by_cases h0 : 0 ≤ i
  · rw [seqIndex_of h0 h5] at h1
    refine wpAny_getItem_list pl.isList h0 (by omega) ?_ fin
    rw [Option.some.inj h1]
    simpa using ew
  · rw [PySem.seqIndex_neg (by omega) h4] at h1
    refine wpAny_getItem_list_neg pl.isList (by omega) (by rw [List.size_toArray]; omega) (by omega) ?_ fin
    rw [List.size_toArray, ← hl, Option.some.inj h1]
    simpa using ew
def tChain3 (r r' r'' : R2) (ta tb tc td : TE) : TE := fun σ H Q => ta σ H fun x H1 => tb σ H1 fun y H2 => r x y H2 fun z H3 => ∃ k, z = .bl k ∧
  (if k = true then tc σ H3 fun w' H4 => r' y w' H4 fun z' H5 => ∃ k', z' = .bl k' ∧ (if k' = true then td σ H5 fun w2 H6 => r'' w' w2 H6 Q else Q (.bl false) H5) else Q (.bl false) H3)
variable {a b c d : Expr} {ta tb tc td : TE} {pos : Pos}
theorem pe_chain3 {op op' op'' : CmpOp} {r r' r'' : R2} (ho : OpR X (compareOp op) r) (ho' : OpR X (compareOp op') r') (ho2 : OpR X (compareOp op'') r'') (ha : PE X a ta) (hb : PE X b tb) (hc : PE X c tc) (hd : PE X d td)
    (hm : lastMarks [op, op', op''] [b, c, d] = false) : PE X (.Compare a [op, op', op''] [b, c, d] pos) (tChain3 r r' r'' ta tb tc td) := by
  refine ⟨fun pins s σ H Q I h => ?_⟩
  refine Compare_chain (thn (ha.run pins s σ H _ I h) fun v s1 ⟨x, H1, I1, r1, q1⟩ => chain_link (thn (hb.run pins s1 σ H1 _ I1 q1) fun u s2 ⟨y, H2, I2, r2, q2⟩ =>
    thn (ho pins s2 σ H2 x y v u _ I2 r1 r2 q2) fun d s3 ⟨z, H3, I3, r3, k, e, q3⟩ => ?_)) hm
  subst e
  cases r3
  refine wpAny_truthy_bool ?_
  cases k with
  | false => exact ite_ff ⟨.bl false, H3, I3, rfl, q3⟩
  | true =>
    refine ite_tt (chain_link (thn (hc.run pins s3 σ H3 _ I3 q3) fun w' s4 ⟨z', H4, I4, r4, q4⟩ => thn (ho' pins s4 σ H4 y z' u w' _ I4 r2 r4 q4) fun d s5 ⟨z2, H5, I5, r5, k, e, q5⟩ => ?_))
    subst e
    cases r5
    refine wpAny_truthy_bool ?_
    cases k with
    | false => exact ite_ff ⟨.bl false, H5, I5, rfl, q5⟩
    | true => exact ite_tt (chain_last (thn (hd.run pins s5 σ H5 _ I5 q5) fun w2 s6 ⟨z3, H6, I6, r6, q6⟩ => ho2 pins s6 σ H6 z' z3 w' w2 Q I6 r4 r6 q6))
theorem pt_chain3 {op op' op'' : CmpOp} {r r' r'' : R2} (ho : OpR X (compareOp op) r) (ho' : OpR X (compareOp op') r') (ho2 : OpR X (compareOp op'') r'') (ha : PE X a ta) (hb : PE X b tb) (hc : PE X c tc) (hd : PE X d td)
    (hm : lastMarks [op, op', op''] [b, c, d] = false) : PT X (.Compare a [op, op', op''] [b, c, d] pos) (tTest (tChain3 r r' r'' ta tb tc td)) := by
  refine ⟨fun pins s σ H Q I h => ?_⟩
  refine isTrue_chain (thn (ha.run pins s σ H _ I h) fun v s1 ⟨x, H1, I1, r1, q1⟩ => test_link (thn (hb.run pins s1 σ H1 _ I1 q1) fun u s2 ⟨y, H2, I2, r2, q2⟩ =>
    thn (ho pins s2 σ H2 x y v u _ I2 r1 r2 q2) fun d s3 ⟨z, H3, I3, r3, k, e, q3⟩ => ?_)) hm
  subst e
  cases r3
  refine wpAny_truthy_bool ?_
  cases k with
  | false =>
    obtain ⟨k', e', q'⟩ := q3
    cases e'
    exact ite_ff ⟨H3, I3, q'⟩
  | true =>
    refine ite_tt (test_link (thn (hc.run pins s3 σ H3 _ I3 q3) fun w' s4 ⟨z', H4, I4, r4, q4⟩ => thn (ho' pins s4 σ H4 y z' u w' _ I4 r2 r4 q4) fun d' s5 ⟨z2, H5, I5, r5, k2, e2, q5⟩ => ?_))
    subst e2
    cases r5
    refine wpAny_truthy_bool ?_
    cases k2 with
    | false =>
      obtain ⟨k', e', q'⟩ := q5
      cases e'
      exact ite_ff ⟨H5, I5, q'⟩
    | true =>
      refine ite_tt (test_last (thn (hd.run pins s5 σ H5 _ I5 q5) fun w2 s6 ⟨z3, H6, I6, r6, q6⟩ => thn (ho2 pins s6 σ H6 z' z3 w' w2 _ I6 r4 r6 q6) fun d2 s7 ⟨z4, H7, I7, r7, k3, e3, q7⟩ => ?_))
      subst e3
      cases r7
      exact wpAny_truthy_bool ⟨H7, I7, q7⟩
end
end L2
end
section
set_option linter.all false
set_option maxRecDepth 100000
set_option Elab.async false
/-! DI5: comparisons, places, cuts, built-in functions. -/
namespace DI
open PySem PySem.Spec PyProof.Rows L2
section
variable {X : Cx} {C : Addr → Prop} {ad : Nat → Addr} {F H : Hp} {σ : L2.St} {ρ : Ro} {v u : V}
theorem eqD_some {x y : D} {b : Bool} (h : eqD x y = some b) : SeqAt.shaped (toPy x) = true ∧ SeqAt.shaped (toPy y) = true ∧ PyData.eqv (toPy x) (toPy y) = b := by
  unfold eqD at h
  split at h
  · rename_i hc
    rw [Bool.and_eq_true] at hc
    cases h
    exact ⟨hc.1, hc.2, rfl⟩
  · cases h
theorem data_ok {o : CmpOp} {x y : D} {b : Bool} {Q : VK} (le : Le F H) (hx : RepB X.K F H x v) (hy : RepB X.K F H y u)
    (k : ∀ (A : Around) (s : Shared) (vv uu : Value) (as bs : List Addr) (E R : Value → Shared → Prop), A.units = X.A.units → Reads s.heap vv (toPy x) as → Reads s.heap uu (toPy y) bs → R (.bool b) s → wpAny (model X.prog X.w) A (compareOp o vv uu) R E s) (q : Q (.bl b) H) : rop X (compareOp o) v u H Q := by
  intro pins s σ vv uu I rx ry
  obtain ⟨as, r1⟩ := Dp.reads I _ _ _ (Rep.dp _ _ (hx.rep le)) rx
  obtain ⟨bs, r2⟩ := Dp.reads I _ _ _ (Rep.dp _ _ (hy.rep le)) ry
  exact k X.A s vv uu as bs X.xe (EP X pins σ Q) rfl r1 r2 ⟨.bl b, H, I, rfl, q⟩
theorem cmpOk_out {x y : D} (h : cmpOk x y = true) : PySem.W.alike (toPy x) (toPy y) = true ∧ (toPy x).depth ≤ 60 := by
  unfold cmpOk at h
  rw [Bool.and_eq_true, decide_eq_true_eq] at h
  exact h
theorem cmp_ok {o : Cp} {x y : D} {b : Bool} {Q : VK} (hu : X.A.units + 64 < cLine) (le : Le F H) (hx : RepB X.K F H x v) (hy : RepB X.K F H y u) (h : cmpD o x y = some b) (q : Q (.bl b) H) : rop X (compareOp (cpOf o)) v u H Q := by
  unfold cmpD at h
  split at h
  · obtain ⟨s1, s2, e⟩ := eqD_some h
    subst e
    exact rop.of (op_eqD hu) ⟨_, _, Rep.dp _ _ (hx.rep le), Rep.dp _ _ (hy.rep le), s1, s2, q⟩
  · cases e : eqD x y with
    | none => rw [e] at h; cases h
    | some c =>
      rw [e] at h; cases h
      obtain ⟨s1, s2, e⟩ := eqD_some e
      subst e
      exact rop.of (op_neD hu) ⟨_, _, Rep.dp _ _ (hx.rep le), Rep.dp _ _ (hy.rep le), s1, s2, q⟩
  · cases h; cases hx.int; cases hy.int; exact rop.of op_lt ⟨_, _, rfl, rfl, q⟩
  · cases h; cases hx.int; cases hy.int; exact rop.of op_le ⟨_, _, rfl, rfl, q⟩
  · cases h; cases hx.int; cases hy.int; exact rop.of op_gt ⟨_, _, rfl, rfl, q⟩
  · cases h; cases hx.int; cases hy.int; exact rop.of op_ge ⟨_, _, rfl, rfl, q⟩
  · split at h
    · rename_i hc
      obtain ⟨ha, hd⟩ := cmpOk_out hc
      cases h
      exact data_ok le hx hy (fun A s vv uu as bs E R eu r1 r2 hr => PySem.W.lt_data r1 r2 ha (by unfold toPy; exact fun z => nomatch z) (Nat.lt_of_le_of_lt (Nat.add_le_add_left (Nat.le_trans (Nat.min_le_left _ _) hd) _) (by rw [eu]; omega)) hr) q
    · cases h
  · split at h
    · rename_i hc
      obtain ⟨ha, hd⟩ := cmpOk_out hc
      cases h
      exact data_ok le hx hy (fun A s vv uu as bs E R eu r1 r2 hr => PySem.W.gt_data r1 r2 ha (by unfold toPy; exact fun z => nomatch z) (Nat.lt_of_le_of_lt (Nat.add_le_add_left (Nat.le_trans (Nat.min_le_left _ _) hd) _) (by rw [eu]; omega)) hr) q
    · cases h
  · split at h
    · rename_i hc
      obtain ⟨ha, hd⟩ := cmpOk_out hc
      cases h
      exact data_ok le hx hy (fun A s vv uu as bs E R eu r1 r2 hr => PySem.W.le_data r1 r2 ha (by unfold toPy; exact fun z => nomatch z) (Nat.lt_of_le_of_lt (Nat.add_le_add_left (Nat.le_trans (Nat.min_le_left _ _) hd) _) (by rw [eu]; omega)) hr) q
    · cases h
  · split at h
    · rename_i hc
      obtain ⟨ha, hd⟩ := cmpOk_out hc
      cases h
      exact data_ok le hx hy (fun A s vv uu as bs E R eu r1 r2 hr => PySem.W.ge_data r1 r2 ha (by unfold toPy; exact fun z => nomatch z) (Nat.lt_of_le_of_lt (Nat.add_le_add_left (Nat.le_trans (Nat.min_le_left _ _) hd) _) (by rw [eu]; omega)) hr) q
    · cases h
  · cases h
def vD : D → V | .bl b => .bl b | .int i => .int i | .str x => .str x | _ => .non
theorem flat_v {d : D} {v : V} (f : flatD d = true) (h : Rep X.K F d v) : v = vD d ∧ flatV (vD d) = true := by
  cases d with
  | non => exact ⟨Rep.non.mp h, rfl⟩
  | bl b => exact ⟨Rep.bl.mp h, rfl⟩
  | int b => exact ⟨Rep.int.mp h, rfl⟩
  | str b => exact ⟨Rep.str.mp h, rfl⟩
  | tup _ => cases f
  | lst _ => cases f
theorem flat_eqv {d e : D} (f : flatD d = true) (g : flatD e = true) : eqV (vD d) (vD e) = PyData.eqv (toPy d) (toPy e) := by
  cases d <;> cases e <;> first | (simp [flatD] at f; done) | (simp [flatD] at g; done) | (simp [vD, toPy, eqV, PyData.eqv]; done) | (simp [vD, toPy, eqV, PyData.eqv] <;> rfl)
theorem flats_v : ∀ {ds : List D} {vs : List V}, ds.all flatD = true → Reps X.K F ds vs → vs = ds.map vD ∧ vs.all flatV = true
  | [], vs, f, h => by unfold Reps at h; subst h; exact ⟨rfl, rfl⟩
  | d :: ds, vs, f, h => by
    unfold Reps at h
    obtain ⟨w, r, rfl, h1, h2⟩ := h
    rw [List.all_cons, Bool.and_eq_true] at f
    obtain ⟨e1, e2⟩ := flat_v f.1 h1
    obtain ⟨e3, e4⟩ := flats_v f.2 h2
    refine ⟨by rw [List.map_cons, ← e1, ← e3], ?_⟩
    rw [List.all_cons, Bool.and_eq_true]
    exact ⟨by rw [e1]; exact e2, e4⟩
theorem any_map_py {d : D} : ∀ ds : List D, (toPys ds).any (fun z => PyData.eqv z (toPy d)) = ds.any fun y => PyData.eqv (toPy y) (toPy d)
  | [] => by simp [toPys]
  | x :: r => by simp [toPys, any_map_py r]
theorem any_flat {x : D} (f : flatD x = true) : ∀ {ys : List D}, ys.all flatD = true → inV (vD x) (ys.map vD) = ys.any fun y => PyData.eqv (toPy y) (toPy x)
  | [], _ => rfl
  | y :: r, g => by
    rw [List.all_cons, Bool.and_eq_true] at g
    have ih := any_flat (ys := r) f g.2
    unfold inV at ih ⊢
    rw [List.map_cons, List.any_cons, List.any_cons, ih, flat_eqv g.1 f]
theorem isin_ok {x y : D} {b : Bool} {Q : VK} (neg : Bool) (hu : X.A.units + 65 < cLine) (le : Le F H) (hx : RepB X.K F H x v) (hy : RepB X.K F H y u) (h : isinD x y = some b) (q : Q (.bl (if neg = true then !b else b)) H) :
    rop X (compareOp (if neg = true then .NotIn else .In)) v u H Q := by
  unfold isinD at h
  split at h
  · rename_i ys
    split at h
    · rename_i hc
      rw [Bool.and_eq_true] at hc
      cases h
      obtain ⟨a, vs, rfl, h1, h2⟩ := hy.tup
      have hx' := hx.rep le
      obtain ⟨e1, e2⟩ := flat_v hc.1 hx'
      obtain ⟨e3, e4⟩ := flats_v hc.2 h2
      have e5 := any_flat hc.1 hc.2
      cases neg with
      | false => exact rop.of op_in_seq ⟨a, vs, rfl, .inr (SqT.le le h1), by rw [e1]; exact e2, e4, by rw [e1, e3, e5]; exact q⟩
      | true => exact rop.of op_notIn_seq ⟨a, vs, rfl, .inr (SqT.le le h1), by rw [e1]; exact e2, e4, by rw [e1, e3, e5]; exact q⟩
    · split at h
      · rename_i hc
        rw [Bool.and_eq_true] at hc
        cases h
        have dy : Dp X.K H u (.tuple (toPys ys)) := by
          have := Rep.dp _ _ (hy.rep le)
          unfold toPy at this
          exact this
        intro pins s σ vv uu I rx ry
        obtain ⟨as, r1⟩ := Dp.reads I _ _ _ (Rep.dp _ _ (hx.rep le)) rx
        obtain ⟨bs, r2⟩ := Dp.reads I _ _ _ dy ry
        cases neg with
        | false => exact SeqAt.in_tuple_reads r2 r1 (SeqAt.canLay_of_shaped hc.2) (SeqAt.canLay_of_shaped hc.1) (room_in_shaped hc.1 hu) ⟨.bl _, H, I, rfl, by rw [any_map_py]; exact q⟩
        | true => exact SeqAt.notIn_tuple_reads r2 r1 (SeqAt.canLay_of_shaped hc.2) (SeqAt.canLay_of_shaped hc.1) (room_in_shaped hc.1 hu) ⟨.bl _, H, I, rfl, by rw [any_map_py]; exact q⟩
      · cases h
  · rename_i ys
    split at h
    · rename_i hc
      rw [Bool.and_eq_true] at hc
      cases h
      have dy : Dp X.K H u (.list (toPys ys)) := by
        have := Rep.dp _ _ (hy.rep le)
        unfold toPy at this
        exact this
      cases neg with
      | false => exact rop.of (op_inD hu) ⟨_, _, Rep.dp _ _ (hx.rep le), dy, hc.1, hc.2, by rw [any_map_py]; exact q⟩
      | true => exact rop.of (op_notInD hu) ⟨_, _, Rep.dp _ _ (hx.rep le), dy, hc.1, hc.2, by rw [any_map_py]; exact q⟩
    · cases h
  · cases h

/-! ### x[i] -/
def rix (X : Cx) : R2 := fun v u H Q => ∀ (value slice : Expr) pins s σ vv uu, Inv X pins σ H s → RelV v vv → RelV u uu → subscripted slice false vv uu = operate [vv, uu] (getItem vv uu) → wpAny (model X.prog X.w) X.A (subscriptTail value slice vv uu) (EP X pins σ Q) X.xe s
theorem rix_ok {X : Cx} : IxR X (rix X) := fun value slice pins s σ H x y v u Q I rx ry h hs => h value slice pins s σ v u I rx ry hs
theorem rix.of {r : R2} (h : IxR X r) {Q : VK} (q : r v u H Q) : rix X v u H Q := fun value slice pins s σ vv uu I rx ry hs => h value slice pins s σ H v u vv uu Q I rx ry q hs
theorem atI_reps {K : PySem.W.Frag} {ds : List D} {vs : List V} {i : Int} {d : D} (r : Reps K F ds vs) (h : atI ds i = some d) : ∃ w, atI vs i = some w ∧ Rep K F d w := by
  unfold atI at h ⊢
  rw [r.len]
  cases e : ixN ds.length i with
  | none => rw [e] at h; cases h
  | some j =>
    rw [e] at h
    exact r.get h
theorem idx_ok {x y d : D} {Q : VK} (le : Le F H) (hx : RepB X.K F H x v) (hy : RepB X.K F H y u) (h : idxD x y = some d) (q : ∀ w, Rep X.K F d w → Q w H) : rix X v u H Q := by
  unfold idxD at h
  split at h
  · obtain ⟨a, vs, rfl, h1, h2⟩ := hx.tup
    cases hy.int
    obtain ⟨w, e, r⟩ := atI_reps h2 h
    exact rix.of ix_tup ⟨a, vs, _, w, rfl, rfl, SqT.le le h1, e, q w r⟩
  · obtain ⟨a, vs, rfl, h1, h2⟩ := hx
    cases hy.int
    obtain ⟨w, e, r⟩ := atI_reps h2 h
    exact rix.of ix_list ⟨a, vs, _, w, rfl, rfl, .inl h1, e, q w r⟩
  · cases h

/-! ### x[lo:hi] -/
def rsl (X : Cx) : V → Option Int → Option Int → Hp → VK → Prop := fun x lo hi H Q => ∀ (pins : List (Addr × Obj)) (s : Shared) (σ : L2.St) (v vl vu : Value) (sl : Addr), Inv X pins σ H s → RelV x v → s.heap.IsSliceOf sl vl vu .none → IsPart vl lo → IsPart vu hi →
    ∃ T id, typeLookup (.type T) "__getitem__" = pure (some (.builtin id)) ∧ s.TypeIs v T ∧ wpAny (model X.prog X.w) X.A (getItem v (.ref sl)) (EP X pins σ Q) X.xe s
theorem rsl_ok : SlR X (rsl X) := fun pins s σ H x v vl vu lo hi sl Q I rx hs pl pu h => h pins s σ v vl vu sl I rx hs pl pu
theorem rsl.of {r : V → Option Int → Option Int → Hp → VK → Prop} (h : SlR X r) {lo hi : Option Int} {Q : VK} (q : r v lo hi H Q) : rsl X v lo hi H Q := fun pins s σ vv vl vu sl I rx hs pl pu => h pins s σ H v vv vl vu lo hi sl Q I rx hs pl pu q
theorem cut_reps {K : PySem.W.Frag} {ds : List D} {vs : List V} {lo hi : Option Int} (r : Reps K F ds vs) : Reps K F (cutD ds lo hi) (cutV vs lo hi) := by
  unfold cutD cutV
  rw [r.len]
  exact (r.drop _).take _
theorem sl_ok {x : D} {lo hi : Option Int} {r : Res} {Q : VK} (e : EnvOk X.K C ad F H σ ρ) (hx : RepB X.K F H x v) (h : slD x lo hi = some r) (q : Fin X C ad F H σ ρ r Q) : rsl X v lo hi H Q := by
  unfold slD at h
  split at h
  · rename_i xs
    cases h
    obtain ⟨a, vs, rfl, h1, h2⟩ := hx.tup
    refine rsl.of sl_tupA ⟨a, vs, rfl, SqT.le e.le h1, fun hw => ?_, fun hw p n => ?_⟩
    · refine q _ F H e.stp e (Rep.tup.mpr ⟨a, vs, rfl, h1, ?_⟩)
      have hl := h2.len
      have e1 : cutD xs lo hi = xs := by
        unfold cutD
        rw [← hl, hw.1, hw.2]
        simp [hl]
      rw [e1]; exact h2
    · exact q _ _ _ (e.stpF n) (e.frozen n) (Rep.tup.mpr ⟨p, _, rfl, SqT.of upd_same, Reps.le (le_upd0 (e.F_none n)) _ _ (cut_reps h2)⟩)
  · rename_i xs
    cases h
    obtain ⟨a, vs, rfl, h1, h2⟩ := hx
    exact rsl.of sl_list ⟨a, vs, rfl, .inl h1, fun p n => q _ _ _ (e.stpN n) (e.fresh n) ⟨p, _, rfl, n, e.notC n, e.F_none n, upd_same, cut_reps h2⟩⟩
  · split at h
    · rename_i hc
      cases h
      cases hx.str
      exact rsl.of sl_str ⟨_, rfl, Nat.le_trans hc lim_line, q _ F H e.stp e (show Rep X.K F _ _ from Rep.str.mpr rfl)⟩
    · cases h
  · cases h

/-! ### built-in functions of one argument -/
def rcl (X : Cx) (f : Value) : List V → Hp → VK → Prop := fun xs H Q => ∀ pins s σ us, Inv X pins σ H s → Vals xs us → wpAny (model X.prog X.w) X.A (call f us) (EP X pins σ Q) X.xe s
theorem rcl_ok {f : Value} : CallR X f (rcl X f) := fun pins s σ H xs us Q I r h => h pins s σ us I r
theorem rcl.of {f : Value} {r : List V → Hp → VK → Prop} (h : CallR X f r) {xs : List V} {Q : VK} (q : r xs H Q) : rcl X f xs H Q := fun pins s σ us I rv => h pins s σ H xs us Q I rv q
def blTy : Bl → Option String | .int => some "int" | .list => some "list" | .tuple => some "tuple" | .rev => some "reversed" | _ => none
def blId : Bl → String | .len => "len" | .abs => "abs" | .min => "min" | .max => "max" | .sorted => "sorted" | .repr => "repr" | .all => "all" | .any => "any" | .sum => "sum" | .int => "int" | .list => "list" | .tuple => "tuple" | .rev => "reversed"
def blVal (b : Bl) : Value := match blTy b with | some t => .type t | none => .builtin (blId b)
theorem ints_v : ∀ {ds : List D} {ns : List Int} {vs : List V}, intsD ds = some ns → Reps X.K F ds vs → vs = ns.map V.int
  | [], ns, vs, h, r => by unfold intsD at h; cases h; unfold Reps at r; exact r
  | d :: ds, ns, vs, h, r => by
    cases d with
    | int i =>
      unfold intsD at h
      cases e : intsD ds with
      | none => rw [e] at h; cases h
      | some l =>
        rw [e] at h; cases h
        unfold Reps at r
        obtain ⟨w, q, rfl, a, b⟩ := r
        rw [Rep.int.mp a, List.map_cons, ints_v e b]
    | _ => cases h
theorem bools_v : ∀ {ds : List D} {ns : List Bool} {vs : List V}, boolsD ds = some ns → Reps X.K F ds vs → vs = ns.map V.bl
  | [], ns, vs, h, r => by unfold boolsD at h; cases h; unfold Reps at r; exact r
  | d :: ds, ns, vs, h, r => by
    cases d with
    | bl i =>
      unfold boolsD at h
      cases e : boolsD ds with
      | none => rw [e] at h; cases h
      | some l =>
        rw [e] at h; cases h
        unfold Reps at r
        obtain ⟨w, q, rfl, a, b⟩ := r
        rw [Rep.bl.mp a, List.map_cons, bools_v e b]
    | _ => cases h
theorem foldmin : ∀ (l : List Int) (a : Int), (l.foldl min a = a ∨ l.foldl min a ∈ l) ∧ l.foldl min a ≤ a ∧ ∀ y ∈ l, l.foldl min a ≤ y
  | [], a => ⟨.inl rfl, Int.le_refl a, by simp⟩
  | x :: r, a => by
    obtain ⟨h1, h2, h3⟩ := foldmin r (min a x)
    rw [List.foldl_cons]
    refine ⟨?_, by omega, fun y hy => ?_⟩
    · rcases h1 with h1 | h1
      · by_cases c : a ≤ x
        · exact .inl (h1.trans (by omega))
        · exact .inr (by rw [h1]; exact List.mem_cons.mpr (.inl (by omega)))
      · exact .inr (List.mem_cons_of_mem _ h1)
    · rcases List.mem_cons.mp hy with e | hy
      · subst e; omega
      · exact h3 y hy
theorem foldmax : ∀ (l : List Int) (a : Int), (l.foldl max a = a ∨ l.foldl max a ∈ l) ∧ a ≤ l.foldl max a ∧ ∀ y ∈ l, y ≤ l.foldl max a
  | [], a => ⟨.inl rfl, Int.le_refl a, by simp⟩
  | x :: r, a => by
    obtain ⟨h1, h2, h3⟩ := foldmax r (max a x)
    rw [List.foldl_cons]
    refine ⟨?_, by omega, fun y hy => ?_⟩
    · rcases h1 with h1 | h1
      · by_cases c : x ≤ a
        · exact .inl (h1.trans (by omega))
        · exact .inr (by rw [h1]; exact List.mem_cons.mpr (.inl (by omega)))
      · exact .inr (List.mem_cons_of_mem _ h1)
    · rcases List.mem_cons.mp hy with e | hy
      · subst e; omega
      · exact h3 y hy
theorem min_uniq {l : List Int} {m k : Int} (h : minI l = some k) (h1 : m ∈ l) (h2 : ∀ y ∈ l, m ≤ y) : m = k := by
  cases l with
  | nil => cases h
  | cons x r =>
    cases h
    obtain ⟨a, b, c⟩ := foldmin r x
    have e1 : m ≤ r.foldl min x := by
      rcases a with a | a
      · rw [a]; exact h2 x List.mem_cons_self
      · exact h2 _ (List.mem_cons_of_mem _ a)
    have e2 : r.foldl min x ≤ m := by
      rcases List.mem_cons.mp h1 with z | z
      · subst z; exact b
      · exact c m z
    omega
theorem max_uniq {l : List Int} {m k : Int} (h : maxI l = some k) (h1 : m ∈ l) (h2 : ∀ y ∈ l, y ≤ m) : m = k := by
  cases l with
  | nil => cases h
  | cons x r =>
    cases h
    obtain ⟨a, b, c⟩ := foldmax r x
    have e1 : r.foldl max x ≤ m := by
      rcases a with a | a
      · rw [a]; exact h2 x List.mem_cons_self
      · exact h2 _ (List.mem_cons_of_mem _ a)
    have e2 : m ≤ r.foldl max x := by
      rcases List.mem_cons.mp h1 with z | z
      · subst z; exact b
      · exact c m z
    omega
/-- what is left to others: sorted, repr -/
def blHard : Bl → Bool | .sorted => true | .repr => true | _ => false
theorem blt_ok {b : Bl} {x : D} {r : Res} {Q : VK} (hu : X.A.units + 8 < cLine) (hc : X.calm = true) (hb : blHard b = false) (e : EnvOk X.K C ad F H σ ρ) (hx : RepB X.K F H x v) (h : bltR b x = some r) (q : Fin X C ad F H σ ρ r Q) : rcl X (blVal b) [v] H Q := by
  have now : ∀ {d : D} {w : V}, r = .dat d → Rep X.K F d w → Q w H := fun {d w} er hr => q w F H e.stp e (by subst er; exact hr)
  unfold bltR at h
  split at h
  · rename_i d
    cases hl : lenD x with
    | none => rw [hl] at h; cases h
    | some n =>
      rw [hl] at h; cases h
      unfold lenD at hl
      split at hl
      · cases hl
        obtain ⟨a, vs, rfl, h1, h2⟩ := hx.tup
        exact rcl.of call_len ⟨_, vs.length, rfl, .inr ⟨vs, SqT.le e.le h1, rfl⟩, now rfl (by rw [h2.len]; exact Rep.int.mpr rfl)⟩
      · cases hl
        obtain ⟨a, vs, rfl, h1, h2⟩ := hx
        exact rcl.of call_len ⟨_, vs.length, rfl, .inl ⟨vs, .inl h1, rfl⟩, now rfl (by rw [h2.len]; exact Rep.int.mpr rfl)⟩
      · split at hl
        · rename_i y hc
          cases hl; cases hx.str
          exact rcl.of call_len ⟨_, y.length, rfl, ⟨Nat.le_trans hc lim_line, rfl⟩, now rfl (Rep.int.mpr rfl)⟩
        · cases hl
      · cases hl
  · cases h; cases hx.int; exact rcl.of call_int1 (.inl ⟨_, rfl, now rfl (Rep.int.mpr rfl)⟩)
  · cases h; cases hx.int; exact rcl.of call_abs ⟨_, rfl, now rfl (Rep.int.mpr rfl)⟩
  · cases h
    obtain ⟨a, vs, rfl, h1, h2⟩ := hx
    exact rcl.of call_list_of ⟨a, vs, rfl, .inl (.inl h1), fun p n => q _ _ _ (e.stpN n) (e.fresh n) ⟨p, vs, rfl, n, e.notC n, e.F_none n, upd_same, h2⟩⟩
  · cases h
    obtain ⟨a, vs, rfl, h1, h2⟩ := hx.tup
    exact rcl.of call_list_of ⟨a, vs, rfl, .inr (SqT.le e.le h1), fun p n => q _ _ _ (e.stpN n) (e.fresh n) ⟨p, vs, rfl, n, e.notC n, e.F_none n, upd_same, h2⟩⟩
  · cases h
    obtain ⟨a, vs, rfl, h1, h2⟩ := hx
    exact rcl.of call_tuple_of ⟨a, vs, rfl, .inl ⟨.inl h1, fun p n => q _ _ _ (e.stpF n) (e.frozen n) (Rep.tup.mpr ⟨p, vs, rfl, SqT.of upd_same, Reps.le (le_upd0 (e.F_none n)) _ _ h2⟩)⟩⟩
  · cases h
    obtain ⟨a, vs, rfl, h1, h2⟩ := hx.tup
    exact rcl.of call_tuple_of ⟨a, vs, rfl, .inr ⟨SqT.le e.le h1, now rfl (Rep.tup.mpr ⟨a, vs, rfl, h1, h2⟩)⟩⟩
  · rename_i xs
    obtain ⟨a, vs, rfl, h1, h2⟩ := hx
    cases e1 : intsD xs with
    | none => rw [e1] at h; cases h
    | some l =>
      rw [e1, Option.bind_some] at h
      cases e2 : minI l with
      | none => rw [e2] at h; cases h
      | some k =>
        rw [e2] at h; cases h
        have ev := ints_v e1 h2
        subst ev
        have hp : 0 < l.length := by cases l with | nil => cases e2 | cons _ _ => simp
        exact rcl.of (cr_min hc) ⟨a, l, rfl, .inl h1, hp, fun m m1 m2 => now rfl (Rep.int.mpr (by rw [min_uniq e2 m1 m2]))⟩
  · rename_i xs
    obtain ⟨a, vs, rfl, h1, h2⟩ := hx
    cases e1 : intsD xs with
    | none => rw [e1] at h; cases h
    | some l =>
      rw [e1, Option.bind_some] at h
      cases e2 : maxI l with
      | none => rw [e2] at h; cases h
      | some k =>
        rw [e2] at h; cases h
        have ev := ints_v e1 h2
        subst ev
        have hp : 0 < l.length := by cases l with | nil => cases e2 | cons _ _ => simp
        exact rcl.of (cr_max hc) ⟨a, l, rfl, .inl h1, hp, fun m m1 m2 => now rfl (Rep.int.mpr (by rw [max_uniq e2 m1 m2]))⟩
  · rename_i xs
    obtain ⟨a, vs, rfl, h1, h2⟩ := hx.tup
    cases e1 : intsD xs with
    | none => rw [e1] at h; cases h
    | some l =>
      rw [e1, Option.bind_some] at h
      cases l with
      | nil => cases h
      | cons n r =>
        cases h
        have ev := ints_v e1 h2
        subst ev
        exact rcl.of (cr_maxT hc hu) ⟨a, n, r, rfl, SqT.le e.le h1, now rfl (Rep.int.mpr rfl)⟩
  · rename_i xs
    obtain ⟨a, vs, rfl, h1, h2⟩ := hx
    cases e1 : intsD xs with
    | none => rw [e1] at h; cases h
    | some l =>
      rw [e1] at h; cases h
      have ev := ints_v e1 h2
      subst ev
      exact rcl.of (cr_sum hc) ⟨a, l, rfl, .inl h1, now rfl (Rep.int.mpr rfl)⟩
  · rename_i xs
    obtain ⟨a, vs, rfl, h1, h2⟩ := hx.tup
    cases e1 : intsD xs with
    | none => rw [e1] at h; cases h
    | some l =>
      rw [e1] at h; cases h
      have ev := ints_v e1 h2
      subst ev
      exact rcl.of (cr_sumT hc) ⟨a, l, rfl, SqT.le e.le h1, now rfl (Rep.int.mpr rfl)⟩
  · rename_i xs
    obtain ⟨a, vs, rfl, h1, h2⟩ := hx
    cases e1 : boolsD xs with
    | none => rw [e1] at h; cases h
    | some l =>
      rw [e1] at h; cases h
      have ev := bools_v e1 h2
      subst ev
      exact rcl.of (cr_all hc) ⟨a, l, rfl, .inl h1, now rfl (Rep.bl.mpr rfl)⟩
  · rename_i xs
    obtain ⟨a, vs, rfl, h1, h2⟩ := hx
    cases e1 : boolsD xs with
    | none => rw [e1] at h; cases h
    | some l =>
      rw [e1] at h; cases h
      have ev := bools_v e1 h2
      subst ev
      exact rcl.of (cr_any hc) ⟨a, l, rfl, .inl h1, now rfl (Rep.bl.mpr rfl)⟩
  · cases hb
  · cases hb
  · cases h
/-! ### isinstance -/
def tyV : Ty → String | .int => "int" | .bool => "bool" | .str => "str" | .tuple => "tuple" | .list => "list"
theorem isi_ok {t : Ty} {x : D} {Q : VK} (le : Le F H) (hx : RepB X.K F H x v) (q : Q (.bl (tyIs t x)) H) : rcl X (.builtin "isinstance") [v, .ty (tyV t)] H Q := by
  have k : ∀ {a : String} {b : Bool}, kitB a (tyV t) = some b → TyX X.K H v (.type a) → b = tyIs t x → rcl X (.builtin "isinstance") [v, .ty (tyV t)] H Q := fun {a b} hk ty e =>
    rcl.of call_isi ⟨v, _, _, _, b, rfl, .ty _, ty, kit_ty hk, by rw [e]; exact q⟩
  cases x with
  | non => cases Rep.non.mp (show Rep X.K F _ _ from hx); cases t <;> exact k (a := "NoneType") (b := false) (by decide +kernel) (.base .non) rfl
  | bl b => cases hx.bl; cases t <;> first | exact k (a := "bool") (b := true) (by decide +kernel) (.base (.bl b)) rfl | exact k (a := "bool") (b := false) (by decide +kernel) (.base (.bl b)) rfl
  | int b => cases hx.int; cases t <;> first | exact k (a := "int") (b := true) (by decide +kernel) (.base (.int b)) rfl | exact k (a := "int") (b := false) (by decide +kernel) (.base (.int b)) rfl
  | str b => cases hx.str; cases t <;> first | exact k (a := "str") (b := true) (by decide +kernel) (.base (.str b)) rfl | exact k (a := "str") (b := false) (by decide +kernel) (.base (.str b)) rfl
  | tup ds =>
    obtain ⟨a, vs, rfl, h1, h2⟩ := hx.tup
    have ty : TyX X.K H (.ref a) (.type "tuple") := by
      rcases h1 with (h1 | ⟨o, h1⟩) | ⟨o, its, n, h3, h4, _⟩
      · exact .base (.tup (le _ _ h1))
      · exact .fTuple (le _ _ h1)
      · exact .kTuple h3 h4
    cases t <;> first | exact k (a := "tuple") (b := true) (by decide +kernel) ty rfl | exact k (a := "tuple") (b := false) (by decide +kernel) ty rfl
  | lst ds =>
    obtain ⟨a, vs, rfl, h1, h2⟩ := hx
    have ty : TyX X.K H (.ref a) (.type "list") := by
      rcases h1 with h1 | ⟨o, h1⟩
      · exact .base (.lst h1)
      · exact .base (.frz h1)
    cases t <;> first | exact k (a := "list") (b := true) (by decide +kernel) ty rfl | exact k (a := "list") (b := false) (by decide +kernel) ty rfl
end
end DI
end
section
set_option linter.all false
set_option maxRecDepth 100000
set_option Elab.async false
/-! DI5s: sorted. -/
namespace DI
open PySem PySem.Spec PyProof.Rows L2
section
variable {prog : Program} {w : World} {A : Around} {s : Shared}
theorem sorts_one {v : Value} {d : PyData} {as : List Addr} (r : Reads s.heap v d as) (hal : PySem.W.alike d d = true) (hn : d ≠ .none) (hu : A.units + d.depth < cLine) : PySem.W.SortsAt prog w A s (PySem.W.dataKind s.heap [d]) [v] := by
  have hA : PySem.W.AllAlike [d] := fun x hx y hy => by
    rw [List.mem_singleton] at hx hy
    subst hx hy; exact hal
  refine ⟨fun u hu' => ?_, general', ?_, fun h2 => absurd h2 (by simp)⟩
  · rw [List.mem_singleton] at hu'
    subst hu'
    exact ⟨_, PySem.W.dataKind_some hA (List.mem_singleton.mpr rfl) r⟩
  · intro E x y a b Q ha hb hq
    obtain ⟨d1, as1, hd1, ra, rfl⟩ := PySem.W.dataKind_inv ha
    obtain ⟨d2, as2, hd2, rb, rfl⟩ := PySem.W.dataKind_inv hb
    rw [List.mem_singleton] at hd1 hd2
    subst hd1 hd2
    show wpAny (model prog w) A (oneLt' false x y) Q E s
    exact PySem.W.oneLt_alike (f := false) (fun z => nomatch z) ra rb hal hn (by rw [Nat.min_self]; exact hu) hq
end
theorem toPys_map : ∀ xs : List D, toPys xs = xs.map toPy
  | [] => by simp [toPys]
  | x :: r => by simp [toPys, toPys_map r]
section
variable {X : Cx} {C : Addr → Prop} {ad : Nat → Addr} {F H : Hp} {σ : L2.St} {ρ : Ro} {v : V}
/-- a value stands for d -/
def Std (K : PySem.W.Frag) (F : Hp) (u : Value) (d : D) : Prop := ∃ x : V, RelV x u ∧ Rep K F d x
theorem each_std {K : PySem.W.Frag} : ∀ {xs : List D} {vs : List V} {us : List Value}, Reps K F xs vs → Vals vs us → PySem.W.EachIs (Std K F) us xs
  | [], vs, us, h, r => by unfold Reps at h; subst h; cases r; exact .nil
  | d :: xs, vs, us, h, r => by
    unfold Reps at h
    obtain ⟨v, q, rfl, h1, h2⟩ := h
    cases r with
    | cons r1 r2 => exact .cons ⟨v, r1, h1⟩ (each_std h2 r2)
theorem std_each {K : PySem.W.Frag} : ∀ {us : List Value} {xs : List D}, PySem.W.EachIs (Std K F) us xs → ∃ vs, Reps K F xs vs ∧ Vals vs us
  | _, _, .nil => ⟨[], Reps.nil, .nil⟩
  | _, _, .cons ⟨x, h1, h2⟩ t => by
    obtain ⟨vs, h3, h4⟩ := std_each t
    exact ⟨x :: vs, Reps.cons h2 h3, .cons h1 h4⟩
theorem each_reads {pins : List (Addr × Obj)} {s : Shared} (I : Inv X pins σ H s) (le : Le F H) : ∀ {us : List Value} {xs : List D}, PySem.W.EachIs (Std X.K F) us xs → PySem.W.EachIs (fun u d => ∃ as, Reads s.heap u (toPy d) as) us xs
  | _, _, .nil => .nil
  | _, _, .cons ⟨x, h1, h2⟩ t => .cons (Dp.reads I _ _ _ (Rep.dp _ _ (Rep.le le _ _ h2)) h1) (each_reads I le t)
theorem sorted_ok {x : D} {r : Res} {Q : VK} (hu : X.A.units + 80 < cLine) (e : EnvOk X.K C ad F H σ ρ) (hx : RepB X.K F H x v) (h : bltR .sorted x = some r) (q : Fin X C ad F H σ ρ r Q) : rcl X (.builtin "sorted") [v] H Q := by
  cases x with
  | lst xs =>
    have h : (if sortOk xs = true then some (Res.new (sortD xs)) else none) = some r := h
    split at h
    · rename_i hok
      cases h
      obtain ⟨a, vs, rfl, h1, h2⟩ := hx
      unfold sortOk at hok
      simp only [Bool.and_eq_true, decide_eq_true_eq] at hok
      obtain ⟨⟨⟨k1, k2⟩, k3⟩, k4⟩ := hok
      intro pins s σ' us I rv
      obtain ⟨u, rfl, ru⟩ := vals1 rv
      obtain rfl : u = Value.ref a := ru
      obtain ⟨its, r2, pl, hz⟩ := I.list (.inl h1)
      have ea := each_std h2 r2
      have er := each_reads I e.le ea
      have hal : PySem.W.AllAlike (xs.map toPy) := fun d hd d' hd' => by
        obtain ⟨y, hy, rfl⟩ := List.mem_map.mp hd
        obtain ⟨y', hy', rfl⟩ := List.mem_map.mp hd'
        exact List.all_eq_true.mp (List.all_eq_true.mp k1 y hy) y' hy'
      have hd : ∀ b, b ∈ xs → X.A.units + 2 + (toPy b).depth < cLine := fun b hb => by
        have := of_decide_eq_true (List.all_eq_true.mp k3 b hb)
        omega
      have hL : xs.length ≤ sizeLine := Nat.le_trans k4 lim_line
      have hits : its.length = xs.length := by rw [← r2.length]; exact h2.len
      -- the end
      have fin : ∀ out : List Value, out.length = xs.length → PySem.W.EachIs (Std X.K F) out (xs.mergeSort (PySem.W.dataLe false toPy)) → EP X pins σ' Q (.ref (s.heap.objs.size + 1)) { s with heap := PyProof.Rows.sortedAll s.heap its (List.toArray out) } := fun out hl ho => by
        obtain ⟨ws, w1, w2⟩ := std_each ho
        obtain ⟨ep, he'⟩ := PyProof.Rows.sortedAll_at s.heap its out.toArray
        have hn : H (s.heap.objs.size + 1) = none := I.hok.fresh (Nat.le_succ _)
        refine ⟨.ref (s.heap.objs.size + 1), upd H (s.heap.objs.size + 1) (.lst ws), I.laid (t' := s.toks) (fun _ _ => PyProof.Rows.sortedAll_old) (Nat.le_succ _) ⟨by rw [w2.length, hl]; exact hL, out, ep, w2, by simpa using he'⟩, rfl, ?_⟩
        exact q _ _ _ (e.stpN hn) (e.fresh hn) ⟨_, ws, rfl, hn, e.notC hn, e.F_none hn, upd_same, w1⟩
      have k2' : PySem.W.Sortable (xs.map toPy) ∨ xs.length ≤ 1 ∧ ∀ d ∈ xs, d ≠ .non := by
        simp only [Bool.or_eq_true, Bool.and_eq_true, decide_eq_true_eq] at k2
        rcases k2 with (k2 | k2) | k2
        · refine .inl (.inl fun d hd => ?_)
          obtain ⟨y, hy, rfl⟩ := List.mem_map.mp hd
          have := List.all_eq_true.mp k2 y hy
          cases y with
          | tup l => cases l with
            | nil => cases this
            | cons z l => exact ⟨toPy z, toPys l, by simp [toPy, toPys]⟩
          | _ => cases this
        · refine .inl (.inr fun d hd => ?_)
          obtain ⟨y, hy, rfl⟩ := List.mem_map.mp hd
          have := List.all_eq_true.mp k2 y hy
          cases y <;> first | (cases this; done) | (simp [toPy]; done)
        · refine .inr ⟨k2.1, fun d hd z => ?_⟩
          subst z
          have := List.all_eq_true.mp k2.2 _ hd
          cases this
      rcases k2' with hs | ⟨h1l, hnn⟩
      · exact PySem.W.sorted_data (R := Std X.K F) (enc := toPy) pl.isList ea er hal hs hL hd fun out hl ho => fin out hl ho
      · match xs, ea, h1l, hnn with
        | [], ea, _, _ =>
          exact PySem.W.sorted_data (R := Std X.K F) (enc := toPy) pl.isList ea er hal (.inl fun d hd => absurd hd (by simp)) hL hd fun out hl ho => fin out hl ho
        | [d], ea, _, hnn =>
          have er' : PySem.W.EachIs (fun v b => ∃ as, Reads (PySem.W.sortingHeap (PySem.W.copyHeap s.heap its) (s.heap.objs.size + 1) its) v (toPy b) as) its [d] := er.mono fun _ _ ⟨as, r⟩ => ⟨as, PyProof.Rows.Reads.keeps (fun _ _ => PySem.W.sorting_copy_old) r⟩
          have hne : toPy d ≠ .none := fun z => hnn d (List.mem_singleton.mpr rfl) (by cases d <;> simp [toPy] at z; rfl)
          have S : PySem.W.SortsAt X.prog X.w X.A.in1.in1 { s with heap := PySem.W.sortingHeap (PySem.W.copyHeap s.heap its) (s.heap.objs.size + 1) its } (PySem.W.dataKind (PySem.W.sortingHeap (PySem.W.copyHeap s.heap its) (s.heap.objs.size + 1) its) ([d].map toPy)) its := by
            cases er' with
            | cons h3 h4 =>
              cases h4
              obtain ⟨as, rr⟩ := h3
              refine sorts_one (s := { s with heap := _ }) rr ?_ hne ?_
              · exact hal _ (by simp) _ (by simp)
              · have := hd d (List.mem_singleton.mpr rfl)
                show X.A.units + 1 + 1 + (toPy d).depth < cLine
                omega
          exact PySem.W.sorted_vals pl.isList S (by rw [hits]; exact hL) (fin _ (by rw [PySem.W.sortVals_length false rfl]; exact hits) (PySem.W.sortVals_data false ea er' hal))
        | _ :: _ :: _, _, h1l, _ => simp at h1l
    · cases h
  | _ => cases (show (none : Option Res) = some r from h)
end
end DI
end
section
set_option linter.all false
set_option maxRecDepth 100000
set_option Elab.async false
/-! DI5r: repr. -/
namespace DI
open PySem PySem.Spec PyProof.Rows L2
mutual
theorem toPy_plain : ∀ d : D, (toPy d).hasDict = false
  | .non | .bl _ | .int _ | .str _ => by simp only [toPy, PyData.hasDict]
  | .tup xs => by simp only [toPy, PyData.hasDict]; exact toPys_plain xs
  | .lst xs => by simp only [toPy, PyData.hasDict]; exact toPys_plain xs
theorem toPys_plain : ∀ xs : List D, PyData.hasDictAll (toPys xs) = false
  | [] => by simp only [toPys, PyData.hasDictAll]
  | x :: r => by simp only [toPys, PyData.hasDictAll, toPy_plain x, toPys_plain r]; rfl
end
section
variable {X : Cx} {C : Addr → Prop} {ad : Nat → Addr} {F H : Hp} {σ : L2.St} {ρ : Ro} {v : V}
theorem repr_ok {x : D} {r : Res} {Q : VK} (hu : X.A.units + 80 < cLine) (hg : X.A.guards = some []) (e : EnvOk X.K C ad F H σ ρ) (hx : RepB X.K F H x v)
    (h : bltR .repr x = some r) (q : Fin X C ad F H σ ρ r Q) : rcl X (.builtin "repr") [v] H Q := by
  have h : (reprD x).map (fun y => Res.dat (.str y)) = some r := h
  unfold reprD at h
  split at h
  · rename_i hok
    cases h
    unfold reprOk at hok
    simp only [Bool.and_eq_true, decide_eq_true_eq] at hok
    obtain ⟨⟨⟨k1, k2⟩, k3⟩, k4⟩ := hok
    intro pins s σ' us I rv
    obtain ⟨u, rfl, ru⟩ := vals1 rv
    obtain ⟨as, rd⟩ := Dp.reads I _ _ _ (Rep.dp _ _ (hx.rep e.le)) ru
    have hr : ∃ a, u = .ref a := by
      cases x with
      | tup l => unfold toPy at rd; cases rd; exact ⟨_, rfl⟩
      | lst l => unfold toPy at rd; cases rd; exact ⟨_, rfl⟩
      | _ => cases k1
    obtain ⟨a, rfl⟩ := hr
    refine PySem.repr_of_reads' rd k2 (PyData.noDict_hsm (toPy_plain x)) hg (by omega) (fun _ _ z => z) (fun h' n tk kp => ?_) (Nat.le_trans k4 lim_line)
    exact ⟨.str _, H, I.kept kp, ⟨_, rfl⟩, q (.str (toPy x).shown) F H e.stp e (show Rep X.K F (.str _) (.str _) from Rep.str.mpr rfl)⟩
  · cases h
end
end DI
end
section
set_option Elab.async false
set_option linter.all false
set_option maxRecDepth 100000
set_option maxHeartbeats 2000000
/-! DIG: what a def promises where no repr is under way (guards = some []). -/
namespace DI
open PySem PySem.Spec PyProof.Rows L2
/-- a def's promise where nothing is being shown -/
structure FnG (P : Program) (w : World) (K : PySem.W.Frag) (mg : Str → Option Value) (base : Heap) (CX : CXT) (k : Nat)
    (f : Addr) (fd : FuncData) (ps : List Str) (sp : Sp) : Prop where
  wide : ∀ ws G R Z, sp ws G R Z → ws.length = ps.length
  go : ∀ (B : Around) (out : List Env) (t : Shared) (G : Hp) (ar : Args) (us : List Value) (ws : List V) (R : VK) (Z : XK),
    B.guards = some [] → Room k B → Env0 P w K mg base B out t G → BindsTo t fd ar (ps.zip us) → Vals ws us → sp ws G R Z →
    codeAny (model P w) B (.call (.ref f) ar) (CR CX out P w G t R Z) t
section
variable {X : Cx} {CX : CXT} {k : Nat} {f : Addr} {fd : FuncData} {ps : List Str} {sp : Sp} {Z : L2.St → XK} {x : Str} {p pos : Pos} {e : Expr} {es : List Expr} {t : TA}
theorem run_fnG {pins : List (Addr × Obj)} {σ : L2.St} {G : Hp} {s : Shared} {R : VK} {us : List Value} {ws : List V}
    (F : FnG X.prog X.w X.K X.mg X.base CX k f fd ps sp) (gd : X.A.guards = some []) (rm : Room k X.A) (bd : Binds X.K fd ps [])
    (px : PassesAt CX X σ (Z σ)) (J : Inv X pins σ G s) (rv : Vals ws us) (q : sp ws G R (Z σ)) :
    wpAny (model X.prog X.w) X.A (call (.ref f) us) (EP X pins σ R) X.xe s := by
  have b := bd s us J.kIn (by rw [List.append_nil, ← rv.length]; exact F.wide _ _ _ _ q)
  rw [List.append_nil] at b
  refine wpAny_call (codeAny_mono (F.go X.A X.stack s G ⟨us, []⟩ us ws R (Z σ) gd rm J.env0 b rv q) fun r s' hq => ?_)
  match r, hq with
  | .error e, hq => exact px pins G s e s' J hq
  | .ok (.ret u), hq => exact J.after hq
  | .ok .next, hq => exact (show False from hq).elim
  | .ok .brk, hq => exact (show False from hq).elim
  | .ok .cont, hq => exact (show False from hq).elim
theorem pe_callG (F : FnG X.prog X.w X.K X.mg X.base CX k f fd ps sp) (gd : X.A.guards = some []) (rm : Room k X.A) (hg : Gl X x)
    (hm : X.mg x = some (.ref f)) (hk : PySem.W.keepIn X.K (.ref f) = true) (bd : Binds X.K fd ps []) (px : ∀ σ, PassesAt CX X σ (Z σ))
    (ha : PA X (e :: es) t) (hdb : (x == ("__debug__" : Str)) = false := by decide)
    (he : starEach (e :: es) X.env = (false, eval e X.env) :: starEach es X.env := by rfl)
    (hpl : (backTo pos (starEach es X.env)).any (·.1) = false := by rfl) : PE X (.Call (.Name x p) (e :: es) [] pos) (tCallS sp Z t) :=
  ⟨fun pins s σ G R J h => wpAny_Call_Name_kw (ld_glob J hg hm
    (PySem.W.callWith_K (h₀ := X.base) J.ok.mod.kin hk (thn (ha.run pos pins s σ G _ J h) fun us s1 ⟨ws, G1, J1, r, q⟩ =>
      ⟨J1.kIn, run_fnG F gd rm bd (px σ) J1 r q⟩) he hpl) hdb)⟩
end
/-- a body keeps the promise -/
theorem fn_ofG {CX : CXT} {P : Program} {w : World} {K : PySem.W.Frag} {mg : Str → Option Value} {base : Heap} {k : Nat} {f : Addr} {name qual : Str}
    {params : Arguments} {body : List Stmt} {scope : Scope} {dV kV doc pm cdv ct oc : Value} {an od : Option Addr} {osl : Array (Option Value)} {N ps : List Str} {sp : Sp}
    (lk : K.lookup f = some ⟨oc, od, .func (PySem.W.fnOf name qual params body scope dV kV doc pm an cdv ct), osl⟩)
    (hcd : PySem.W.codeIn K cdv qual = true) (S : FnScope N ps scope) (wide : ∀ ws G R Z, sp ws G R Z → ws.length = ps.length)
    (hbody : ∀ (B : Around) (out : List Env) (s : Shared) (G : Hp) (ws : List V) (R : VK) (Z : XK), B.guards = some [] →
      Room k (B.deeper (envOfC qual scope s.heap.objs.size f cdv)) → sp ws G R Z →
      ∃ t, PSs (cxOf CX P w K mg base N qual scope f cdv B out s G Z) body t ∧ t { nx := fun _ G' => R .non G', rt := R } (start N ws) G) :
    FnG P w K mg base CX (k + 1) f (PySem.W.fnOf name qual params body scope dV kV doc pm an cdv ct) ps sp := by
  refine ⟨wide, fun B out s G args us ws R Z gd rm e0 hb rv hsp => ?_⟩
  have KX : K.In s.heap := e0.mod.kin.keeps (fun b o e => (e0.bs b o e).1)
  refine codeAny_call_function rm.depth (KX _ _ lk) rfl S.co S.gen rfl (PySem.W.codeRec_of KX hcd) (hb _ _ _ _ ?_)
  refine wpAny_newFunctionEnv_cells S.kind (fun y hy => ?_) (fun env he s1 x => ?_)
  · exact (S.par y.1 (List.of_mem_zip (show (y.1, y.2) ∈ ps.zip us from hy)).1).imp_right fun q => ⟨q, PySem.W.cellsFrom_some _ _ _ (.inl q)⟩
  · subst he
    refine ⟨(e0.mod.nolimit.keeps fun b o e => (e0.bs b o e).1).keeps x.toInCall.keep, codeAny_func ?_⟩
    obtain ⟨t, ht, hq⟩ := hbody B out s G ws R Z gd (rm.deeper _) hsp
    refine wpAny_mono (ht.run [] s1 (start N ws) G _ (inv_start S rm.hd e0 (wide _ _ _ _ hsp) rv x) hq) ?_ fun _ _ q => q
    intro fl s' hs
    cases fl with
    | ret u => obtain ⟨v, σ', G', J, r, q⟩ := hs; exact ⟨v, G', J.os, J.bare, J.base, J.hok, r, q⟩
    | next => obtain ⟨σ', G', J, q⟩ := hs; exact ⟨V.non, G', J.os, J.bare, J.base, J.hok, rfl, q⟩
    | brk => obtain ⟨_, _, _, q⟩ := hs; exact (show False from q).elim
    | cont => obtain ⟨_, _, _, q⟩ := hs; exact (show False from q).elim
theorem okG {P : Program} {w : World} {K : PySem.W.Frag} {mg : Str → Option Value} {base : Heap} {x qual : Str} {params : Arguments} {body : List Stmt} {scope : Scope}
    {dvs : List V} {kws : List (Str × V)} {f : Addr} {fd : FuncData} {CX : CXT} {N ps : List Str} {k : Nat} {sp : Sp}
    (F : FunD K x qual params body scope dvs kws f fd) (S : FnScope N ps scope) (wide : ∀ ws G R Z, sp ws G R Z → ws.length = ps.length)
    (hbody : ∀ (cdv : Value) (B : Around) (out : List Env) (s : Shared) (G : Hp) (ws : List V) (R : VK) (Z : XK), B.guards = some [] →
      Room k (B.deeper (envOfC qual scope s.heap.objs.size f cdv)) → sp ws G R Z →
      ∃ t, PSs (cxOf CX P w K mg base N qual scope f cdv B out s G Z) body t ∧ t { nx := fun _ G' => R .non G', rt := R } (start N ws) G) :
    FnG P w K mg base CX (k + 1) f fd ps sp := by
  obtain ⟨oc, od, dV, kV, doc, pm, an, cdv, ct, osl, rfl, lk, hcd, _, _⟩ := F.ex
  exact fn_ofG lk hcd S wide fun B out s G ws R Z gd rm hsp => hbody cdv B out s G ws R Z gd rm hsp
end DI
end
section
set_option linter.all false
set_option maxRecDepth 100000
set_option Elab.async false
/-! DI6: what a call hands over and gets back; the pieces of an expression. -/
namespace DI
open PySem PySem.Spec PyProof.Rows L2

/-- arguments in the heap; as: where the lent lists stand -/
def AgsOk (K : PySem.W.Frag) (F H : Hp) : List Ag → List V → List Addr → Prop
  | [], vs, as => vs = [] ∧ as = []
  | .dat d :: r, vs, as => ∃ v q, vs = v :: q ∧ Rep K F d v ∧ AgsOk K F H r q as
  | .len l :: r, vs, as => ∃ a q b ws, vs = .ref a :: q ∧ as = a :: b ∧ H a = some (.lst ws) ∧ Reps K F l ws ∧ AgsOk K F H r q b
def RtOk (K : PySem.W.Frag) (as : List Addr) (Hs F H : Hp) : Ag → V → Prop
  | .dat d, v => Rep K F d v
  | .len l, v => ∃ p vs, v = .ref p ∧ Hs p = none ∧ p ∉ as ∧ F p = none ∧ H p = some (.lst vs) ∧ Reps K F l vs
/-- of one form -/
def same : List Ag → List Ag → Prop
  | [], [] => True
  | .dat _ :: r, .dat _ :: q => same r q
  | .len _ :: r, .len _ :: q => same r q
  | _, _ => False
/-- a def's promise, from what it computes -/
def spOf (K : PySem.W.Frag) (mg : Str → Option Value) (xn : Str → List Str) (f : List Ag → OutC) (np : Nat) : Sp := fun vs H Q E => ∃ (ags : List Ag) (as : List Addr) (F : Hp),
  vs.length = np ∧ AgsOk K F H ags vs as ∧ as.Nodup ∧ Le F H ∧ (∀ a ∈ as, F a = none) ∧
  match f ags with
  | .no => False
  | .ok r q => ∀ v F' H', Stp (· ∈ as) F H F' H' → Le F' H' → same ags q → AgsOk K F' H' q vs as → RtOk K as H F' H' r v → Q v H'
  | .ex c fs => ∀ F' H' cls d, Stp (· ∈ as) F H F' H' → Le F' H' → ExAt K mg xn c fs F' H' cls d → E cls d H'

/-- what is asked of a dict of the module whose values are defs -/
structure DicOk (P : Program) (w : World) (K : PySem.W.Frag) (mg : Str → Option Value) (d : Str) (tb : List (D × Str)) : Prop where
  at_ : ∃ a, mg d = some (.ref a) ∧ ∀ X : Cx, X.prog = P → X.w = w → X.K = K → X.A.units + 200 < cLine → ∀ (H : Hp) (k : D) (v : V) (o : Option Str), Rep K H k v → dGet tb k = some o →
    (∀ Q : VK, Q (.bl o.isSome) H → rop X (compareOp .In) v (.ref a) H Q) ∧ (∀ Q : VK, Q (.bl (!o.isSome)) H → rop X (compareOp .NotIn) v (.ref a) H Q) ∧
    ∀ f, o = some f → ∃ fa, mg f = some (.ref fa) ∧ ∀ Q : VK, Q (.ref fa) H → rix X (.ref a) v H Q
/-- what the pieces lean on -/
structure XOk (G : Gm) (call : CF) (xn : Str → List Str) (X : Cx) : Prop where
  calm : X.calm = true
  gd : X.A.guards = some []
  nd : X.N.Nodup
  un : X.A.units + 200 < cLine
  blt : ∀ b : Bl, X.mg (blName b) = none
  tyn : ∀ t : Ty, X.mg (tyName t) = none
  isi : X.mg "isinstance" = none
  rng : X.mg "range" = none
  zip : X.mg "zip" = none
  con : ∀ n d, G.con n = some d → ∃ u v, X.mg n = some u ∧ RelV v u ∧ Rep X.K (fun _ => none) d v
  fns : ∀ f, (G.fn f).isSome = true → ∃ k fa fd ps, FnG X.prog X.w X.K X.mg X.base (L2.CX X.prog X.w) k fa fd ps (spOf X.K X.mg xn (call f) ps.length) ∧ (∀ as, call f as ≠ .no → as.length = ps.length) ∧ Room k X.A ∧ X.mg f = some (.ref fa) ∧ PySem.W.keepIn X.K (.ref fa) = true ∧ Binds X.K fd ps []
  dic : ∀ d tb, G.dic d = some tb → DicOk X.prog X.w X.K X.mg d tb

section
variable (G : Gm) (call : CF) (xn : Str → List Str) (X : Cx)
def SE (m : ME) (e : Expr) : Prop := ∀ (W : WX) (C : Addr → Prop) (ad : Nat → Addr) (σ : L2.St) (ρ : Ro) (F H : Hp), Takes X W → EnvOk X.K C ad F H σ ρ →
  Sd X xn W C ad σ F H (ev G call m ρ) (fun r Hs F' H' ρ' (v : V) => ResOk X.K C ad Hs F' H' ρ' r v) (fun Q => We X e σ H Q)
def SD (m : ME) (e : Expr) : Prop := ∀ (W : WX) (C : Addr → Prop) (ad : Nat → Addr) (σ : L2.St) (ρ : Ro) (F H : Hp), Takes X W → EnvOk X.K C ad F H σ ρ →
  Sd X xn W C ad σ F H (asD (ev G call m ρ)) (fun d _ F' _ _ (v : V) => Rep X.K F' d v) (fun Q => We X e σ H Q)
def ST (m : ME) (e : Expr) : Prop := ∀ (W : WX) (C : Addr → Prop) (ad : Nat → Addr) (σ : L2.St) (ρ : Ro) (F H : Hp), Takes X W → EnvOk X.K C ad F H σ ρ →
  Sd X xn W C ad σ F H (asT (ev G call m ρ)) (fun b _ _ _ _ (c : Bool) => c = b) (fun Q => Wt X e σ H Q)
/-- .. whatever the whole is -/
def SW (m : ME) (e : Expr) : Prop := ∀ (W : WX) (C : Addr → Prop) (ad : Nat → Addr) (σ : L2.St) (ρ : Ro) (F H : Hp), Takes X W → EnvOk X.K C ad F H σ ρ →
  Sd X xn W C ad σ F H (asT (ev G call m ρ)) (fun b _ _ _ _ (c : Bool) => c = b) (fun Q => Ww X e σ H Q)
def SL (ms : MEs) (es : List Expr) : Prop := ∀ (W : WX) (C : Addr → Prop) (ad : Nat → Addr) (σ : L2.St) (ρ : Ro) (F H : Hp), Takes X W → EnvOk X.K C ad F H σ ρ →
  Sd X xn W C ad σ F H (evDs G call ms ρ) (fun ds _ F' _ _ (vs : List V) => Reps X.K F' ds vs ∧ ds.length ≤ LIM) (fun Q => Wa X es σ H Q)
def ArsOk (K : PySem.W.Frag) (ad : Nat → Addr) (F : Hp) : List Ar → List V → Prop
  | [], vs => vs = []
  | .dat d :: r, vs => ∃ v q, vs = v :: q ∧ Rep K F d v ∧ ArsOk K ad F r q
  | .cel i :: r, vs => ∃ q, vs = .ref (ad i) :: q ∧ ArsOk K ad F r q
def SA (ms : MEs) (es : List Expr) : Prop := ∀ (W : WX) (C : Addr → Prop) (ad : Nat → Addr) (σ : L2.St) (ρ : Ro) (F H : Hp), Takes X W → EnvOk X.K C ad F H σ ρ →
  Sd X xn W C ad σ F H (evAs G call ms ρ) (fun as _ F' _ _ (vs : List V) => ArsOk X.K ad F' as vs) (fun Q => Wa X es σ H Q)
end
section
variable {G : Gm} {call : CF} {xn : Str → List Str} {X : Cx} {W : WX} {C : Addr → Prop} {ad : Nat → Addr} {σ : L2.St} {ρ : Ro} {F H : Hp} {m a b c : ME} {e x y z : Expr}

theorem frz {K : PySem.W.Frag} {Hs Fs : Hp} {l : List D} {v : V} (en : EnvOk K C ad F H σ ρ) (s : Stp C Fs Hs F H) (r : ResOk K C ad Hs F H ρ (.new l) v) : ∃ F1, Le F F1 ∧ EnvOk K C ad F1 H σ ρ ∧ Stp C Fs Hs F1 H ∧ Rep K F1 (.lst l) v := by
  obtain ⟨p, vs, e, n, c, f, h, q⟩ := r
  exact ⟨_, le_upd0 f, en.freeze h c f, s.freeze n c f, Rep.lst.mpr ⟨p, vs, e, .inl upd_same, Reps.le (le_upd0 f) _ _ q⟩⟩
theorem SE.d (h : SE G call xn X m e) : SD G call xn X m e := by
  intro W C ad σ ρ F H tk en
  have k := h W C ad σ ρ F H tk en
  unfold asD
  cases ho : ev G call m ρ with
  | no => trivial
  | ex c fs ρ' => rw [ho] at k; exact k
  | ok r ρ' =>
    rw [ho] at k
    cases r with
    | var i => trivial
    | dat d => exact fun Q q => k Q fun v F' H' s e' r => q v F' H' s e' r
    | new l =>
      intro Q q
      refine k Q fun v F' H' s e' r => ?_
      obtain ⟨F1, l1, e1, s1, r1⟩ := frz e' s r
      exact q v F1 H' s1 e1 r1
abbrev monoR {K : PySem.W.Frag} {C : Addr → Prop} {ad : Nat → Addr} {F H : Hp} : ∀ (g : Res) (F' H' F'' H'' : Hp) (ρ : Ro) (z : V), Stp C F H F' H' → ResOk K C ad H' F'' H'' ρ g z → ResOk K C ad H F'' H'' ρ g z := fun _ _ _ _ _ _ _ s r => ResOk.from s r
/-- two results, an operation that may not be covered -/
theorem fin2 {r1 r2 : Res} {v u : V} {Hs1 Hs2 : Hp} {f : D → D → Option Res} {T : (V → Hp → Prop) → Prop} (en : EnvOk X.K C ad F H σ ρ) (h1 : ResOk X.K C ad Hs1 F H ρ r1 v) (h2 : ResOk X.K C ad Hs2 F H ρ r2 u)
    (k : ∀ dx dy r, RepB X.K F H dx v → RepB X.K F H dy u → f dx dy = some r → ∀ Q : VK, Fin X C ad F H σ ρ r Q → T Q) :
    Sd X xn W C ad σ F H (match look ρ r1, look ρ r2 with | some x, some y => ofO (f x y) ρ | _, _ => .no) (fun r Hs F' H' ρ' (v : V) => ResOk X.K C ad Hs F' H' ρ' r v) T := by
  cases e1 : look ρ r1 with
  | none => trivial
  | some dx =>
    cases e2 : look ρ r2 with
    | none => trivial
    | some dy =>
      show Sd X xn W C ad σ F H (ofO (f dx dy) ρ) _ T
      cases e3 : f dx dy with
      | none => trivial
      | some r => exact fun Q q => k dx dy r (h1.look en e1) (h2.look en e2) e3 Q q

/-- with a reading that serves as a value and as a test -/
def SB (G : Gm) (call : CF) (xn : Str → List Str) (X : Cx) (m : ME) (e : Expr) : Prop := ∃ t : TE, PE X e t ∧ PT X e (tTest t) ∧ ∀ (W : WX) (C : Addr → Prop) (ad : Nat → Addr) (σ : L2.St) (ρ : Ro) (F H : Hp), Takes X W → EnvOk X.K C ad F H σ ρ →
  Sd X xn W C ad σ F H (ev G call m ρ) (fun r Hs F' H' ρ' (v : V) => ResOk X.K C ad Hs F' H' ρ' r v) (fun Q => t σ H Q)
theorem SB.se (h : SB G call xn X m e) : SE G call xn X m e := fun W C ad σ ρ F H tk en => by
  obtain ⟨t, h1, _, h3⟩ := h
  exact Sd.imp (h3 W C ad σ ρ F H tk en) fun Q q => We.of h1 q
theorem asT_sd {T : (V → Hp → Prop) → Prop} {out : Out Res} (k : Sd X xn W C ad σ F H out (fun r Hs F' H' ρ' (v : V) => ResOk X.K C ad Hs F' H' ρ' r v) T) :
    Sd X xn W C ad σ F H (asT out) (fun b _ _ _ _ (v : V) => v = .bl b) T := by
  unfold asT
  cases out with
  | no => trivial
  | ex c fs ρ' => exact k
  | ok r ρ' =>
    cases r with
    | dat d =>
      cases d with
      | bl b => exact fun Q q => k Q fun v F' H' s e' r => q v F' H' s e' (Rep.bl.mp (show Rep X.K F' (.bl b) v from r))
      | _ => trivial
    | _ => trivial
theorem Sd.tst {T : (V → Hp → Prop) → Prop} {out : Out Bool} (k : Sd X xn W C ad σ F H out (fun b _ _ _ _ (v : V) => v = .bl b) T) :
    Sd X xn W C ad σ F H out (fun b _ _ _ _ (c : Bool) => c = b) (fun Q => T fun x H' => ∃ c, x = V.bl c ∧ Q c H') := by
  cases out with
  | no => trivial
  | ex c fs ρ' => exact fun q Q => k q _
  | ok b ρ' => exact fun Q q => k _ fun v F' H' s e' r => ⟨b, r, q b F' H' s e' rfl⟩
theorem SB.st (h : SB G call xn X m e) : ST G call xn X m e := fun W C ad σ ρ F H tk en => by
  obtain ⟨t, _, h2, h3⟩ := h
  exact Sd.imp (Sd.tst (asT_sd (h3 W C ad σ ρ F H tk en))) fun Q q => Wt.of h2 q
theorem SE.sb (h : SE G call xn X m e) (he : ∀ whole, isTrue e X.env whole = (do let v ← whole; standAt e.pos; holding [v] (truthy v))) : SB G call xn X m e := ⟨We X e, pe_we, pt_val pe_we he, h⟩

/-! ### names and constants -/
theorem se_var {i : Nat} (h : chk X.N (.var i) X.env.scope e = true) : SE G call xn X (.var i) e := by
  intro W C ad σ ρ F H tk en
  unfold chk at h
  split at h
  · rename_i x hx
    obtain ⟨p, rfl⟩ := eName_inv hx
    simp only [Bool.and_eq_true, decide_eq_true_eq, Bool.not_eq_true'] at h
    obtain ⟨⟨⟨h1, h2⟩, h3⟩, h4⟩ := h
    have pe := pe_var (X := X) (pos := p) h1 (vis_ok h2) h3 h4
    have cel : ∀ l, cellAt ρ i = some l → Sd X xn W C ad σ F H (.ok (.var i) ρ) (fun r Hs F' H' ρ' (v : V) => ResOk X.K C ad Hs F' H' ρ' r v) (fun Q => We X (.Name x p) σ H Q) := fun l hl Q q =>
      We.of pe ⟨_, (en.cel i l hl).1, q _ F H en.stp en rfl⟩
    unfold ev
    cases hr : ρ[i]? with
    | none => trivial
    | some s =>
      cases s with
      | no => trivial
      | dat d =>
        obtain ⟨v, hv, r⟩ := en.dat i d hr
        exact fun Q q => We.of pe ⟨v, hv, q v F H en.stp en r⟩
      | own l => exact cel l (by simp [cellAt, hr])
      | lent l => exact cel l (by simp [cellAt, hr])
  · cases h
theorem se_con {d : D} {v : V} (pe : PE X e (tC v)) (r : ∀ F, Rep X.K F d v) (hm : ∀ ρ, ev G call m ρ = .ok (.dat d) ρ) : SE G call xn X m e := by
  intro W C ad σ ρ F H tk en
  rw [hm]
  exact fun Q q => We.of pe (q v F H en.stp en (r F))
theorem se_non (h : chk X.N .non X.env.scope e = true) : SE G call xn X .non e := by
  unfold chk at h
  split at h
  · rename_i hx
    obtain ⟨j, p, rfl⟩ := eConst_inv hx
    exact se_con pe_non (fun F => Rep.non.mpr rfl) fun ρ => by unfold ev; rfl
  · cases h
theorem se_bl {b : Bool} (h : chk X.N (.bl b) X.env.scope e = true) : SE G call xn X (.bl b) e := by
  unfold chk at h
  split at h
  · rename_i c hx
    obtain ⟨j, p, rfl⟩ := eConst_inv hx
    have : b = c := by simpa using h
    subst this
    exact se_con pe_bl (fun F => Rep.bl.mpr rfl) fun ρ => by unfold ev; rfl
  · cases h
theorem se_int {i : Int} (h : chk X.N (.int i) X.env.scope e = true) : SE G call xn X (.int i) e := by
  unfold chk at h
  split at h
  · rename_i c hx
    obtain ⟨j, p, rfl⟩ := eConst_inv hx
    have : i = c := by simpa using h
    subst this
    exact se_con pe_int (fun F => Rep.int.mpr rfl) fun ρ => by unfold ev; rfl
  · cases h
theorem se_str {i : Str} (h : chk X.N (.str i) X.env.scope e = true) : SE G call xn X (.str i) e := by
  unfold chk at h
  split at h
  · rename_i c hx
    obtain ⟨j, p, rfl⟩ := eConst_inv hx
    have : i = c := by simpa using h
    subst this
    exact se_con pe_str (fun F => Rep.str.mpr rfl) fun ρ => by unfold ev; rfl
  · cases h
theorem se_glo {n : Str} (xo : XOk G call xn X) (h : chk X.N (.glo n) X.env.scope e = true) : SE G call xn X (.glo n) e := by
  intro W C ad σ ρ F H tk en
  unfold chk at h
  split at h
  · rename_i x hx
    obtain ⟨p, rfl⟩ := eName_inv hx
    rw [Bool.and_eq_true] at h
    have e1 : x = n := of_decide_eq_true h.1
    subst e1
    obtain ⟨g1, g2, g3⟩ := glb_ok h.2
    unfold ev
    cases hc : G.con x with
    | none => trivial
    | some d =>
      obtain ⟨u, v, hm, r, rp⟩ := xo.con x d hc
      exact fun Q q => We.of (pe_glob g1 hm r g2) (q v F H en.stp en (Rep.le (fun _ _ z => by cases z) d v rp))
  · cases h
/-! ### operators -/
theorem se_bin {o : Op} (ha : SE G call xn X a x) (hb : SE G call xn X b y) {p : Pos} : SE G call xn X (.bin o a b) (.BinOp x (opOf o) y p) := by
  intro W C ad σ ρ F H tk en
  unfold ev
  refine Sd.imp (T := fun Q => We X x σ H fun v H1 => We X y σ H1 fun u H2 => rop X (binaryOp (opOf o)) v u H2 Q) ?_ fun Q q => We.of (pe_op rop_ok pe_we pe_we) q
  refine Sd.bind (ha W C ad σ ρ F H tk en) (fun r1 ρ1 v F1 H1 s1 e1 h1 => ?_) monoR
  refine Sd.bind (hb W C ad σ ρ1 F1 H1 tk e1) (fun r2 ρ2 u F2 H2 s2 e2 h2 => ?_) monoR
  exact fin2 e2 (h1.go s2) h2 fun dx dy r hx hy hr Q q => bin_ok e2 hx hy hr q
theorem map_bl {o : Option Bool} {r : Res} (h : (o.map fun b => Res.dat (.bl b)) = some r) : ∃ b, o = some b ∧ r = .dat (.bl b) := by
  cases o with
  | none => cases h
  | some b => cases h; exact ⟨b, rfl, rfl⟩
theorem sb_cmp {o : Cp} (xo : XOk G call xn X) (hp : plainE y = true) (ha : SE G call xn X a x) (hb : SE G call xn X b y) {p : Pos} : SB G call xn X (.cmp o a b) (.Compare x [cpOf o] [y] p) := by
  refine ⟨_, pe_cmpR rop_ok pe_we pe_we (behind_plain hp), pt_cmpR rop_ok pe_we pe_we (behind_plain hp), ?_⟩
  intro W C ad σ ρ F H tk en
  unfold ev
  refine Sd.imp (T := fun Q => We X x σ H fun v H1 => We X y σ H1 fun u H2 => rop X (compareOp (cpOf o)) v u H2 Q) ?_ fun Q q => q
  refine Sd.bind (ha W C ad σ ρ F H tk en) (fun r1 ρ1 v F1 H1 s1 e1 h1 => ?_) monoR
  refine Sd.bind (hb W C ad σ ρ1 F1 H1 tk e1) (fun r2 ρ2 u F2 H2 s2 e2 h2 => ?_) monoR
  exact fin2 (f := fun x y => (cmpD o x y).map fun b => Res.dat (.bl b)) e2 (h1.go s2) h2 fun dx dy r hx hy hr Q q => by
    obtain ⟨b, hb, rfl⟩ := map_bl hr
    exact cmp_ok (by have := xo.un; omega) e2.le hx hy hb (q _ F2 H2 e2.stp e2 (show Rep X.K F2 (.bl b) _ from Rep.bl.mpr rfl))
theorem sb_isin {neg : Bool} (xo : XOk G call xn X) (hp : plainE y = true) (ha : SE G call xn X a x) (hb : SE G call xn X b y) {p : Pos}
    (hm : ∀ ρ, ev G call m ρ = (ev G call a ρ).bind fun x ρ => (ev G call b ρ).bind fun y ρ => match look ρ x, look ρ y with | some x, some y => ofO ((isinD x y).map fun b => .dat (.bl (if neg = true then !b else b))) ρ | _, _ => .no) :
    SB G call xn X m (.Compare x [if neg = true then .NotIn else .In] [y] p) := by
  refine ⟨_, pe_cmpR rop_ok pe_we pe_we (behind_plain hp), pt_cmpR rop_ok pe_we pe_we (behind_plain hp), ?_⟩
  intro W C ad σ ρ F H tk en
  rw [hm]
  refine Sd.imp (T := fun Q => We X x σ H fun v H1 => We X y σ H1 fun u H2 => rop X (compareOp (if neg = true then .NotIn else .In)) v u H2 Q) ?_ fun Q q => q
  refine Sd.bind (ha W C ad σ ρ F H tk en) (fun r1 ρ1 v F1 H1 s1 e1 h1 => ?_) monoR
  refine Sd.bind (hb W C ad σ ρ1 F1 H1 tk e1) (fun r2 ρ2 u F2 H2 s2 e2 h2 => ?_) monoR
  exact fin2 (f := fun x y => (isinD x y).map fun b => Res.dat (.bl (if neg = true then !b else b))) e2 (h1.go s2) h2 fun dx dy r hx hy hr Q q => by
    cases hi : isinD dx dy with
    | none => rw [hi] at hr; cases hr
    | some b =>
      rw [hi] at hr
      cases hr
      exact isin_ok neg (by have := xo.un; omega) e2.le hx hy hi (q _ F2 H2 e2.stp e2 (show Rep X.K F2 (.bl _) _ from Rep.bl.mpr rfl))
theorem non_of {d : D} {v : V} {F H : Hp} (h : RepB X.K F H d v) : (v = .non ↔ d = .non) := by
  cases d with
  | non => exact ⟨fun _ => rfl, fun _ => Rep.non.mp (show Rep X.K F _ _ from h)⟩
  | bl b => rw [h.bl]; simp
  | int b => rw [h.int]; simp
  | str b => rw [h.str]; simp
  | tup b => obtain ⟨a, vs, rfl, _⟩ := h.tup; simp
  | lst b => obtain ⟨a, vs, rfl, _⟩ := h; simp
theorem sb_isN {j : Nat} {p p' : Pos} (ha : SE G call xn X a x) : SB G call xn X (.isN a) (.Compare x [.Is] [.Constant .none j p'] p) := by
  refine ⟨_, pe_cmp (pc_isN pe_we) (behind_plain rfl), pt_cmp (pc_isN pe_we) (behind_plain rfl), ?_⟩
  intro W C ad σ ρ F H tk en
  unfold ev
  refine Sd.imp (T := fun Q => We X x σ H fun v H1 => Q (V.bl (decide (v = V.non))) H1) ?_ fun Q q => q
  refine Sd.bind (ha W C ad σ ρ F H tk en) (fun r1 ρ1 v F1 H1 s1 e1 h1 => ?_) monoR
  cases hl : look ρ1 r1 with
  | none => trivial
  | some d =>
    have hb := h1.look e1 hl
    have k := non_of hb
    cases d with
    | non =>
      have : v = .non := k.mpr rfl
      exact fun Q q => by
        have := q (.bl true) F1 H1 e1.stp e1 (show Rep X.K F1 (.bl true) _ from Rep.bl.mpr rfl)
        simpa [k.mpr rfl] using this
    | _ =>
      have hn : ¬ v = .non := fun z => nomatch k.mp z
      exact fun Q q => by
        have := q (.bl false) F1 H1 e1.stp e1 (show Rep X.K F1 (.bl false) _ from Rep.bl.mpr rfl)
        simpa [hn] using this
theorem sb_notN {j : Nat} {p p' : Pos} (ha : SE G call xn X a x) : SB G call xn X (.notN a) (.Compare x [.IsNot] [.Constant .none j p'] p) := by
  refine ⟨_, pe_cmp (pc_notN pe_we) (behind_plain rfl), pt_cmp (pc_notN pe_we) (behind_plain rfl), ?_⟩
  intro W C ad σ ρ F H tk en
  unfold ev
  refine Sd.imp (T := fun Q => We X x σ H fun v H1 => Q (V.bl (!decide (v = V.non))) H1) ?_ fun Q q => q
  refine Sd.bind (ha W C ad σ ρ F H tk en) (fun r1 ρ1 v F1 H1 s1 e1 h1 => ?_) monoR
  cases hl : look ρ1 r1 with
  | none => trivial
  | some d =>
    have hb := h1.look e1 hl
    have k := non_of hb
    cases d with
    | non =>
      exact fun Q q => by
        have := q (.bl false) F1 H1 e1.stp e1 (show Rep X.K F1 (.bl false) _ from Rep.bl.mpr rfl)
        simpa [k.mpr rfl] using this
    | _ =>
      have hn : ¬ v = .non := fun z => nomatch k.mp z
      exact fun Q q => by
        have := q (.bl true) F1 H1 e1.stp e1 (show Rep X.K F1 (.bl true) _ from Rep.bl.mpr rfl)
        simpa [hn] using this
theorem se_neg {p : Pos} (ha : SE G call xn X a x) : SE G call xn X (.neg a) (.UnaryOp .USub x p) := by
  intro W C ad σ ρ F H tk en
  unfold ev
  refine Sd.imp (T := fun Q => We X x σ H fun v H1 => rU (fun i => .int (-i)) v H1 Q) ?_ fun Q q => We.of (pe_un un_neg pe_we) q
  refine Sd.bind (ha W C ad σ ρ F H tk en) (fun r1 ρ1 v F1 H1 s1 e1 h1 => ?_) monoR
  cases r1 with
  | dat d =>
    cases d with
    | int i =>
      have hv : v = .int i := Rep.int.mp (show Rep X.K F1 _ _ from h1)
      exact fun Q q => ⟨i, hv, q _ F1 H1 e1.stp e1 (show Rep X.K F1 (.int (-i)) _ from Rep.int.mpr rfl)⟩
    | _ => trivial
  | _ => trivial
theorem se_idx {p : Pos} (hp : plainE y = true) (ha : SE G call xn X a x) (hb : SE G call xn X b y) : SE G call xn X (.idx a b) (.Subscript x y p) := by
  intro W C ad σ ρ F H tk en
  unfold ev
  refine Sd.imp (T := fun Q => We X x σ H fun v H1 => We X y σ H1 fun u H2 => rix X v u H2 Q) ?_ fun Q q => We.of (pe_ix rix_ok pe_we pe_we (ix_plain hp)) q
  refine Sd.bind (ha W C ad σ ρ F H tk en) (fun r1 ρ1 v F1 H1 s1 e1 h1 => ?_) monoR
  refine Sd.bind (hb W C ad σ ρ1 F1 H1 tk e1) (fun r2 ρ2 u F2 H2 s2 e2 h2 => ?_) monoR
  exact fin2 (f := fun x y => (idxD x y).map Res.dat) e2 (h1.go s2) h2 fun dx dy r hx hy hr Q q => by
    cases hi : idxD dx dy with
    | none => rw [hi] at hr; cases hr
    | some d =>
      rw [hi] at hr; cases hr
      exact idx_ok e2.le hx hy hi fun w r => q w F2 H2 e2.stp e2 r
end
end DI
end
section
set_option linter.all false
set_option maxRecDepth 100000
set_option Elab.async false
/-! DIR: x[::-1] of a tuple. -/
namespace HT
open PySem PyProof.Rows
section
variable {prog : Program} {w : World} {A : Around} {E : Value → Shared → Prop} {s : Shared}
theorem adjust_rev (n : Nat) : Builtin.Slice.sliceAdjust none none (-1) (n : Int) = ((n : Int) - 1, -1) := by
  unfold Builtin.Slice.sliceAdjust
  rfl
theorem places_rev (n : Nat) : Builtin.Slice.slicePlaces ((n : Int) - 1) (-1) (-1) = n := by
  unfold Builtin.Slice.slicePlaces
  have h1 : ¬ ((-1 : Int) > 0) := by omega
  have h2 : -(-1 : Int) = 1 := by omega
  simp only [h1, if_false, h2, Int.ediv_one]
  split <;> omega
theorem fm_congr {α β : Type} {f g : α → Option β} : ∀ {l : List α}, (∀ x ∈ l, f x = g x) → l.filterMap f = l.filterMap g
  | [], _ => rfl
  | x :: r, h => by rw [List.filterMap_cons, List.filterMap_cons, h x List.mem_cons_self, fm_congr fun y hy => h y (List.mem_cons_of_mem _ hy)]
theorem pick_rev (xs : Array Value) : ((List.range xs.size).filterMap fun (m : Nat) => xs[(((xs.size : Int) - 1) + (m : Int) * (-1)).toNat]?).toArray = xs.toList.reverse.toArray := by
  have e := PySem.W.krv_pick xs
  unfold slicePick at e
  rw [PySem.W.krv_bounds] at e
  have e : ((sliceRange ((xs.size : Int) - 1) (-1) (-1)).filterMap (xs[·]?)).toArray = xs.toList.reverse.toArray := e
  rw [PySem.W.krv_sliceRange, List.filterMap_map] at e
  rw [← e]
  congr 1
  refine fm_congr fun m hm => ?_
  have := List.mem_range.mp hm
  show xs[_]? = xs[xs.size - 1 - m]?
  congr 1
  omega
theorem sliceApplied_rev {sl : Addr} {vl vu vs : Value} {n : Nat} {Q : Int × Int × Nat → Shared → Prop} (hs : s.heap.IsSliceOf sl vl vu vs) (pl : IsPart vl none) (pu : IsPart vu none) (ps : IsPart vs (some (-1)))
    (h : Q ((n : Int) - 1, -1, n) s) : wpAny (model prog w) A (Builtin.Slice.sliceApplied (.ref sl) (pure (n : Int))) Q E s := by
  obtain ⟨os, hos, hcs, hds⟩ := id hs
  unfold Builtin.Slice.sliceApplied Builtin.Slice.sliceFields
  refine wpAny_bind (wpAny_bind (wpAny_field hos hds (x := vl) rfl (wpAny_bind (wpAny_field hos hds (x := vu) rfl (wpAny_bind (wpAny_field hos hds (x := vs) rfl (wpAny_pure ?_)))))))
  refine wpAny_bind (slicePart_ ps ?_)
  show wpAny _ _ (if ((-1 : Int) == 0) = true then _ else _) _ _ s
  rw [if_neg (by decide)]
  refine wpAny_bind (slicePart_ pl (wpAny_bind (slicePart_ pu (wpAny_bind (wpAny_pure ?_)))))
  show wpAny _ _ (match Builtin.Slice.sliceAdjust none none (-1) (n : Int) with | (lo, hi) => pure (lo, (-1 : Int), Builtin.Slice.slicePlaces lo hi (-1))) _ _ s
  rw [adjust_rev]
  show wpAny _ _ (pure ((n : Int) - 1, (-1 : Int), Builtin.Slice.slicePlaces ((n : Int) - 1) (-1) (-1))) _ _ s
  rw [places_rev]
  exact wpAny_pure h
theorem getItem_tuple_rev {t sl : Addr} {items : Array Value} {vl vu vs : Value} {Q : Value → Shared → Prop} (ht : IsTup s.heap t items) (hs : s.heap.IsSliceOf sl vl vu vs) (pl : IsPart vl none) (pu : IsPart vu none) (ps : IsPart vs (some (-1)))
    (h : Q (.ref s.heap.objs.size) { s with heap := s.heap.push { cls := .type "tuple", data := .seq items.toList.reverse.toArray } })
    (hsz : items.size ≤ sizeLine) : wpAny (model prog w) A (getItem (.ref t) (.ref sl)) Q E s := by
  have htake : sizeOk (.seq items.toList.reverse.toArray) := by
    show items.toList.reverse.toArray.size ≤ sizeLine
    rw [List.size_toArray, List.length_reverse, Array.length_toList]
    exact hsz
  obtain ⟨os, hos, hcs, hds⟩ := id hs
  have hTs : s.TypeIs (.ref sl) "slice" := ⟨os, hos, hcs⟩
  unfold getItem
  try with_reducible refine wpAny_holding ?_
  first | refine wpAny_bind (wpAny_pure ?_) | skip
  refine wpAny_bind (wpAny_sequenceKey ht.typeIs (by decide) ?_)
  refine wpAny_bind (wpAny_callSpecial?_slot (name := Str.ofString "__getitem__") ht.typeIs PyProof.Rows.slot_tuple_getitem
    (wpAny_call_entry PyProof.Rows.slot_tuple_getitem ht.typeIs entry_tuple_getitem ?_ (args_tuple_getitem _ _)))
  show wpAny _ _ (Builtin.Tuple.tupleItemsOf (.ref t) >>= _) _ _ s
  refine wpAny_bind (tupleItemsOf_ ht ?_)
  refine wpAny_bind (wpAny_typeOf hTs ?_)
  rw [if_pos (by decide)]
  refine wpAny_bind (sliceApplied_rev hs pl pu ps ?_)
  have hno : ¬ ((((items.size : Int) - 1) == 0 && (-1 : Int) == 1 && items.size == items.size) = true) := by
    intro q
    rw [Bool.and_eq_true, Bool.and_eq_true] at q
    exact absurd q.1.2 (by decide)
  show wpAny _ _ (if (((items.size : Int) - 1) == 0 && (-1 : Int) == 1 && items.size == items.size) = true then _ else _) _ _ s
  rw [if_neg hno, pick_rev]
  first
    | exact wpAny_bind (m := Builtin.Tuple.tupleExact _) (wpAny_newObj_type (wpAny_pure ⟨_, rfl, wpAny_pure h⟩) htake)
    | exact wpAny_bind (m := Builtin.Tuple.tupleExact _) (wpAny_newObj_type (wpAny_bind (wpAny_pure (wpAny_pure ⟨_, rfl, wpAny_pure h⟩))) htake)
    | exact wpAny_bind (wpAny_bind (m := Builtin.Tuple.tupleExact _) (wpAny_newObj_type (wpAny_pure (wpAny_pure ⟨_, rfl, wpAny_pure h⟩)) htake))
    | exact wpAny_bind (wpAny_bind (m := Builtin.Tuple.tupleExact _) (wpAny_newObj_type (wpAny_pure ⟨_, rfl, wpAny_pure h⟩) htake))
end
end HT
namespace L2
open PySem PySem.Spec PyProof.Rows
section
variable {X : Cx}
def tRevU (K : PySem.W.Frag) (te : TE) : TE := fun σ H Q => te σ H fun x H1 => ∃ (a : Addr) (xs : List V), x = V.ref a ∧ SqT K H1 a xs ∧ ∀ p, H1 p = none → Q (V.ref p) (upd H1 p (.tup xs.reverse))
theorem pe_revU {e : PySem.Expr} {te : TE} {k : Nat} {p1 p2 p3 pos : Pos} (he : PE X e te) : PE X (.Subscript e (.Slice none none (some (.UnaryOp .USub (.Constant (.int 1) k p1) p2)) p3) pos) (tRevU X.K te) := by
  refine ⟨fun pins s σ H Q I h => ?_⟩
  refine Subscript_ (thn (he.run pins s σ H _ I h) fun v s1 ⟨x, H1, I1, r1, q1⟩ => ?_)
  obtain ⟨a, xs, ex, hx, q⟩ := q1
  subst ex
  cases r1
  have hst : PO X (some (.UnaryOp .USub (.Constant (.int 1) k p1) p2)) (tPart (tUn (rU fun i => .int (-i)) (tC (.int 1)))) := po_some (pe_un un_neg pe_int)
  refine wpAny_Slice (thn (po_none.run pins s1 σ H1 (fun o H2 => o = none ∧ H2 = H1) I1 ⟨rfl, rfl⟩) fun vl s2 ⟨l, H2, I2, pl, el, e2⟩ => ?_)
  subst el e2
  refine thn (po_none.run pins s2 σ H2 (fun o H3 => o = none ∧ H3 = H2) I2 ⟨rfl, rfl⟩) fun vu s3 ⟨u, H3, I3, pu, eu, e3⟩ => ?_
  subst eu e3
  refine thn (hst.run pins s3 σ H3 (fun o H4 => o = some (-1) ∧ H4 = H3) I3 ⟨1, rfl, -1, rfl, rfl, rfl⟩) fun vs s4 ⟨o, H4, I4, ps, eo, e4⟩ => ?_
  subst eo e4
  have I5 : Inv X pins σ H4 { s4 with heap := s4.heap.push { cls := .type "slice", data := .fields #[vl, vu, vs] } } := I4.kept (t' := s4.toks) fun b ob q => Heap.get?_push_of_some _ q
  obtain ⟨its, r, ht, hz⟩ := I5.tuple hx
  have hlen : its.toArray.size = xs.length := by rw [List.size_toArray]; exact r.length.symm
  show wpAny (model X.prog X.w) X.A (subscriptTail e (.Slice none none (some (.UnaryOp .USub (.Constant (.int 1) k p1) p2)) p3) (.ref a) (.ref s4.heap.objs.size)) (EP X pins σ Q) X.xe { s4 with heap := s4.heap.push { cls := .type "slice", data := .fields #[vl, vu, vs] } }
  refine tail_any (ops := [.ref a, .ref s4.heap.objs.size]) ht.typeIs PyProof.Rows.slot_tuple_getitem.lookup ?_ (by with_unfolding_all rfl)
  refine HT.getItem_tuple_rev ht (Heap.IsSliceOf.new _ vl vu vs) pl pu ps ?_ (by rw [hlen]; exact hz)
  refine ⟨.ref _, _, I5.laid (t' := s4.toks) (o := .tup xs.reverse) (fun b ob q => Heap.get?_push_of_some _ q) (Nat.le_refl _) ?_, rfl, q _ (I5.hok.fresh (Nat.le_refl _))⟩
  exact ⟨by rw [List.length_reverse]; exact hz, _, r.reverse, IsTup.new _ _⟩
end
end L2
end
section
set_option linter.all false
set_option maxRecDepth 100000
set_option Elab.async false
/-! DIU: t += u of tuples. -/
namespace HT
open PySem PyProof.Rows
section
variable {prog : Program} {w : World} {A : Around} {E : Value → Shared → Prop} {s : Shared}
theorem noiadd_tuple : typeLookup (.type "tuple") (dunderI "add") = pure none := by rw [typeLookup_type, builtinLookup_eq_fast]; kernel_rfl
theorem iconcat_meets {T id : String} {B : Builtin} {a b : Value} {S : PySem.Spec} {Q : Value → Shared → Prop} (ha : s.TypeIs a T) (hb : s.TypeIs b T) (hno : typeLookup (.type T) (dunderI "add") = pure none)
    (hfill : fillsNumberSlot (.type T) "add" = pure false) (hseq : seqSlot? (.type T) "__add__" = pure (some (.builtin id))) (slot : Slot T "__add__" id)
    (entry : entryFor table id = some B) (args : argsOk id ⟨[a, b], []⟩) (g : Meets (B ⟨[a, b], []⟩) S) (h : S A (wants Q E) s) : wpAny (model prog w) A (inplaceOp .Add a b) Q E s :=
  wpAny_inplaceOp_concat ha hb hno hfill hseq (call_meets slot ha entry args g h)
theorem icat_tup {t b : Addr} {vs ws : List Value} {Q : Value → Shared → Prop} (ht : IsTup s.heap t vs.toArray) (hb : IsTup s.heap b ws.toArray)
    (h0 : vs = [] → Q (.ref b) s) (h1 : vs ≠ [] → ws = [] → Q (.ref t) s) (h2 : vs ≠ [] → ws ≠ [] → Q (.ref s.heap.objs.size) { s with heap := s.heap.push { cls := .type "tuple", data := .seq (vs ++ ws).toArray } })
    (hsz : vs.length + ws.length ≤ sizeLine) : wpAny (model prog w) A (inplaceOp .Add (.ref t) (.ref b)) Q E s := by
  obtain ⟨⟨cls, dd, data, sl⟩, ho, hc, n, hd⟩ := id ht
  obtain ⟨⟨cls2, dd2, data2, sl2⟩, ho2, hc2, n2, hd2⟩ := id hb
  simp only at hc hd hc2 hd2
  subst hc hd hc2 hd2
  have e : vs.toArray ++ ws.toArray = (vs ++ ws).toArray := by simp
  by_cases hv : vs = []
  · subst hv
    exact iconcat_meets ⟨_, ho, rfl⟩ ⟨_, ho2, rfl⟩ noiadd_tuple noFill_tuple_add seq_tuple_add PySem.F.slot_tuple_add PySem.F.entry_tuple_add (PySem.F.args_tuple_add_2 _ _)
      (tuple_addW0 t b ([] : List Value).toArray ws.toArray n n2 dd dd2 sl sl2 (by simp)) ⟨ho, ho2, h0 rfl⟩
  · by_cases hw : ws = []
    · exact iconcat_meets ⟨_, ho, rfl⟩ ⟨_, ho2, rfl⟩ noiadd_tuple noFill_tuple_add seq_tuple_add PySem.F.slot_tuple_add PySem.F.entry_tuple_add (PySem.F.args_tuple_add_2 _ _)
        (tuple_addW1 t b vs.toArray ws.toArray n n2 dd dd2 sl sl2 (by simpa using hv) (by simp [hw])) ⟨ho, ho2, h1 hv hw⟩
    · refine iconcat_meets ⟨_, ho, rfl⟩ ⟨_, ho2, rfl⟩ noiadd_tuple noFill_tuple_add seq_tuple_add PySem.F.slot_tuple_add PySem.F.entry_tuple_add (PySem.F.args_tuple_add_2 _ _)
        (tuple_addW2 t b vs.toArray ws.toArray n n2 dd dd2 sl sl2 (by simpa using hv) (by simpa using hw) (by rw [List.size_toArray, List.size_toArray]; exact hsz)) ⟨ho, ho2, ?_⟩
      rw [e]
      exact h2 hv hw
end
end HT
namespace L2
open PySem PySem.Spec PyProof.Rows
section
variable {X : Cx}
/-- t += u, tuples -/
theorem ip_catA : PIp X .Add (rCatA X.K) := by
  intro pins s σ H x y v u Q I rx ry h
  obtain ⟨a, b, xs, ys, rfl, rfl, ha, hb, hz, q0, q1, q2⟩ := h
  cases rx
  cases ry
  obtain ⟨its, r1, p1, _⟩ := I.tuple ha
  obtain ⟨its2, r2, p2, _⟩ := I.tuple hb
  refine HT.icat_tup p1 p2 (fun z => ⟨.ref b, H, I, rfl, q0 (r1.nil_iff.mp z)⟩) (fun z z2 => ⟨.ref a, H, I, rfl, q1 (fun e => z (r1.nil_iff.mpr e)) (r2.nil_iff.mp z2)⟩) (fun z1 z => ?_) (by rw [← r1.length, ← r2.length]; exact hz)
  refine ⟨.ref s.heap.objs.size, _, I.laid (t' := s.toks) (o := .tup (xs ++ ys)) (fun b ob q => Heap.get?_push_of_some _ q) (Nat.le_refl _) ?_, rfl, q2 (fun e => z1 (r1.nil_iff.mpr e)) (fun w => z (r2.nil_iff.mpr w)) _ (I.hok.fresh (Nat.le_refl _))⟩
  exact ⟨by rw [List.length_append]; exact hz, _, r1.append r2, IsTup.new _ _⟩
end
end L2
end
section
set_option linter.all false
set_option maxRecDepth 100000
set_option Elab.async false
/-! DI7: the other pieces of an expression. -/
namespace DI
open PySem PySem.Spec PyProof.Rows L2
section
variable {G : Gm} {call : CF} {xn : Str → List Str} {X : Cx} {W : WX} {C : Addr → Prop} {ad : Nat → Addr} {σ : L2.St} {ρ : Ro} {F H : Hp} {m a b c : ME} {e x y z : Expr}
theorem asD_sd {T : (V → Hp → Prop) → Prop} {out : Out Res} (k : Sd X xn W C ad σ F H out (fun r Hs F' H' ρ' (v : V) => ResOk X.K C ad Hs F' H' ρ' r v) T) :
    Sd X xn W C ad σ F H (asD out) (fun d _ F' _ _ (v : V) => Rep X.K F' d v) T := by
  unfold asD
  cases out with
  | no => trivial
  | ex c fs ρ' => exact k
  | ok r ρ' =>
    cases r with
    | var i => trivial
    | dat d => exact fun Q q => k Q fun v F' H' s e' r => q v F' H' s e' r
    | new l =>
      intro Q q
      refine k Q fun v F' H' s e' r => ?_
      obtain ⟨F1, l1, e1, s1, r1⟩ := frz e' s r
      exact q v F1 H' s1 e1 r1
theorem SE.v (h : SE G call xn X m e) (tk : Takes X W) (en : EnvOk X.K C ad F H σ ρ) : Sd X xn W C ad σ F H (asT (ev G call m ρ)) (fun b _ _ _ _ (v : V) => v = V.bl b) (fun Q => We X e σ H Q) := asT_sd (h W C ad σ ρ F H tk en)
theorem SE.dd (h : SE G call xn X m e) (tk : Takes X W) (en : EnvOk X.K C ad F H σ ρ) : Sd X xn W C ad σ F H (asD (ev G call m ρ)) (fun d _ F' _ _ (v : V) => Rep X.K F' d v) (fun Q => We X e σ H Q) := asD_sd (h W C ad σ ρ F H tk en)
abbrev RR (K : PySem.W.Frag) (C : Addr → Prop) (ad : Nat → Addr) : Res → Hp → Hp → Hp → Ro → V → Prop := fun r Hs F' H' ρ' v => ResOk K C ad Hs F' H' ρ' r v
/-- a bool as a result -/
theorem fin_b {b : Bool} {T : (V → Hp → Prop) → Prop} (en : EnvOk X.K C ad F H σ ρ) (k : ∀ Q : VK, Q (V.bl b) H → T Q) : Sd X xn W C ad σ F H (Out.ok (Res.dat (D.bl b)) ρ) (RR X.K C ad) T :=
  fun Q q => k Q (q _ F H en.stp en (show Rep X.K F (.bl b) _ from Rep.bl.mpr rfl))

theorem sb_ch {o o' : Cp} (xo : XOk G call xn X) (hp : plainE z = true) (ha : SE G call xn X a x) (hb : SE G call xn X b y) (hc : SE G call xn X c z) {p : Pos} :
    SB G call xn X (.ch o o' a b c) (.Compare x [cpOf o, cpOf o'] [y, z] p) := by
  refine ⟨_, pe_chain rop_ok rop_ok pe_we pe_we pe_we (last_plain hp), pt_chain rop_ok rop_ok pe_we pe_we pe_we (last_plain hp), ?_⟩
  intro W C ad σ ρ F H tk en
  have hu : X.A.units + 64 < cLine := by have := xo.un; omega
  unfold ev
  refine Sd.imp (T := fun Q => We X x σ H fun v H1 => We X y σ H1 fun u H2 => rop X (compareOp (cpOf o)) v u H2 fun w H3 => ∃ k, w = V.bl k ∧ (if k = true then We X z σ H3 fun w' H4 => rop X (compareOp (cpOf o')) u w' H4 Q else Q (V.bl false) H3)) ?_ fun Q q => q
  refine Sd.bind (ha W C ad σ ρ F H tk en) (fun r1 ρ1 v F1 H1 s1 e1 h1 => ?_) monoR
  refine Sd.bind (hb W C ad σ ρ1 F1 H1 tk e1) (fun r2 ρ2 u F2 H2 s2 e2 h2 => ?_) monoR
  cases l1 : look ρ2 r1 with
  | none => trivial
  | some dx =>
    cases l2 : look ρ2 r2 with
    | none => trivial
    | some dy =>
      show Sd X xn W C ad σ F2 H2 ((ofO (cmpD o dx dy) ρ2).bind _) _ _
      cases hk : cmpD o dx dy with
      | none => trivial
      | some t =>
        have hx := (h1.go s2).look e2 l1
        have hy := h2.look e2 l2
        cases t with
        | false =>
          show Sd X xn W C ad σ F2 H2 (Out.ok (Res.dat (D.bl false)) ρ2) _ _
          exact fin_b e2 fun Q q => cmp_ok hu e2.le hx hy hk ⟨false, rfl, q⟩
        | true =>
          refine Sd.imp (T := fun Q => We X z σ H2 fun w' H4 => rop X (compareOp (cpOf o')) u w' H4 Q) ?_ fun Q q => cmp_ok hu e2.le hx hy hk ⟨true, rfl, q⟩
          show Sd X xn W C ad σ F2 H2 ((ev G call c ρ2).bind _) _ _
          refine Sd.bind (hc W C ad σ ρ2 F2 H2 tk e2) (fun r3 ρ3 w F3 H3 s3 e3 h3 => ?_) monoR
          exact fin2 (f := fun x y => (cmpD o' x y).map fun b => Res.dat (.bl b)) e3 (h2.go s3) h3 fun dx dy r hx hy hr Q q => by
            obtain ⟨b, hb, rfl⟩ := map_bl hr
            exact cmp_ok hu e3.le hx hy hb (q _ F3 H3 e3.stp e3 (show Rep X.K F3 (.bl b) _ from Rep.bl.mpr rfl))
theorem sb_ch4 {o o' o2 : Cp} {d : ME} {w : Expr} (xo : XOk G call xn X) (hp : plainE w = true) (ha : SE G call xn X a x) (hb : SE G call xn X b y) (hc : SE G call xn X c z) (hd : SE G call xn X d w) {p : Pos} :
    SB G call xn X (.ch4 o o' o2 a b c d) (.Compare x [cpOf o, cpOf o', cpOf o2] [y, z, w] p) := by
  refine ⟨_, pe_chain3 rop_ok rop_ok rop_ok pe_we pe_we pe_we pe_we (last_plain4 hp), pt_chain3 rop_ok rop_ok rop_ok pe_we pe_we pe_we pe_we (last_plain4 hp), ?_⟩
  intro W C ad σ ρ F H tk en
  have hu : X.A.units + 64 < cLine := by have := xo.un; omega
  unfold ev
  refine Sd.imp (T := fun Q => We X x σ H fun v H1 => We X y σ H1 fun u H2 => rop X (compareOp (cpOf o)) v u H2 fun w1 H3 => ∃ k, w1 = V.bl k ∧ (if k = true then We X z σ H3 fun w' H4 => rop X (compareOp (cpOf o')) u w' H4 fun z' H5 => ∃ k', z' = V.bl k' ∧ (if k' = true then We X w σ H5 fun w2 H6 => rop X (compareOp (cpOf o2)) w' w2 H6 Q else Q (V.bl false) H5) else Q (V.bl false) H3)) ?_ fun Q q => q
  refine Sd.bind (ha W C ad σ ρ F H tk en) (fun r1 ρ1 v F1 H1 s1 e1 h1 => ?_) monoR
  refine Sd.bind (hb W C ad σ ρ1 F1 H1 tk e1) (fun r2 ρ2 u F2 H2 s2 e2 h2 => ?_) monoR
  cases l1 : look ρ2 r1 with
  | none => trivial
  | some dx =>
    cases l2 : look ρ2 r2 with
    | none => trivial
    | some dy =>
      show Sd X xn W C ad σ F2 H2 ((ofO (cmpD o dx dy) ρ2).bind _) _ _
      cases hk : cmpD o dx dy with
      | none => trivial
      | some t =>
        have hx := (h1.go s2).look e2 l1
        have hy := h2.look e2 l2
        cases t with
        | false =>
          show Sd X xn W C ad σ F2 H2 (Out.ok (Res.dat (D.bl false)) ρ2) _ _
          exact fin_b e2 fun Q q => cmp_ok hu e2.le hx hy hk ⟨false, rfl, q⟩
        | true =>
          refine Sd.imp (T := fun Q => We X z σ H2 fun w' H4 => rop X (compareOp (cpOf o')) u w' H4 fun z' H5 => ∃ k', z' = V.bl k' ∧ (if k' = true then We X w σ H5 fun w2 H6 => rop X (compareOp (cpOf o2)) w' w2 H6 Q else Q (V.bl false) H5)) ?_ fun Q q => cmp_ok hu e2.le hx hy hk ⟨true, rfl, q⟩
          show Sd X xn W C ad σ F2 H2 ((ev G call c ρ2).bind _) _ _
          refine Sd.bind (hc W C ad σ ρ2 F2 H2 tk e2) (fun r3 ρ3 w' F3 H3 s3 e3 h3 => ?_) monoR
          cases l3 : look ρ3 r2 with
          | none => trivial
          | some dy' =>
            cases l4 : look ρ3 r3 with
            | none => trivial
            | some dz =>
              show Sd X xn W C ad σ F3 H3 ((ofO (cmpD o' dy' dz) ρ3).bind _) _ _
              cases hk2 : cmpD o' dy' dz with
              | none => trivial
              | some t2 =>
                have hy' := (h2.go (ρ' := ρ3) s3).look e3 l3
                have hz := h3.look e3 l4
                cases t2 with
                | false =>
                  show Sd X xn W C ad σ F3 H3 (Out.ok (Res.dat (D.bl false)) ρ3) _ _
                  exact fin_b e3 fun Q q => cmp_ok hu e3.le hy' hz hk2 ⟨false, rfl, q⟩
                | true =>
                  refine Sd.imp (T := fun Q => We X w σ H3 fun w2 H6 => rop X (compareOp (cpOf o2)) w' w2 H6 Q) ?_ fun Q q => cmp_ok hu e3.le hy' hz hk2 ⟨true, rfl, q⟩
                  show Sd X xn W C ad σ F3 H3 ((ev G call d ρ3).bind _) _ _
                  refine Sd.bind (hd W C ad σ ρ3 F3 H3 tk e3) (fun r4 ρ4 w2 F4 H4 s4 e4 h4 => ?_) monoR
                  exact fin2 (f := fun x y => (cmpD o2 x y).map fun b => Res.dat (.bl b)) e4 (h3.go s4) h4 fun dx dy r hx hy hr Q q => by
                    obtain ⟨b, hb, rfl⟩ := map_bl hr
                    exact cmp_ok hu e4.le hx hy hb (q _ F4 H4 e4.stp e4 (show Rep X.K F4 (.bl b) _ from Rep.bl.mpr rfl))
/-! ### slices -/
theorem asI_sd {T : (V → Hp → Prop) → Prop} {out : Out Res} (k : Sd X xn W C ad σ F H out (fun r Hs F' H' ρ' (v : V) => ResOk X.K C ad Hs F' H' ρ' r v) T) :
    Sd X xn W C ad σ F H (asI out) (fun i _ _ _ _ (o : Option Int) => o = some i) (fun Q => T fun x H' => ∃ i, x = V.int i ∧ Q (some i) H') := by
  unfold asI
  cases out with
  | no => trivial
  | ex c fs ρ' => exact fun q Q => k q _
  | ok r ρ' =>
    cases r with
    | dat d =>
      cases d with
      | int i => exact fun Q q => k _ fun v F' H' s e' r => ⟨i, Rep.int.mp (show Rep X.K F' (.int i) v from r), q _ F' H' s e' rfl⟩
      | _ => trivial
    | _ => trivial
theorem fin1 {r1 : Res} {v : V} {Hs1 : Hp} {f : D → Option Res} {T : (V → Hp → Prop) → Prop} (en : EnvOk X.K C ad F H σ ρ) (h1 : ResOk X.K C ad Hs1 F H ρ r1 v)
    (k : ∀ dx r, RepB X.K F H dx v → f dx = some r → ∀ Q : VK, Fin X C ad F H σ ρ r Q → T Q) :
    Sd X xn W C ad σ F H (match look ρ r1 with | some x => ofO (f x) ρ | none => .no) (RR X.K C ad) T := by
  cases e1 : look ρ r1 with
  | none => trivial
  | some dx =>
    show Sd X xn W C ad σ F H (ofO (f dx) ρ) _ T
    cases e3 : f dx with
    | none => trivial
    | some r => exact fun Q q => k dx r (h1.look en e1) e3 Q q
theorem se_slB {l h : ME} {y z : Expr} {p p2 : Pos} (ha : SE G call xn X a x) (hl : SE G call xn X l y) (hh : SE G call xn X h z) : SE G call xn X (.slB a l h) (.Subscript x (.Slice (some y) (some z) none p2) p) := by
  intro W C ad σ ρ F H tk en
  unfold ev
  refine Sd.imp (T := fun Q => We X x σ H fun v H1 => We X y σ H1 fun l H2 => ∃ i, l = V.int i ∧ We X z σ H2 fun u H3 => ∃ j, u = V.int j ∧ rsl X v (some i) (some j) H3 Q) ?_ fun Q q => We.of (pe_slice rsl_ok pe_we (po_some pe_we) (po_some pe_we)) q
  refine Sd.bind (T2 := fun v H1 Q => We X y σ H1 fun l H2 => ∃ i, l = V.int i ∧ We X z σ H2 fun u H3 => ∃ j, u = V.int j ∧ rsl X v (some i) (some j) H3 Q) (ha W C ad σ ρ F H tk en) (fun r1 ρ1 v F1 H1 s1 e1 h1 => ?_) monoR
  refine Sd.bind (T := fun Q => We X y σ H1 fun x H' => ∃ i, x = V.int i ∧ Q (some i) H') (T2 := fun (o : Option Int) H2 Q => We X z σ H2 fun u H3 => ∃ j, u = V.int j ∧ rsl X v o (some j) H3 Q) (asI_sd (hl W C ad σ ρ1 F1 H1 tk e1)) (fun i ρ2 o F2 H2 s2 e2 h2 => ?_) monoR
  refine Sd.bind (T := fun Q => We X z σ H2 fun x H' => ∃ i, x = V.int i ∧ Q (some i) H') (T2 := fun (o' : Option Int) H3 Q => rsl X v o o' H3 Q) (asI_sd (hh W C ad σ ρ2 F2 H2 tk e2)) (fun j ρ3 o' F3 H3 s3 e3 h3 => ?_) monoR
  subst h2 h3
  exact fin1 (f := fun x => slD x (some i) (some j)) e3 ((h1.go (ρ' := ρ3) s2).go s3) fun dx r hx hr Q q => sl_ok e3 hx hr q
theorem se_slF {l : ME} {y : Expr} {p p2 : Pos} (ha : SE G call xn X a x) (hl : SE G call xn X l y) : SE G call xn X (.slF a l) (.Subscript x (.Slice (some y) none none p2) p) := by
  intro W C ad σ ρ F H tk en
  unfold ev
  refine Sd.imp (T := fun Q => We X x σ H fun v H1 => We X y σ H1 fun l H2 => ∃ i, l = V.int i ∧ rsl X v (some i) none H2 Q) ?_ fun Q q => We.of (pe_slice rsl_ok pe_we (po_some pe_we) po_none) q
  refine Sd.bind (T2 := fun v H1 Q => We X y σ H1 fun l H2 => ∃ i, l = V.int i ∧ rsl X v (some i) none H2 Q) (ha W C ad σ ρ F H tk en) (fun r1 ρ1 v F1 H1 s1 e1 h1 => ?_) monoR
  refine Sd.bind (T := fun Q => We X y σ H1 fun x H' => ∃ i, x = V.int i ∧ Q (some i) H') (T2 := fun (o : Option Int) H2 Q => rsl X v o none H2 Q) (asI_sd (hl W C ad σ ρ1 F1 H1 tk e1)) (fun i ρ2 o F2 H2 s2 e2 h2 => ?_) monoR
  subst h2
  exact fin1 (f := fun x => slD x (some i) none) e2 (h1.go (ρ' := ρ2) s2) fun dx r hx hr Q q => sl_ok e2 hx hr q
theorem se_slT {l : ME} {y : Expr} {p p2 : Pos} (ha : SE G call xn X a x) (hl : SE G call xn X l y) : SE G call xn X (.slT a l) (.Subscript x (.Slice none (some y) none p2) p) := by
  intro W C ad σ ρ F H tk en
  unfold ev
  refine Sd.imp (T := fun Q => We X x σ H fun v H1 => We X y σ H1 fun l H2 => ∃ i, l = V.int i ∧ rsl X v none (some i) H2 Q) ?_ fun Q q => We.of (pe_slice rsl_ok pe_we po_none (po_some pe_we)) q
  refine Sd.bind (T2 := fun v H1 Q => We X y σ H1 fun l H2 => ∃ i, l = V.int i ∧ rsl X v none (some i) H2 Q) (ha W C ad σ ρ F H tk en) (fun r1 ρ1 v F1 H1 s1 e1 h1 => ?_) monoR
  refine Sd.bind (T := fun Q => We X y σ H1 fun x H' => ∃ i, x = V.int i ∧ Q (some i) H') (T2 := fun (o : Option Int) H2 Q => rsl X v none o H2 Q) (asI_sd (hl W C ad σ ρ1 F1 H1 tk e1)) (fun i ρ2 o F2 H2 s2 e2 h2 => ?_) monoR
  subst h2
  exact fin1 (f := fun x => slD x none (some i)) e2 (h1.go (ρ' := ρ2) s2) fun dx r hx hr Q q => sl_ok e2 hx hr q

/-! ### displays -/
theorem sl_nil : SL G call xn X .nil [] := by
  intro W C ad σ ρ F H tk en
  unfold evDs
  exact fun Q q => Wa.of pa_nil (q [] F H en.stp en ⟨Reps.nil, Nat.zero_le _⟩)
theorem sl_cons {ms : MEs} {es : List Expr} (hp : plainE x = true) (ha : SE G call xn X a x) (hb : SL G call xn X ms es) : SL G call xn X (.cons a ms) (x :: es) := by
  intro W C ad σ ρ F H tk en
  unfold evDs
  refine Sd.imp (T := fun Q => We X x σ H fun v H1 => Wa X es σ H1 fun vs H2 => Q (v :: vs) H2) ?_ fun Q q => Wa.of (pa_cons pe_we pa_wa (star_plain hp)) q
  refine Sd.bind (T2 := fun v H1 Q => Wa X es σ H1 fun vs H2 => Q (v :: vs) H2) (ha.dd tk en) (fun d ρ1 v F1 H1 s1 e1 h1 => ?_) fun _ _ _ _ _ _ _ _ r => r
  refine Sd.bind (T := fun Q => Wa X es σ H1 Q) (T2 := fun vs H2 Q => Q (v :: vs) H2) (hb W C ad σ ρ1 F1 H1 tk e1) (fun ds ρ2 vs F2 H2 s2 e2 h2 => ?_) fun _ _ _ _ _ _ _ _ r => r
  by_cases hz : ds.length < LIM
  · rw [if_pos hz]
    exact fun Q q => q _ F2 H2 e2.stp e2 ⟨Reps.cons (Rep.le s2.le _ _ h1) h2.1, hz⟩
  · rw [if_neg hz]; trivial
theorem se_tup {ms : MEs} {es : List Expr} {k : Nat} {p : Pos} (h : SL G call xn X ms es) : SE G call xn X (.tup ms) (.Tuple es k p) := by
  intro W C ad σ ρ F H tk en
  unfold ev
  refine Sd.imp (T := fun Q => Wa X es σ H fun xs H1 => xs.length ≤ sizeLine ∧ ∀ p, H1 p = none → Q (V.ref p) (upd H1 p (.tup xs))) ?_ fun Q q => We.of (pe_tup pa_wa) q
  refine Sd.bind (T2 := fun xs H1 Q => xs.length ≤ sizeLine ∧ ∀ p, H1 p = none → Q (V.ref p) (upd H1 p (.tup xs))) (h W C ad σ ρ F H tk en) (fun ds ρ1 vs F1 H1 s1 e1 h1 => ?_) monoR
  intro Q q
  refine ⟨by rw [h1.1.len]; exact Nat.le_trans h1.2 lim_line, fun p n => ?_⟩
  exact q _ _ _ (e1.stpF n) (e1.frozen n) (show Rep X.K _ (.tup ds) _ from Rep.tup.mpr ⟨p, vs, rfl, SqT.of upd_same, Reps.le (le_upd0 (e1.F_none n)) _ _ h1.1⟩)
theorem se_lis {ms : MEs} {es : List Expr} {p : Pos} (h : SL G call xn X ms es) : SE G call xn X (.lis ms) (.List es p) := by
  intro W C ad σ ρ F H tk en
  unfold ev
  refine Sd.imp (T := fun Q => Wa X es σ H fun xs H1 => xs.length ≤ sizeLine ∧ ∀ p, H1 p = none → Q (V.ref p) (upd H1 p (.lst xs))) ?_ fun Q q => We.of (pe_lst pa_wa) q
  refine Sd.bind (T2 := fun xs H1 Q => xs.length ≤ sizeLine ∧ ∀ p, H1 p = none → Q (V.ref p) (upd H1 p (.lst xs))) (h W C ad σ ρ F H tk en) (fun ds ρ1 vs F1 H1 s1 e1 h1 => ?_) monoR
  intro Q q
  refine ⟨by rw [h1.1.len]; exact Nat.le_trans h1.2 lim_line, fun p n => ?_⟩
  exact q _ _ _ (e1.stpN n) (e1.fresh n) ⟨p, vs, rfl, n, e1.notC n, e1.F_none n, upd_same, h1.1⟩

/-! ### and, or, not, if -/
theorem se_nt {p : Pos} (ha : SE G call xn X a x) : SE G call xn X (.nt a) (.UnaryOp .Not x p) := by
  intro W C ad σ ρ F H tk en
  unfold ev
  refine Sd.imp (T := fun Q => We X x σ H fun v H1 => ∃ c, v = V.bl c ∧ Q (V.bl (!c)) H1) ?_ fun Q q => We.of (pe_not pe_we) q
  refine Sd.bind (T2 := fun v H1 Q => ∃ c, v = V.bl c ∧ Q (V.bl (!c)) H1) (ha.v tk en) (fun b ρ1 v F1 H1 s1 e1 h1 => ?_) monoR
  subst h1
  exact fin_b e1 fun Q q => ⟨b, rfl, q⟩
theorem se_and {r : List Expr} {p : Pos} (ha : SE G call xn X a x) (hb : SE G call xn X b (.BoolOp .And (y :: r) p)) : SE G call xn X (.and a b) (.BoolOp .And (x :: y :: r) p) := by
  intro W C ad σ ρ F H tk en
  unfold ev
  refine Sd.imp (T := fun Q => We X x σ H fun v H1 => ∃ c, v = V.bl c ∧ if c = true then We X (.BoolOp .And (y :: r) p) σ H1 Q else Q (V.bl false) H1) ?_ fun Q q => We.of (pe_and pe_we pe_we) q
  refine Sd.bind (T2 := fun v H1 Q => ∃ c, v = V.bl c ∧ if c = true then We X (.BoolOp .And (y :: r) p) σ H1 Q else Q (V.bl false) H1) (ha.v tk en) (fun t ρ1 v F1 H1 s1 e1 h1 => ?_) monoR
  subst h1
  cases t with
  | false =>
    rw [if_neg Bool.false_ne_true]
    exact fin_b e1 fun Q q => ⟨false, rfl, by rw [if_neg Bool.false_ne_true]; exact q⟩
  | true =>
    rw [if_pos rfl]
    refine Sd.imp (T := fun Q => We X (.BoolOp .And (y :: r) p) σ H1 Q) ?_ fun Q q => ⟨true, rfl, by rw [if_pos rfl]; exact q⟩
    refine Sd.bind (T2 := fun v H2 Q => Q v H2) (hb.v tk e1) (fun t ρ2 v F2 H2 s2 e2 h2 => ?_) monoR
    subst h2
    exact fin_b e2 fun Q q => q
theorem se_or {r : List Expr} {p : Pos} (ha : SE G call xn X a x) (hb : SE G call xn X b (.BoolOp .Or (y :: r) p)) : SE G call xn X (.or a b) (.BoolOp .Or (x :: y :: r) p) := by
  intro W C ad σ ρ F H tk en
  unfold ev
  refine Sd.imp (T := fun Q => We X x σ H fun v H1 => ∃ c, v = V.bl c ∧ if c = true then Q (V.bl true) H1 else We X (.BoolOp .Or (y :: r) p) σ H1 Q) ?_ fun Q q => We.of (pe_or pe_we pe_we) q
  refine Sd.bind (T2 := fun v H1 Q => ∃ c, v = V.bl c ∧ if c = true then Q (V.bl true) H1 else We X (.BoolOp .Or (y :: r) p) σ H1 Q) (ha.v tk en) (fun t ρ1 v F1 H1 s1 e1 h1 => ?_) monoR
  subst h1
  cases t with
  | true =>
    rw [if_pos rfl]
    exact fin_b e1 fun Q q => ⟨true, rfl, by rw [if_pos rfl]; exact q⟩
  | false =>
    rw [if_neg Bool.false_ne_true]
    refine Sd.imp (T := fun Q => We X (.BoolOp .Or (y :: r) p) σ H1 Q) ?_ fun Q q => ⟨false, rfl, by rw [if_neg Bool.false_ne_true]; exact q⟩
    refine Sd.bind (T2 := fun v H2 Q => Q v H2) (hb.v tk e1) (fun t ρ2 v F2 H2 s2 e2 h2 => ?_) monoR
    subst h2
    exact fin_b e2 fun Q q => q
theorem SE.one {op : BoolOp} {p : Pos} (h : SE G call xn X b y) : SE G call xn X b (.BoolOp op [y] p) := fun W C ad σ ρ F H tk en => Sd.imp (h W C ad σ ρ F H tk en) fun Q q => We.of (pe_one pe_we) q
theorem se_ife {p : Pos} (hc : ST G call xn X c z) (ha : SE G call xn X a x) (hb : SE G call xn X b y) : SE G call xn X (.ife c a b) (.IfExp z x y p) := by
  intro W C ad σ ρ F H tk en
  unfold ev
  refine Sd.imp (T := fun Q => Wt X z σ H fun t H1 => if t = true then We X x σ H1 Q else We X y σ H1 Q) ?_ fun Q q => We.of (pe_ifExp pt_wt pe_we pe_we) q
  refine Sd.bind (T2 := fun (t : Bool) H1 Q => if t = true then We X x σ H1 Q else We X y σ H1 Q) (hc W C ad σ ρ F H tk en) (fun t ρ1 v F1 H1 s1 e1 h1 => ?_) monoR
  subst h1
  cases v with
  | true => rw [if_pos rfl]; exact Sd.imp (ha W C ad σ ρ1 F1 H1 tk e1) fun Q q => by rw [if_pos rfl]; exact q
  | false => rw [if_neg Bool.false_ne_true]; exact Sd.imp (hb W C ad σ ρ1 F1 H1 tk e1) fun Q q => by rw [if_neg Bool.false_ne_true]; exact q
/-! ### tests -/
theorem asT_bl {out : Out Bool} : asT (out.bind fun b ρ => .ok (.dat (.bl b)) ρ) = out := by
  unfold asT
  cases out <;> rfl
theorem st_nt {p : Pos} (ha : ST G call xn X a x) : ST G call xn X (.nt a) (.UnaryOp .Not x p) := by
  intro W C ad σ ρ F H tk en
  unfold ev
  have e0 : asT ((asT (ev G call a ρ)).bind fun b ρ => .ok (.dat (.bl (!b))) ρ) = (asT (ev G call a ρ)).bind fun b ρ => .ok (!b) ρ := by
    cases asT (ev G call a ρ) <;> rfl
  rw [e0]
  refine Sd.imp (T := fun Q => Wt X x σ H fun c H1 => Q (!c) H1) ?_ fun Q q => Wt.of (pt_not pt_wt) q
  refine Sd.bind (T2 := fun (c : Bool) H1 (Q : Bool → Hp → Prop) => Q (!c) H1) (ha W C ad σ ρ F H tk en) (fun b ρ1 v F1 H1 s1 e1 h1 => ?_) fun _ _ _ _ _ _ _ _ r => r
  subst h1
  exact fun Q q => q _ F1 H1 e1.stp e1 rfl
theorem and_asT {a b : ME} : asT (ev G call (.and a b) ρ) = (asT (ev G call a ρ)).bind fun t ρ => if t = true then asT (ev G call b ρ) else .ok false ρ := by
  rw [show ev G call (.and a b) ρ = (asT (ev G call a ρ)).bind fun t ρ => if t = true then (asT (ev G call b ρ)).bind fun t ρ => .ok (.dat (.bl t)) ρ else .ok (.dat (.bl false)) ρ from by rw [ev]]
  cases asT (ev G call a ρ) with
  | no => rfl
  | ex => rfl
  | ok t ρ1 =>
    cases t with
    | false => rfl
    | true => exact asT_bl
theorem or_asT {a b : ME} : asT (ev G call (.or a b) ρ) = (asT (ev G call a ρ)).bind fun t ρ => if t = true then .ok true ρ else asT (ev G call b ρ) := by
  rw [show ev G call (.or a b) ρ = (asT (ev G call a ρ)).bind fun t ρ => if t = true then .ok (.dat (.bl true)) ρ else (asT (ev G call b ρ)).bind fun t ρ => .ok (.dat (.bl t)) ρ from by rw [ev]]
  cases asT (ev G call a ρ) with
  | no => rfl
  | ex => rfl
  | ok t ρ1 =>
    cases t with
    | true => rfl
    | false => exact asT_bl
theorem sw_and {r : List Expr} {p : Pos} (ha : ST G call xn X a x) (hb : SW G call xn X b (.BoolOp .And (y :: r) p)) : SW G call xn X (.and a b) (.BoolOp .And (x :: y :: r) p) := by
  intro W C ad σ ρ F H tk en
  rw [and_asT]
  refine Sd.imp (T := fun Q => Wt X x σ H fun t H1 => if t = true then Ww X (.BoolOp .And (y :: r) p) σ H1 Q else Q false H1) ?_ fun Q q => Ww.of (pw_and pt_wt pw_ww) q
  refine Sd.bind (T2 := fun (t : Bool) H1 (Q : Bool → Hp → Prop) => if t = true then Ww X (.BoolOp .And (y :: r) p) σ H1 Q else Q false H1) (ha W C ad σ ρ F H tk en) (fun t ρ1 v F1 H1 s1 e1 h1 => ?_) fun _ _ _ _ _ _ _ _ r => r
  subst h1
  cases v with
  | true => rw [if_pos rfl]; exact Sd.imp (hb W C ad σ ρ1 F1 H1 tk e1) fun Q q => by rw [if_pos rfl]; exact q
  | false => rw [if_neg Bool.false_ne_true]; exact Sd.imp (T := fun Q => Q false H1) (fun Q q => q _ F1 H1 e1.stp e1 rfl) fun Q q => by rw [if_neg Bool.false_ne_true]; exact q
theorem sw_or {r : List Expr} {p : Pos} (ha : ST G call xn X a x) (hb : SW G call xn X b (.BoolOp .Or (y :: r) p)) : SW G call xn X (.or a b) (.BoolOp .Or (x :: y :: r) p) := by
  intro W C ad σ ρ F H tk en
  rw [or_asT]
  refine Sd.imp (T := fun Q => Wt X x σ H fun t H1 => if t = true then Q true H1 else Ww X (.BoolOp .Or (y :: r) p) σ H1 Q) ?_ fun Q q => Ww.of (pw_or pt_wt pw_ww) q
  refine Sd.bind (T2 := fun (t : Bool) H1 (Q : Bool → Hp → Prop) => if t = true then Q true H1 else Ww X (.BoolOp .Or (y :: r) p) σ H1 Q) (ha W C ad σ ρ F H tk en) (fun t ρ1 v F1 H1 s1 e1 h1 => ?_) fun _ _ _ _ _ _ _ _ r => r
  subst h1
  cases v with
  | true => rw [if_pos rfl]; exact Sd.imp (T := fun Q => Q true H1) (fun Q q => q _ F1 H1 e1.stp e1 rfl) fun Q q => by rw [if_pos rfl]; exact q
  | false => rw [if_neg Bool.false_ne_true]; exact Sd.imp (hb W C ad σ ρ1 F1 H1 tk e1) fun Q q => by rw [if_neg Bool.false_ne_true]; exact q
theorem ST.and1 {p : Pos} (h : ST G call xn X b y) : SW G call xn X b (.BoolOp .And [y] p) := fun W C ad σ ρ F H tk en => Sd.imp (h W C ad σ ρ F H tk en) fun Q q => Ww.of (pw_and1 pt_wt) q
theorem ST.or1 {p : Pos} (h : ST G call xn X b y) : SW G call xn X b (.BoolOp .Or [y] p) := fun W C ad σ ρ F H tk en => Sd.imp (h W C ad σ ρ F H tk en) fun Q q => Ww.of (pw_or1 pt_wt) q
theorem SW.st (h : SW G call xn X m e) : ST G call xn X m e := fun W C ad σ ρ F H tk en => Sd.imp (h W C ad σ ρ F H tk en) fun Q q => Wt.of pw_ww.pt q
/-! ### built-in functions, isinstance -/
theorem se_blt {f : Bl} {n p : Pos} (xo : XOk G call xn X) (hh : blHard f = false ∨ ∀ {C : Addr → Prop} {ad : Nat → Addr} {F H : Hp} {σ : L2.St} {ρ : Ro} {v : V} {d : D} {r : Res} {Q : VK}, EnvOk X.K C ad F H σ ρ → RepB X.K F H d v → bltR f d = some r → Fin X C ad F H σ ρ r Q → rcl X (blVal f) [v] H Q) (hp : plainE x = true) (hg : glb X.env.scope (blName f) = true) (ha : SE G call xn X a x) : SE G call xn X (.blt f a) (.Call (.Name (blName f) n) [x] [] p) := by
  intro W C ad σ ρ F H tk en
  obtain ⟨g1, g2, g3⟩ := glb_ok hg
  have hm := xo.blt f
  unfold ev
  refine Sd.imp (T := fun Q => We X x σ H fun v H1 => rcl X (blVal f) [v] H1 Q) ?_ fun Q q => ?_
  · refine Sd.bind (T2 := fun v H1 Q => rcl X (blVal f) [v] H1 Q) (ha W C ad σ ρ F H tk en) (fun r1 ρ1 v F1 H1 s1 e1 h1 => ?_) monoR
    exact fin1 (f := fun x => bltR f x) e1 h1 fun dx r hx hr Q q => hh.elim (fun hh => blt_ok (by have := xo.un; omega) xo.calm hh e1 hx hr q) fun hh => hh e1 hx hr q
  · have ty : ∀ T : String, blVal f = .type T → bootBuiltins (blName f) = some (.type T) → We X (.Call (.Name (blName f) n) [x] [] p) σ H Q := fun T e1 e2 =>
      We.of (pe_callTy (rcl_ok (f := .type T)) g1 hm e2 (pa_cons pe_we pa_nil (star_plain hp)) g3 g2 (star_plain hp) rfl) (by rw [e1] at q; exact q)
    have bi : ∀ T : String, blVal f = .builtin T → bootBuiltins (blName f) = some (.builtin T) → We X (.Call (.Name (blName f) n) [x] [] p) σ H Q := fun T e1 e2 =>
      We.of (pe_callB (rcl_ok (f := .builtin T)) g1 hm e2 (pa_cons pe_we pa_nil (star_plain hp)) g3 g2 (star_plain hp) rfl) (by rw [e1] at q; exact q)
    cases f with
    | int => exact ty "int" rfl (by decide +kernel)
    | list => exact ty "list" rfl (by decide +kernel)
    | tuple => exact ty "tuple" rfl (by decide +kernel)
    | len => exact bi "len" rfl (by decide +kernel)
    | abs => exact bi "abs" rfl (by decide +kernel)
    | min => exact bi "min" rfl (by decide +kernel)
    | max => exact bi "max" rfl (by decide +kernel)
    | sorted => exact bi "sorted" rfl (by decide +kernel)
    | repr => exact bi "repr" rfl (by decide +kernel)
    | all => exact bi "all" rfl (by decide +kernel)
    | any => exact bi "any" rfl (by decide +kernel)
    | sum => exact bi "sum" rfl (by decide +kernel)
    | rev => exact ty "reversed" rfl (by decide +kernel)
theorem reps_rev {K : PySem.W.Frag} {F : Hp} : ∀ {ds : List D} {vs : List V}, Reps K F ds vs → Reps K F ds.reverse vs.reverse
  | [], vs, r => by unfold Reps at r; subst r; exact Reps.nil
  | d :: ds, vs, r => by
    unfold Reps at r
    obtain ⟨v, q, rfl, h1, h2⟩ := r
    rw [List.reverse_cons, List.reverse_cons]
    exact (reps_rev h2).append (Reps.cons h1 Reps.nil)
/-- x[::-1] of a tuple -/
theorem se_rvt {k : Nat} {p1 p2 p3 p : Pos} (ha : SE G call xn X a x) : SE G call xn X (.sRvt a) (.Subscript x (.Slice none none (some (.UnaryOp .USub (.Constant (.int 1) k p1) p2)) p3) p) := by
  intro W C ad σ ρ F H tk en
  unfold ev
  refine Sd.imp (T := fun Q => We X x σ H fun v H1 => ∃ (a : Addr) (xs : List V), v = V.ref a ∧ SqT X.K H1 a xs ∧ ∀ q, H1 q = none → Q (V.ref q) (upd H1 q (.tup xs.reverse))) ?_ fun Q q => We.of (pe_revU pe_we) q
  refine Sd.bind (T2 := fun v H1 Q => ∃ (a : Addr) (xs : List V), v = V.ref a ∧ SqT X.K H1 a xs ∧ ∀ q, H1 q = none → Q (V.ref q) (upd H1 q (.tup xs.reverse))) (ha W C ad σ ρ F H tk en) (fun r1 ρ1 v F1 H1 s1 e1 h1 => ?_) monoR
  refine fin1 (f := revT) e1 h1 fun dx r hx hr Q q => ?_
  unfold revT at hr
  split at hr
  · cases hr
    obtain ⟨a, vs, rfl, h1, h2⟩ := hx.tup
    exact ⟨a, vs, rfl, SqT.le e1.le h1, fun p n => q _ _ _ (e1.stpF n) (e1.frozen n) (Rep.tup.mpr ⟨p, vs.reverse, rfl, SqT.of upd_same, Reps.le (le_upd0 (e1.F_none n)) _ _ (reps_rev h2)⟩)⟩
  · cases hr
/-- tuple(reversed(a list)) -/
theorem se_rev {n n2 p p2 : Pos} (xo : XOk G call xn X) (hp : plainE x = true) (hp2 : plainE (.Call (.Name "reversed" n2) [x] [] p2) = true) (hg : glb X.env.scope "tuple" = true) (hg2 : glb X.env.scope "reversed" = true) (ha : SE G call xn X a x) :
    SE G call xn X (.sRev a) (.Call (.Name "tuple" n) [.Call (.Name "reversed" n2) [x] [] p2] [] p) := by
  intro W C ad σ ρ F H tk en
  obtain ⟨g1, g2, g3⟩ := glb_ok hg
  obtain ⟨k1, k2, k3⟩ := glb_ok hg2
  have hm := xo.blt .tuple
  have hm2 := xo.blt .rev
  unfold ev
  refine Sd.imp (T := fun Q => We X x σ H fun v H1 => ∃ (a : Addr) (xs : List V), v = .ref a ∧ SqL X.K H1 a xs ∧ ∀ q, H1 q = none → Q (V.ref q) (upd H1 q (.tup xs.reverse))) ?_ fun Q q => We.of (RT.pe_tupRev xo.calm g1 hm k1 hm2 pe_we (star_plain hp) (star_plain hp2)) q
  refine Sd.bind (T2 := fun v H1 Q => ∃ (a : Addr) (xs : List V), v = .ref a ∧ SqL X.K H1 a xs ∧ ∀ q, H1 q = none → Q (V.ref q) (upd H1 q (.tup xs.reverse))) (ha W C ad σ ρ F H tk en) (fun r1 ρ1 v F1 H1 s1 e1 h1 => ?_) monoR
  refine fin1 (f := revR) e1 h1 fun dx r hx hr Q q => ?_
  unfold revR at hr
  split at hr
  · cases hr
    obtain ⟨a, vs, rfl, h1, h2⟩ := hx
    exact ⟨a, vs, rfl, .inl h1, fun p n => q _ _ _ (e1.stpF n) (e1.frozen n) (Rep.tup.mpr ⟨p, vs.reverse, rfl, SqT.of upd_same, Reps.le (le_upd0 (e1.F_none n)) _ _ (reps_rev h2)⟩)⟩
  · cases hr
/-- max of two ints -/
theorem se_max2 {n p : Pos} (xo : XOk G call xn X) (hp : plainE x = true) (hp2 : plainE y = true) (hg : glb X.env.scope "max" = true) (ha : SE G call xn X a x) (hb : SE G call xn X b y) : SE G call xn X (.max2 a b) (.Call (.Name "max" n) [x, y] [] p) := by
  intro W C ad σ ρ F H tk en
  obtain ⟨g1, g2, g3⟩ := glb_ok hg
  have hm := xo.blt .max
  unfold ev
  refine Sd.imp (T := fun Q => We X x σ H fun v H1 => We X y σ H1 fun u H2 => ∃ i j, [v, u] = [V.int i, V.int j] ∧ Q (V.int (if j > i then j else i)) H2) ?_ fun Q q =>
    We.of (pe_callB (call_max2 xo.calm) g1 hm (by decide +kernel) (pa_cons pe_we (pa_cons pe_we pa_nil (star_plain hp2)) (star_plain hp)) g3 g2 (star_plain hp) (by rw [star_plain hp2]; rfl)) q
  refine Sd.bind (T2 := fun v H1 Q => We X y σ H1 fun u H2 => ∃ i j, [v, u] = [V.int i, V.int j] ∧ Q (V.int (if j > i then j else i)) H2) (ha W C ad σ ρ F H tk en) (fun r1 ρ1 v F1 H1 s1 e1 h1 => ?_) monoR
  refine Sd.bind (T2 := fun u H2 Q => ∃ i j, [v, u] = [V.int i, V.int j] ∧ Q (V.int (if j > i then j else i)) H2) (hb W C ad σ ρ1 F1 H1 tk e1) (fun r2 ρ2 u F2 H2 s2 e2 h2 => ?_) monoR
  refine fin2 (f := max2R) e2 (h1.go s2) h2 fun dx dy r hx hy hr Q q => ?_
  unfold max2R at hr
  split at hr
  · cases hr
    exact ⟨_, _, by rw [hx.int, hy.int], q _ F2 H2 e2.stp e2 (show Rep X.K F2 (.int _) _ from Rep.int.mpr rfl)⟩
  · cases hr
theorem reps_intsV {K : PySem.W.Frag} {F : Hp} : ∀ l : List Int, Reps K F (l.map D.int) (l.map V.int)
  | [] => Reps.nil
  | i :: r => Reps.cons (Rep.int.mpr rfl) (reps_intsV r)
/-- list(range(n)) -/
theorem se_lrg {n n2 p p2 : Pos} (xo : XOk G call xn X) (hp : plainE x = true) (hp2 : plainE (.Call (.Name "range" n2) [x] [] p2) = true) (hg : glb X.env.scope "list" = true) (hg2 : glb X.env.scope "range" = true) (ha : SE G call xn X a x) :
    SE G call xn X (.lrg a) (.Call (.Name "list" n) [.Call (.Name "range" n2) [x] [] p2] [] p) := by
  intro W C ad σ ρ F H tk en
  obtain ⟨g1, g2, g3⟩ := glb_ok hg
  obtain ⟨k1, k2, k3⟩ := glb_ok hg2
  have hm := xo.blt .list
  unfold ev
  refine Sd.imp (T := fun Q => tLstRg (tRg1 (We X x)) σ H Q) ?_ fun Q q => We.of (pe_listRg xo.calm g1 hm (prg_1 k1 xo.rng pe_we (star_plain hp)) (star_plain hp2)) q
  refine Sd.bind (T2 := fun v H1 Q => ∃ j, v = V.int j ∧ (fun a b H1 => RgOk a b ∧ ∀ q, H1 q = none → Q (V.ref q) (upd H1 q (.lst (rgV a b)))) 0 j H1) (ha W C ad σ ρ F H tk en) (fun r1 ρ1 v F1 H1 s1 e1 h1 => ?_) monoR
  refine fin1 (f := lrgR) e1 h1 fun dx r hx hr Q q => ?_
  unfold lrgR at hr
  split at hr
  · split at hr
    · rename_i m hc
      cases hr
      refine ⟨m, hx.int, RgOk.of_le (Int.le_refl 0) (by omega) (by omega) hc.1, fun p n => ?_⟩
      have er : rgV 0 m = (((List.range m.toNat).map fun (k : Nat) => (0 + (k : Int))).map V.int) := by
        unfold rgV
        rw [List.map_map]
        have : (m - 0).toNat = m.toNat := by omega
        rw [this]; rfl
      have ed : ((List.range m.toNat).map fun (k : Nat) => D.int (0 + (k : Int))) = (((List.range m.toNat).map fun (k : Nat) => (0 + (k : Int))).map D.int) := by rw [List.map_map]; rfl
      rw [er]
      rw [ed] at q
      exact q _ _ _ (e1.stpN n) (e1.fresh n) ⟨p, _, rfl, n, e1.notC n, e1.F_none n, upd_same, reps_intsV _⟩
    · cases hr
  · cases hr
end
end DI
end
section
set_option linter.all false
set_option maxRecDepth 100000
set_option Elab.async false
/-! DI8: calls. -/
namespace DI
open PySem PySem.Spec PyProof.Rows L2
section
variable {K : PySem.W.Frag} {C : Addr → Prop} {ad : Nat → Addr} {F H F' H' : Hp} {σ : L2.St} {ρ : Ro}
theorem stp_up {as : List Addr} (en : EnvOk K C ad F H σ ρ) (s : Stp (· ∈ as) F H F' H') (hC : ∀ a ∈ as, C a) : Stp C F H F' H' := by
  refine ⟨s.le, fun a o e n => s.keep a o e fun z => n (hC a z), s.new, fun a c => ?_⟩
  cases q : F' a with
  | none => rfl
  | some o =>
    rcases s.new a o q with z | z
    · rw [en.off a c] at z; cases z
    · obtain ⟨xs, h⟩ := en.there a c
      rw [z] at h; cases h
/-- the cells at S may stand otherwise -/
structure EnvX (K : PySem.W.Frag) (S : List Nat) (C : Addr → Prop) (ad : Nat → Addr) (F H : Hp) (σ : L2.St) (ρ : Ro) : Prop where
  len : ρ.length = σ.length
  dat : ∀ (i : Nat) (d : D), ρ[i]? = some (Sl.dat d) → ∃ v, σ[i]? = some (some v) ∧ Rep K F d v
  sig : ∀ (i : Nat) (l : List D), cellAt ρ i = some l → σ[i]? = some (some (.ref (ad i))) ∧ C (ad i)
  con : ∀ (i : Nat) (l : List D), cellAt ρ i = some l → i ∉ S → ∃ vs, H (ad i) = some (.lst vs) ∧ Reps K F l vs
  inj : ∀ (i j : Nat) (l m : List D), cellAt ρ i = some l → cellAt ρ j = some m → ad i = ad j → i = j
  le : Le F H
  off : ∀ a, C a → F a = none
  there : ∀ a, C a → ∃ xs, H a = some (.lst xs)
theorem EnvX.ok (e : EnvX K [] C ad F H σ ρ) : EnvOk K C ad F H σ ρ :=
  ⟨e.len, e.dat, fun i l h => ⟨(e.sig i l h).1, (e.sig i l h).2, e.con i l h (by simp)⟩, e.inj, e.le, e.off, e.there⟩
theorem cellAt_lt {i : Nat} {l : List D} (h : cellAt ρ i = some l) : i < ρ.length := by
  unfold cellAt at h
  cases e : ρ[i]? with
  | none => rw [e] at h; cases h
  | some s => exact (List.getElem?_eq_some_iff.mp e).1
theorem setCell_get (ρ : Ro) (i : Nat) (l : List D) (j : Nat) : cellAt (setCell ρ i l) j = if j = i ∧ (cellAt ρ i).isSome = true then some l else cellAt ρ j := by
  unfold setCell cellAt
  cases e : ρ[i]? with
  | none => simp [e]
  | some s =>
    have hi := (List.getElem?_eq_some_iff.mp e).1
    by_cases hj : j = i
    · subst hj
      cases s <;> simp [e, hi]
    · cases s <;> simp [List.getElem?_set_ne (Ne.symm hj), hj]
theorem setCell_len (ρ : Ro) (i : Nat) (l : List D) : (setCell ρ i l).length = ρ.length := by
  unfold setCell; split <;> simp
theorem setCell_dat {i : Nat} {l : List D} {j : Nat} {d : D} (h : (setCell ρ i l)[j]? = some (Sl.dat d)) : ρ[j]? = some (Sl.dat d) := by
  unfold setCell at h
  split at h
  · by_cases hj : i = j
    · subst hj
      rename_i e
      have hi := (List.getElem?_eq_some_iff.mp e).1
      simp [hi] at h
    · rwa [List.getElem?_set_ne hj] at h
  · by_cases hj : i = j
    · subst hj
      rename_i e
      have hi := (List.getElem?_eq_some_iff.mp e).1
      simp [hi] at h
    · rwa [List.getElem?_set_ne hj] at h
  · exact h
theorem EnvX.put {S : List Nat} {i : Nat} {l : List D} {ws : List V} (e : EnvX K (i :: S) C ad F H σ ρ) (hi : (cellAt ρ i).isSome = true) (h : H (ad i) = some (.lst ws)) (r : Reps K F l ws) : EnvX K S C ad F H σ (setCell ρ i l) := by
  have some_of : ∀ {j : Nat} {m : List D}, cellAt (setCell ρ i l) j = some m → ∃ m', cellAt ρ j = some m' := fun {j m} hj => by
    rw [setCell_get] at hj
    split at hj
    · rename_i z
      obtain ⟨rfl, z⟩ := z
      exact Option.isSome_iff_exists.mp z
    · exact ⟨m, hj⟩
  refine ⟨(setCell_len ρ i l).trans e.len, fun j d hd => e.dat j d (setCell_dat hd), fun j m hj => ?_, fun j m hj hS => ?_, fun j k m m' h1 h2 ha => ?_, e.le, e.off, e.there⟩
  · obtain ⟨m', hm⟩ := some_of hj
    exact e.sig j m' hm
  · rw [setCell_get] at hj
    split at hj
    · rename_i z
      obtain ⟨rfl, _⟩ := z
      cases hj
      exact ⟨ws, h, r⟩
    · rename_i z
      have hne : j ≠ i := fun q => z ⟨q, hi⟩
      exact e.con j m hj fun q => (List.mem_cons.mp q).elim hne hS
  · obtain ⟨n1, e1⟩ := some_of h1
    obtain ⟨n2, e2⟩ := some_of h2
    exact e.inj j k n1 n2 e1 e2 ha
def sameA : List Ar → List Ag → Prop
  | [], [] => True
  | .dat _ :: r, .dat _ :: q => sameA r q
  | .cel _ :: r, .len _ :: q => sameA r q
  | _, _ => False
theorem sameA.trans : ∀ {ars : List Ar} {p q : List Ag}, sameA ars p → same p q → sameA ars q
  | [], [], [], _, _ => True.intro
  | .dat _ :: r, .dat _ :: p, .dat _ :: q, h, k => sameA.trans (ars := r) (p := p) (q := q) h k
  | .cel _ :: r, .len _ :: p, .len _ :: q, h, k => sameA.trans (ars := r) (p := p) (q := q) h k
  | [], [], _ :: _, _, k => (show False from k).elim
  | [], _ :: _, _, h, _ => (show False from h).elim
  | .dat _ :: _, [], _, h, _ => (show False from h).elim
  | .cel _ :: _, [], _, h, _ => (show False from h).elim
  | .dat _ :: _, .len _ :: _, _, h, _ => (show False from h).elim
  | .cel _ :: _, .dat _ :: _, _, h, _ => (show False from h).elim
  | .dat _ :: _, .dat _ :: _, [], _, k => (show False from k).elim
  | .dat _ :: _, .dat _ :: _, .len _ :: _, _, k => (show False from k).elim
  | .cel _ :: _, .len _ :: _, [], _, k => (show False from k).elim
  | .cel _ :: _, .len _ :: _, .dat _ :: _, _, k => (show False from k).elim
/-- the arguments, lent -/
theorem toAg_ok (en : EnvOk K C ad F H σ ρ) : ∀ {ars : List Ar} {ags : List Ag} {vs : List V}, ArsOk K ad F ars vs → toAg ρ ars = some ags → AgsOk K F H ags vs ((Ar.cels ars).map ad) ∧ sameA ars ags ∧ ∀ i ∈ Ar.cels ars, (cellAt ρ i).isSome = true
  | [], ags, vs, h, e => by
    unfold ArsOk at h; subst h
    unfold toAg at e; cases e
    exact ⟨⟨rfl, rfl⟩, trivial, by simp [Ar.cels]⟩
  | .dat d :: r, ags, vs, h, e => by
    unfold ArsOk at h
    obtain ⟨v, q, rfl, h1, h2⟩ := h
    unfold toAg at e
    cases e1 : toAg ρ r with
    | none => rw [e1] at e; cases e
    | some ags' =>
      rw [e1] at e; cases e
      obtain ⟨a1, a2, a3⟩ := toAg_ok en h2 e1
      exact ⟨⟨v, q, rfl, h1, a1⟩, a2, a3⟩
  | .cel i :: r, ags, vs, h, e => by
    unfold ArsOk at h
    obtain ⟨q, rfl, h2⟩ := h
    unfold toAg at e
    cases e0 : cellAt ρ i with
    | none => rw [e0] at e; cases e
    | some l =>
      cases e1 : toAg ρ r with
      | none => rw [e0, e1] at e; cases e
      | some ags' =>
        rw [e0, e1] at e; cases e
        obtain ⟨a1, a2, a3⟩ := toAg_ok en h2 e1
        obtain ⟨_, _, ws, c1, c2⟩ := en.cel i l e0
        refine ⟨⟨ad i, q, (Ar.cels r).map ad, ws, rfl, rfl, c1, c2, a1⟩, a2, fun j hj => ?_⟩
        rcases List.mem_cons.mp (show j ∈ i :: Ar.cels r from hj) with z | z
        · subst z; rw [e0]; rfl
        · exact a3 j z
theorem ags_len : ∀ {q : List Ag} {vs : List V} {as : List Addr}, AgsOk K F H q vs as → q.length = vs.length ∧ ∀ a ∈ as, ∃ ws, H a = some (.lst ws)
  | [], vs, as, h => by obtain ⟨rfl, rfl⟩ := h; exact ⟨rfl, by simp⟩
  | .dat d :: r, vs, as, h => by
    obtain ⟨v, q, rfl, _, h2⟩ := h
    obtain ⟨a, b⟩ := ags_len h2
    exact ⟨by simp [a], b⟩
  | .len l :: r, vs, as, h => by
    obtain ⟨a, q, b, ws, rfl, rfl, h1, _, h2⟩ := h
    obtain ⟨c, d⟩ := ags_len h2
    refine ⟨by simp [c], fun x hx => ?_⟩
    rcases List.mem_cons.mp hx with z | z
    · subst z; exact ⟨ws, h1⟩
    · exact d x z
theorem back_ok : ∀ {ars : List Ar} {q : List Ag} {vs : List V} {as : List Addr} {ρ : Ro} {F0 : Hp}, ArsOk K ad F0 ars vs → AgsOk K F H q vs as → sameA ars q → (Ar.cels ars).Nodup → (∀ i ∈ Ar.cels ars, (cellAt ρ i).isSome = true) → EnvX K (Ar.cels ars) C ad F H σ ρ → EnvX K [] C ad F H σ (back ρ ars q)
  | [], [], vs, as, ρ, F0, _, _, _, _, _, e => e
  | .dat d :: r, .dat d' :: q, vs, as, ρ, F0, h, k, s, nd, hc, e => by
    obtain ⟨v, t, rfl, _, h2⟩ := h
    obtain ⟨v', t', e1, _, k2⟩ := k
    cases e1
    exact back_ok (ars := r) (q := q) (ρ := ρ) h2 k2 s nd hc e
  | .cel i :: r, .len l :: q, vs, as, ρ, F0, h, k, s, nd, hc, e => by
    obtain ⟨t, rfl, h2⟩ := h
    obtain ⟨a, t', b, ws, e1, e2, k1, k3, k2⟩ := k
    cases e1
    subst e2
    have nd' := List.nodup_cons.mp (show (i :: Ar.cels r).Nodup from nd)
    refine back_ok (ars := r) (q := q) (ρ := setCell ρ i l) h2 k2 s nd'.2 (fun j hj => ?_) (e.put (hc i List.mem_cons_self) k1 k3)
    rw [setCell_get]
    split
    · rfl
    · exact hc j (List.mem_cons_of_mem _ hj)
  | [], _ :: _, _, _, _, _, _, _, s, _, _, _ => (show False from s).elim
  | .dat _ :: _, [], _, _, _, _, _, _, s, _, _, _ => (show False from s).elim
  | .cel _ :: _, [], _, _, _, _, _, _, s, _, _, _ => (show False from s).elim
  | .dat _ :: _, .len _ :: _, _, _, _, _, _, _, s, _, _, _ => (show False from s).elim
  | .cel _ :: _, .dat _ :: _, _, _, _, _, _, _, s, _, _, _ => (show False from s).elim
/-- behind a callee that changed what was lent -/
theorem EnvOk.called {S : List Nat} (en : EnvOk K C ad F H σ ρ) (hS : ∀ i ∈ S, (cellAt ρ i).isSome = true) (s : Stp (· ∈ S.map ad) F H F' H') (le : Le F' H') (ht : ∀ a ∈ S.map ad, ∃ ws, H' a = some (.lst ws)) : EnvX K S C ad F' H' σ ρ := by
  have up := stp_up en s fun a ha => by
    obtain ⟨i, hi, rfl⟩ := List.mem_map.mp ha
    obtain ⟨l, hl⟩ := Option.isSome_iff_exists.mp (hS i hi)
    exact (en.cel i l hl).2.1
  refine ⟨en.len, fun i d h => ?_, fun i l h => ⟨(en.cel i l h).1, (en.cel i l h).2.1⟩, fun i l h hn => ?_, en.inj, le, up.off, fun a c => ?_⟩
  · obtain ⟨v, h1, h2⟩ := en.dat i d h
    exact ⟨v, h1, Rep.le s.le d v h2⟩
  · obtain ⟨_, _, vs, h3, h4⟩ := en.cel i l h
    refine ⟨vs, s.keep _ _ h3 fun ha => ?_, Reps.le s.le l vs h4⟩
    obtain ⟨j, hj, e⟩ := List.mem_map.mp ha
    obtain ⟨m, hm⟩ := Option.isSome_iff_exists.mp (hS j hj)
    exact hn (en.inj j i m l hm h e ▸ hj)
  · by_cases ha : a ∈ S.map ad
    · exact ht a ha
    · obtain ⟨xs, h⟩ := en.there a c
      exact ⟨xs, s.keep _ _ h ha⟩
end
section
variable {G : Gm} {call : CF} {xn : Str → List Str} {X : Cx} {W : WX} {C : Addr → Prop} {ad : Nat → Addr} {σ : L2.St} {ρ : Ro} {F H : Hp} {m a b c : ME} {e x y z : Expr}
theorem doCall_ok {f : Str} {ars : List Ar} {vs : List V} {np : Nat} (en : EnvOk X.K C ad F H σ ρ) (h : ArsOk X.K ad F ars vs) (hl : ∀ as, call f as ≠ .no → as.length = np) :
    Sd X xn W C ad σ F H (doCall call f ars ρ) (RR X.K C ad) (fun Q => spOf X.K X.mg xn (call f) np vs H Q (WE W σ)) := by
  unfold doCall
  by_cases nd : (Ar.cels ars).Nodup
  · rw [if_pos nd]
    cases ha : toAg ρ ars with
    | none => trivial
    | some ags =>
      obtain ⟨h1, h2, h3⟩ := toAg_ok en h ha
      have hC : ∀ a ∈ (Ar.cels ars).map ad, C a := fun a hm => by
        obtain ⟨i, hi, rfl⟩ := List.mem_map.mp hm
        obtain ⟨l, hl⟩ := Option.isSome_iff_exists.mp (h3 i hi)
        exact (en.cel i l hl).2.1
      have ndA : ((Ar.cels ars).map ad).Nodup := by
        refine List.nodup_iff_pairwise_ne.mpr (List.pairwise_map.mpr ((List.nodup_iff_pairwise_ne.mp nd).imp_of_mem fun {i j} hi hj hne e => hne ?_))
        obtain ⟨l, hl⟩ := Option.isSome_iff_exists.mp (h3 i hi)
        obtain ⟨k, hk⟩ := Option.isSome_iff_exists.mp (h3 j hj)
        exact en.inj i j l k hl hk e
      have pre : vs.length = np → ∀ {Q : VK}, (match call f ags with
          | .no => False
          | .ok r q => ∀ v F' H', Stp (· ∈ (Ar.cels ars).map ad) F H F' H' → Le F' H' → same ags q → AgsOk X.K F' H' q vs ((Ar.cels ars).map ad) → RtOk X.K ((Ar.cels ars).map ad) H F' H' r v → Q v H'
          | .ex c fs => ∀ F' H' cls d, Stp (· ∈ (Ar.cels ars).map ad) F H F' H' → Le F' H' → ExAt X.K X.mg xn c fs F' H' cls d → WE W σ cls d H') →
          spOf X.K X.mg xn (call f) np vs H Q (WE W σ) := fun hn {Q} k => ⟨ags, _, F, hn, h1, ndA, en.le, fun a hm => en.off a (hC a hm), k⟩
      show Sd X xn W C ad σ F H (match call f ags with
        | .ok r q => .ok (agRes r) (back ρ ars q)
        | .ex c fs => if Ar.cels ars = [] then .ex c fs ρ else .no
        | .no => .no) _ _
      cases hf : call f ags with
      | no => trivial
      | ok r q =>
        have hn : vs.length = np := by rw [← (ags_len h1).1]; exact hl ags (by rw [hf]; intro z; cases z)
        intro Q k
        refine pre hn ?_
        rw [hf]
        intro v F' H' s le sm k1 k2
        have ex := back_ok (ρ := ρ) h k1 (h2.trans sm) nd h3 (en.called h3 s le (ags_len k1).2)
        refine k v F' H' (stp_up en s hC) ex.ok ?_
        cases r with
        | dat d => exact k2
        | len l =>
          obtain ⟨p, ws, e1, n, na, f1, h1, r1⟩ := k2
          exact ⟨p, ws, e1, n, en.notC n, f1, h1, r1⟩
      | ex c fs =>
        have hn : vs.length = np := by rw [← (ags_len h1).1]; exact hl ags (by rw [hf]; intro z; cases z)
        by_cases h0 : Ar.cels ars = []
        · show Sd X xn W C ad σ F H (if Ar.cels ars = [] then Out.ex c fs ρ else Out.no) _ _
          rw [if_pos h0]
          intro k Q
          refine pre hn ?_
          rw [hf]
          intro F' H' cls d s le xa
          refine k F' H' cls d (stp_up en s hC) ?_ xa
          rw [h0] at s
          have := en.called (S := []) (by simp) s le (by simp)
          exact this.ok
        · show Sd X xn W C ad σ F H (if Ar.cels ars = [] then Out.ex c fs ρ else Out.no) _ _
          rw [if_neg h0]; trivial
  · rw [if_neg nd]; trivial
theorem sa_nil : SA G call xn X .nil [] := by
  intro W C ad σ ρ F H tk en
  unfold evAs
  exact fun Q q => Wa.of pa_nil (q [] F H en.stp en rfl)
theorem ArsOk.le {K : PySem.W.Frag} {F F' : Hp} (h : Le F F') : ∀ {ars : List Ar} {vs : List V}, ArsOk K ad F ars vs → ArsOk K ad F' ars vs
  | [], vs, r => r
  | .dat d :: r, vs, h1 => by
    obtain ⟨v, q, e, a, b⟩ := h1
    exact ⟨v, q, e, Rep.le h d v a, ArsOk.le h b⟩
  | .cel i :: r, vs, h1 => by
    obtain ⟨q, e, b⟩ := h1
    exact ⟨q, e, ArsOk.le h b⟩
theorem sa_cons {ms : MEs} {es : List Expr} (hp : plainE x = true) (ha : SE G call xn X a x) (hb : SA G call xn X ms es) : SA G call xn X (.cons a ms) (x :: es) := by
  intro W C ad σ ρ F H tk en
  unfold evAs
  refine Sd.imp (T := fun Q => We X x σ H fun v H1 => Wa X es σ H1 fun vs H2 => Q (v :: vs) H2) ?_ fun Q q => Wa.of (pa_cons pe_we pa_wa (star_plain hp)) q
  have k := ha W C ad σ ρ F H tk en
  cases ho : ev G call a ρ with
  | no => trivial
  | ex c fs ρ' => rw [ho] at k; exact fun q Q => k q _
  | ok r1 ρ1 =>
    rw [ho] at k
    show Sd X xn W C ad σ F H ((evAs G call ms ρ1).bind _) _ _
    cases h2 : evAs G call ms ρ1 with
    | no => trivial
    | ex c fs ρ2 =>
      intro q Q
      refine k _ fun v F1 H1 s1 e1 h1 => ?_
      have kb := hb W C ad σ ρ1 F1 H1 tk e1
      rw [h2] at kb
      exact kb (fun F2 H2 cls d s2 e2 xa => q F2 H2 cls d (s1.trans s2) e2 xa) _
    | ok ars ρ2 =>
      have go : ∀ (out : Out (List Ar)) (g : List Ar), out = .ok g ρ2 → (∀ v F1 H1 F2 H2 vs, Stp C F H F1 H1 → Stp C F1 H1 F2 H2 → EnvOk X.K C ad F2 H2 σ ρ2 → ResOk X.K C ad H F2 H2 ρ2 r1 v → ArsOk X.K ad F2 ars vs →
          ∃ F3, Stp C F H F3 H2 ∧ EnvOk X.K C ad F3 H2 σ ρ2 ∧ ArsOk X.K ad F3 g (v :: vs)) →
          Sd X xn W C ad σ F H out (fun as _ F' _ _ (vs : List V) => ArsOk X.K ad F' as vs) (fun Q => We X x σ H fun v H1 => Wa X es σ H1 fun vs H2 => Q (v :: vs) H2) := by
        rintro out g rfl hg Q q
        refine k _ fun v F1 H1 s1 e1 h1 => ?_
        have kb := hb W C ad σ ρ1 F1 H1 tk e1
        rw [h2] at kb
        refine kb _ fun vs F2 H2 s2 e2 h3 => ?_
        obtain ⟨F3, s3, e3, h4⟩ := hg v F1 H1 F2 H2 vs s1 s2 e2 (h1.go s2) h3
        exact q _ F3 H2 s3 e3 h4
      cases r1 with
      | dat d => exact go _ (.dat d :: ars) rfl fun v F1 H1 F2 H2 vs s1 s2 e2 h1 h3 => ⟨F2, s1.trans s2, e2, v, vs, rfl, h1, h3⟩
      | var i => exact go _ (.cel i :: ars) rfl fun v F1 H1 F2 H2 vs s1 s2 e2 h1 h3 => ⟨F2, s1.trans s2, e2, vs, by rw [show v = .ref (ad i) from h1], h3⟩
      | new l =>
          refine go _ (.dat (.lst l) :: ars) rfl fun v F1 H1 F2 H2 vs s1 s2 e2 h1 h3 => ?_
          obtain ⟨F3, l3, e3, s3, r3⟩ := frz e2 (s1.trans s2) h1
          exact ⟨F3, s3, e3, v, vs, rfl, r3, ArsOk.le l3 h3⟩
theorem se_call {f : Str} {n p : Pos} {ms : MEs} {es : List Expr} (xo : XOk G call xn X) (hp : plainE x = true) (hg : glb X.env.scope f = true) (ha : SA G call xn X ms (x :: es)) (hes : (backTo p (starEach es X.env)).any (·.1) = false) :
    SE G call xn X (.call f ms) (.Call (.Name f n) (x :: es) [] p) := by
  intro W C ad σ ρ F H tk en
  obtain ⟨g1, g2, g3⟩ := glb_ok hg
  unfold ev
  by_cases hc : (G.fn f).isSome = true
  · rw [if_pos hc]
    obtain ⟨k, fa, fd, ps, FN, hl, hr, hm, hk, hb⟩ := xo.fns f hc
    refine Sd.imp (T := fun Q => Wa X (x :: es) σ H fun vs H1 => spOf X.K X.mg xn (call f) ps.length vs H1 Q (WE W σ)) ?_ fun Q q => We.of (pe_callG FN xo.gd hr g1 hm hk hb (fun σ => passAt tk σ) pa_wa g2 (star_plain hp) hes) q
    refine Sd.bind (T2 := fun vs H1 Q => spOf X.K X.mg xn (call f) ps.length vs H1 Q (WE W σ)) (ha W C ad σ ρ F H tk en) (fun ars ρ1 vs F1 H1 s1 e1 h1 => ?_) monoR
    exact doCall_ok e1 h1 hl
  · rw [if_neg hc]; trivial
theorem star_any {p : Pos} {env : Env} : ∀ {es : List Expr}, es.all plainE = true → (backTo p (starEach es env)).any (·.1) = false
  | [], _ => rfl
  | e :: r, h => by
    rw [List.all_cons, Bool.and_eq_true] at h
    rw [star_plain h.1]
    show (false || (backTo p (starEach r env)).any (·.1)) = false
    rw [star_any h.2]; rfl
theorem se_isi {t : Ty} {n n2 p : Pos} (xo : XOk G call xn X) (hp : plainE x = true) (hg : glb X.env.scope "isinstance" = true) (hg2 : glb X.env.scope (tyName t) = true) (ha : SE G call xn X a x) :
    SE G call xn X (.isi a t) (.Call (.Name "isinstance" n) [x, .Name (tyName t) n2] [] p) := by
  intro W C ad σ ρ F H tk en
  obtain ⟨g1, g2, g3⟩ := glb_ok hg
  obtain ⟨k1, k2, k3⟩ := glb_ok hg2
  unfold ev
  have bt : bootBuiltins (tyName t) = some (.type (tyV t)) := by cases t <;> decide +kernel
  refine Sd.imp (T := fun Q => We X x σ H fun v H1 => rcl X (.builtin "isinstance") [v, .ty (tyV t)] H1 Q) ?_ fun Q q =>
    We.of (pe_callB (rcl_ok (f := .builtin "isinstance")) g1 xo.isi (by decide +kernel) (pa_cons pe_we (pa_cons (pe_bltn (v := .ty (tyV t)) k1 (xo.tyn t) bt rfl k3 k2) pa_nil) (star_plain hp)) g3 g2 (star_plain hp) rfl) q
  refine Sd.bind (T2 := fun v H1 Q => rcl X (.builtin "isinstance") [v, .ty (tyV t)] H1 Q) (ha W C ad σ ρ F H tk en) (fun r1 ρ1 v F1 H1 s1 e1 h1 => ?_) monoR
  cases l1 : look ρ1 r1 with
  | none => trivial
  | some dx => exact fin_b e1 fun Q q => isi_ok e1.le (h1.look e1 l1) q
/-! ### dicts of defs -/
def WD (X : Cx) (W : WX) (tf : TE) (t : TA) : TE := fun σ H Q => tf σ H fun v H1 => ∃ fa, v = .ref fa ∧ PySem.W.keepIn X.K (.ref fa) = true ∧ ∃ k fd ps sp, FnG X.prog X.w X.K X.mg X.base (L2.CX X.prog X.w) k fa fd ps sp ∧ Room k X.A ∧ Binds X.K fd ps [] ∧ t σ H1 fun vs H2 => sp vs H2 Q (WE W σ)
theorem pe_callD {fe : Expr} {es : List Expr} {p : Pos} {tf : TE} {t : TA} (gd : X.A.guards = some []) (tk : Takes X W) (hf : PE X fe tf) (ha : PA X (x :: es) t) (hp : plainE x = true) (hpl : (backTo p (starEach es X.env)).any (·.1) = false)
    (ht : eval (.Call fe (x :: es) [] p) X.env = (do callWith p (← eval fe X.env) [] (backTo p (starEach (x :: es) X.env)) (backToKw p (keywordEach [] X.env)))) : PE X (.Call fe (x :: es) [] p) (WD X W tf t) := by
  refine ⟨fun pins s σ H Q I h => ?_⟩
  refine Call_ (thn (hf.run pins s σ H _ I h) fun u s1 ⟨y, H1, I1, ry, fa, ey, hk, k, fd, ps, sp, FN, hr, hb, q⟩ => ?_) ht
  subst ey
  obtain rfl : u = Value.ref fa := ry
  refine PySem.W.callWith_K (h₀ := X.base) I.ok.mod.kin hk (thn (ha.run p pins s1 σ H1 _ I1 q) fun us s2 ⟨vs, H2, I2, r, q2⟩ => ⟨I2.kIn, ?_⟩) (star_plain hp) hpl
  exact run_fnG (Z := WE W) FN gd hr hb (passAt tk σ) I2 r q2
theorem se_dcall {d : Str} {k : ME} {y : Expr} {n p2 p : Pos} (xo : XOk G call xn X) (hp : plainE x = true) (hp2 : plainE y = true) (hg : glb X.env.scope d = true) (hk : SE G call xn X k y) (ha : SE G call xn X a x) :
    SE G call xn X (.dcall d k a) (.Call (.Subscript (.Name d n) y p2) [x] [] p) := by
  intro W C ad σ ρ F H tk en
  obtain ⟨g1, g2, g3⟩ := glb_ok hg
  unfold ev
  cases hd : G.dic d with
  | none => trivial
  | some tb =>
    obtain ⟨da, hm, dk⟩ := (xo.dic d tb hd).at_
    have dk := dk X rfl rfl rfl xo.un
    refine Sd.imp (T := fun Q => WD X W (fun σ H Q => We X y σ H fun u H2 => rix X (.ref da) u H2 Q) (fun σ H Q => We X x σ H fun v H1 => Q [v] H1) σ H Q) ?_ fun Q q =>
      We.of (pe_callD xo.gd tk (pe_ix rix_ok (pe_glob (v := .ref da) g1 hm rfl g2) pe_we (ix_plain hp2)) (pa_cons pe_we pa_nil (star_plain hp)) hp rfl (by rfl)) q
    refine Sd.bind (T := fun Q => We X y σ H Q) (T2 := fun u H2 Q => rix X (.ref da) u H2 fun v H1 => ∃ fa, v = .ref fa ∧ PySem.W.keepIn X.K (.ref fa) = true ∧ ∃ k fd ps sp, FnG X.prog X.w X.K X.mg X.base (L2.CX X.prog X.w) k fa fd ps sp ∧ Room k X.A ∧ Binds X.K fd ps [] ∧ We X x σ H1 fun v H1 => sp [v] H1 Q (WE W σ)) (hk.dd tk en) (fun kd ρ1 u F1 H1 s1 e1 h1 => ?_) monoR
    cases hg : dGet tb kd with
    | none => trivial
    | some o =>
      cases o with
      | none => trivial
      | some f =>
        show Sd X xn W C ad σ F1 H1 (if (G.fn f).isSome = true then (asD (ev G call a ρ1)).bind fun x ρ => doCall call f [.dat x] ρ else .no) _ _
        by_cases hc : (G.fn f).isSome = true
        · rw [if_pos hc]
          obtain ⟨lv, fa, fd, ps, FN, hl, hr, hm2, hkp, hb⟩ := xo.fns f hc
          obtain ⟨_, _, dk3⟩ := dk H1 kd u (some f) (Rep.le e1.le _ _ h1) hg
          obtain ⟨fa', hm3, dk4⟩ := dk3 f rfl
          rw [hm2] at hm3
          cases hm3
          refine Sd.imp (T := fun Q => We X x σ H1 fun v H2 => spOf X.K X.mg xn (call f) ps.length [v] H2 Q (WE W σ)) ?_ fun Q q => dk4 _ ⟨fa, rfl, hkp, lv, fd, ps, _, FN, hr, hb, q⟩
          refine Sd.bind (T2 := fun v H2 Q => spOf X.K X.mg xn (call f) ps.length [v] H2 Q (WE W σ)) (ha.dd tk e1) (fun d ρ2 v F2 H2 s2 e2 h2 => ?_) monoR
          exact doCall_ok e2 ⟨v, [], rfl, h2, rfl⟩ hl
        · rw [if_neg hc]; trivial
theorem sb_din {d : Str} {k : ME} {n p : Pos} (xo : XOk G call xn X) (hg : glb X.env.scope d = true) (hk : SE G call xn X k y) : SB G call xn X (.din d k) (.Compare y [.In] [.Name d n] p) := by
  obtain ⟨g1, g2, g3⟩ := glb_ok hg
  by_cases hd : ∃ tb, G.dic d = some tb
  · obtain ⟨tb, hd⟩ := hd
    obtain ⟨da, hm, dk⟩ := (xo.dic d tb hd).at_
    have dk := dk X rfl rfl rfl xo.un
    have pg := pe_glob (X := X) (pos := n) (v := .ref da) g1 hm rfl g2
    refine ⟨_, pe_cmpR rop_ok pe_we pg (behind_plain rfl), pt_cmpR rop_ok pe_we pg (behind_plain rfl), ?_⟩
    intro W C ad σ ρ F H tk en
    unfold ev
    rw [hd]
    refine Sd.imp (T := fun Q => We X y σ H fun v H1 => rop X (compareOp .In) v (.ref da) H1 Q) ?_ fun Q q => q
    refine Sd.bind (T2 := fun v H1 Q => rop X (compareOp .In) v (.ref da) H1 Q) (hk.dd tk en) (fun kd ρ1 v F1 H1 s1 e1 h1 => ?_) monoR
    cases ho : dGet tb kd with
    | none => trivial
    | some o => exact fin_b e1 fun Q q => (dk H1 kd v o (Rep.le e1.le _ _ h1) ho).1 Q q
  · refine ⟨fun _ _ _ => False, ⟨fun pins s σ H Q I h => (show False from h).elim⟩, ⟨fun pins s σ H Q I h => (show False from h).elim⟩, fun W C ad σ ρ F H tk en => ?_⟩
    unfold ev
    cases hq : G.dic d with
    | none => trivial
    | some tb => exact (hd ⟨tb, hq⟩).elim
theorem sb_dnin {d : Str} {k : ME} {n p : Pos} (xo : XOk G call xn X) (hg : glb X.env.scope d = true) (hk : SE G call xn X k y) : SB G call xn X (.dnin d k) (.Compare y [.NotIn] [.Name d n] p) := by
  obtain ⟨g1, g2, g3⟩ := glb_ok hg
  by_cases hd : ∃ tb, G.dic d = some tb
  · obtain ⟨tb, hd⟩ := hd
    obtain ⟨da, hm, dk⟩ := (xo.dic d tb hd).at_
    have dk := dk X rfl rfl rfl xo.un
    have pg := pe_glob (X := X) (pos := n) (v := .ref da) g1 hm rfl g2
    refine ⟨_, pe_cmpR rop_ok pe_we pg (behind_plain rfl), pt_cmpR rop_ok pe_we pg (behind_plain rfl), ?_⟩
    intro W C ad σ ρ F H tk en
    unfold ev
    rw [hd]
    refine Sd.imp (T := fun Q => We X y σ H fun v H1 => rop X (compareOp .NotIn) v (.ref da) H1 Q) ?_ fun Q q => q
    refine Sd.bind (T2 := fun v H1 Q => rop X (compareOp .NotIn) v (.ref da) H1 Q) (hk.dd tk en) (fun kd ρ1 v F1 H1 s1 e1 h1 => ?_) monoR
    cases ho : dGet tb kd with
    | none => trivial
    | some o => exact fin_b e1 fun Q q => (dk H1 kd v o (Rep.le e1.le _ _ h1) ho).2.1 Q q
  · refine ⟨fun _ _ _ => False, ⟨fun pins s σ H Q I h => (show False from h).elim⟩, ⟨fun pins s σ H Q I h => (show False from h).elim⟩, fun W C ad σ ρ F H tk en => ?_⟩
    unfold ev
    cases hq : G.dic d with
    | none => trivial
    | some tb => exact (hd ⟨tb, hq⟩).elim
end
end DI
end
section
set_option linter.all false
set_option maxRecDepth 100000
set_option Elab.async false
/-! DI9: what is walked; list comprehensions. -/
namespace DI
open PySem PySem.Spec PyProof.Rows L2
/-- J walks ds, whatever grows meanwhile -/
def WalkD (K : PySem.W.Frag) (F : Hp) (J : It) (ds : List D) : Prop := ∀ (Fc H : Hp), Le F Fc → Le Fc H → ∀ i : Nat, (i < ds.length → J.go i H ∧ ∀ x H', J.yld i H x H' → ∃ d, ds[i]? = some d ∧ ((H' = H ∧ Rep K Fc d x) ∨ ∃ T o, H T = none ∧ H' = upd H T o ∧ Rep K (upd Fc T o) d x)) ∧ (ds.length ≤ i → J.stop i H)
theorem walk_tupD {K : PySem.W.Frag} {F : Hp} {a : Addr} {vs : List V} {ds : List D} (h : SqT K F a vs) (r : Reps K F ds vs) : WalkD K F (Itt K a) ds := by
  intro Fc H l1 l2 i
  have hq : SqT K H a vs := SqT.le l2 (SqT.le l1 h)
  have hl := r.len
  refine ⟨fun hi => ?_, fun hi => ⟨vs, hq, by omega⟩⟩
  have e : ds[i]? = some ds[i] := List.getElem?_eq_getElem hi
  obtain ⟨v, hv, rv⟩ := r.get e
  refine ⟨⟨vs, v, hq, hv⟩, fun x H' y => ?_⟩
  obtain ⟨y1, y2⟩ := y
  have := y2 vs hq
  rw [hv] at this
  cases this
  exact ⟨_, e, .inl ⟨y1, Rep.le l1 _ _ rv⟩⟩
theorem walk_lstD {K : PySem.W.Frag} {F : Hp} {a : Addr} {vs : List V} {ds : List D} (h : Rd F a (.lst vs)) (r : Reps K F ds vs) : WalkD K F (Itl K a) ds := by
  intro Fc H l1 l2 i
  have hq : SqL K H a vs := .inl (Rd.le l2 (Rd.le l1 h))
  have hl := r.len
  refine ⟨fun hi => ?_, fun hi => ⟨vs, hq, by omega⟩⟩
  have e : ds[i]? = some ds[i] := List.getElem?_eq_getElem hi
  obtain ⟨v, hv, rv⟩ := r.get e
  refine ⟨⟨vs, v, hq, hv⟩, fun x H' y => ?_⟩
  obtain ⟨y1, y2⟩ := y
  have := y2 vs hq
  rw [hv] at this
  cases this
  exact ⟨_, e, .inl ⟨y1, Rep.le l1 _ _ rv⟩⟩
theorem walk_rngD {K : PySem.W.Frag} {F : Hp} {lo : Int} {n : Nat} : WalkD K F (Itr lo n) (rngL lo n) := by
  intro Fc H l1 l2 i
  have hl : (rngL lo n).length = n := by unfold rngL; simp
  rw [hl]
  refine ⟨fun hi => ⟨hi, fun x H' y => ?_⟩, fun hi => hi⟩
  obtain ⟨y1, y2⟩ := y
  exact ⟨.int (lo + i), by unfold rngL; simp [hi], .inl ⟨y1, by rw [y2]; exact Rep.int.mpr rfl⟩⟩
theorem walk_dnD {K : PySem.W.Frag} {F : Hp} {n : Nat} : WalkD K F (Itc (n : Int) (-1) n) (dnL n) := by
  intro Fc H l1 l2 i
  have hl : (dnL n).length = n := by unfold dnL; simp
  rw [hl]
  refine ⟨fun hi => ⟨hi, fun x H' y => ?_⟩, fun hi => hi⟩
  obtain ⟨y1, y2⟩ := y
  refine ⟨.int ((n : Int) - i), by unfold dnL; simp [hi], .inl ⟨y1, ?_⟩⟩
  rw [y2]
  exact Rep.int.mpr (by congr 1; omega)
theorem walk_zipD {K : PySem.W.Frag} {F : Hp} {a b : Addr} {vs us : List V} {ds es : List D} (h : SqT K F a vs) (r : Reps K F ds vs) (h2 : SqT K F b us) (r2 : Reps K F es us) : WalkD K F (RZ.ItzT K a b) (zipD ds es) := by
  intro Fc H l1 l2 i
  have hq : SqT K H a vs := SqT.le l2 (SqT.le l1 h)
  have hq2 : SqT K H b us := SqT.le l2 (SqT.le l1 h2)
  have hl := r.len
  have hl2 := r2.len
  have zl : ∀ (ds es : List D), (zipD ds es).length = min ds.length es.length := by
    intro ds
    induction ds with
    | nil => intro es; cases es <;> simp [zipD]
    | cons d ds ih => intro es; cases es with
      | nil => simp [zipD]
      | cons e es => simp [zipD, ih]
  have zg : ∀ (ds es : List D) (i : Nat) (d e : D), ds[i]? = some d → es[i]? = some e → (zipD ds es)[i]? = some (.tup [d, e]) := by
    intro ds
    induction ds with
    | nil => intro es i d e h; simp at h
    | cons d ds ih =>
      intro es i d' e' h h'
      cases es with
      | nil => simp at h'
      | cons e es =>
        cases i with
        | zero => simp at h h'; subst h h'; rfl
        | succ i => simpa [zipD] using ih es i d' e' (by simpa using h) (by simpa using h')
  refine ⟨fun hi => ?_, fun hi => ⟨vs, us, hq, hq2, ?_⟩⟩
  · rw [zl] at hi
    have i1 : i < ds.length := by omega
    have i2 : i < es.length := by omega
    have e1 : ds[i]? = some ds[i] := List.getElem?_eq_getElem i1
    have e2 : es[i]? = some es[i] := List.getElem?_eq_getElem i2
    obtain ⟨v, hv, rv⟩ := r.get e1
    obtain ⟨u, hu, ru⟩ := r2.get e2
    refine ⟨⟨vs, us, v, u, hq, hq2, hv, hu⟩, fun x H' y => ?_⟩
    obtain ⟨T, x', y', rfl, n, rfl, k1, k2⟩ := y
    have k1 := k1 vs hq
    have k2 := k2 us hq2
    rw [hv] at k1
    rw [hu] at k2
    cases k1
    cases k2
    have nf : Fc T = none := by
      cases q : Fc T with
      | none => rfl
      | some o => rw [l2 T o q] at n; cases n
    exact ⟨_, zg ds es i _ _ e1 e2, .inr ⟨T, _, n, rfl, Rep.tup.mpr ⟨T, [v, u], rfl, SqT.of upd_same, Reps.le (le_upd0 nf) _ _ (Reps.cons (Rep.le l1 _ _ rv) (Reps.cons (Rep.le l1 _ _ ru) Reps.nil))⟩⟩⟩
  · rw [zl] at hi
    omega
theorem yld_step {K : PySem.W.Frag} {C : Addr → Prop} {ad : Nat → Addr} {Fi Hc H' : Hp} {σ : L2.St} {ρ : Ro} {d : D} {x : V} (en : EnvOk K C ad Fi Hc σ ρ) (h : (H' = Hc ∧ Rep K Fi d x) ∨ ∃ T o, Hc T = none ∧ H' = upd Hc T o ∧ Rep K (upd Fi T o) d x) :
    ∃ Fj, Stp C Fi Hc Fj H' ∧ EnvOk K C ad Fj H' σ ρ ∧ Rep K Fj d x := by
  rcases h with ⟨rfl, r⟩ | ⟨T, o, n, rfl, r⟩
  · exact ⟨Fi, en.stp, en, r⟩
  · exact ⟨_, en.stpF n, en.frozen n, r⟩
theorem stp_off {C : Addr → Prop} {Fi Hc Fj H' : Hp} (s : Stp C Fi Hc Fj H') {D : Addr} {o : HO} (h : Hc D = some o) (f : Fi D = none) : Fj D = none := by
  cases z : Fj D with
  | none => rfl
  | some u =>
    rcases s.new D u z with z | z
    · rw [f] at z; cases z
    · rw [h] at z; cases z
section
variable {G : Gm} {call : CF} {xn : Str → List Str} {X : Cx} {W : WX} {C : Addr → Prop} {ad : Nat → Addr} {σ : L2.St} {ρ : Ro} {F H : Hp} {m a b c : ME} {e x y z tg : Expr}
def Wi (X : Cx) (tg e : Expr) : TI := fun σ H R => ∀ pins s, Inv X pins σ H s → wpAny (model X.prog X.w) X.A (eval e X.env) (fun v s1 => wpAny (model X.prog X.w) X.A (pyIter v) (PIE X pins σ tg R) X.xe s1) X.xe s
theorem pi_wi : PI X tg e (Wi X tg e) := ⟨fun pins s σ H R I h => h pins s I⟩
theorem Wi.of {t : TI} (h : PI X tg e t) {R : It → Hp → Prop} (q : t σ H R) : Wi X tg e σ H R := fun pins s I => h.run pins s σ H R I q
def isTupE : Expr → Prop | .Tuple _ _ _ => True | _ => False
def okTg (it : MI) (tg : Expr) : Prop := match it with | .zip _ _ => isTupE tg | _ => True
def SI (G : Gm) (call : CF) (xn : Str → List Str) (X : Cx) (it : MI) (e : Expr) : Prop := ∀ (tg : Expr), okTg it tg → ∀ (W : WX) (C : Addr → Prop) (ad : Nat → Addr) (σ : L2.St) (ρ : Ro) (F H : Hp), Takes X W → EnvOk X.K C ad F H σ ρ →
  Sd X xn W C ad σ F H (evI G call it ρ) (fun ds _ F' _ _ (J : It) => WalkD X.K F' J ds) (fun R => Wi X tg e σ H R)
theorem si_seq (ha : SE G call xn X a x) : SI G call xn X (.seq a) x := by
  intro tg okt W C ad σ ρ F H tk en
  unfold evI
  have k := ha.dd tk en
  cases ho : asD (ev G call a ρ) with
  | no => trivial
  | ex c fs ρ' =>
    rw [ho] at k
    exact fun q Q => Wi.of (pi_tup pe_we) (k q _)
  | ok d ρ1 =>
    rw [ho] at k
    cases d with
    | tup xs =>
      intro Q q
      refine Wi.of (pi_tup pe_we) (k _ fun v F1 H1 s1 e1 h1 => ?_)
      obtain ⟨p, vs, e0, h2, h3⟩ := Rep.tup.mp (show Rep X.K F1 (.tup xs) v from h1)
      exact ⟨p, e0, ⟨vs, SqT.le e1.le h2⟩, q _ F1 H1 s1 e1 (walk_tupD h2 h3)⟩
    | lst xs =>
      intro Q q
      refine Wi.of (pi_list pe_we) (k _ fun v F1 H1 s1 e1 h1 => ?_)
      obtain ⟨p, vs, e0, h2, h3⟩ := Rep.lst.mp (show Rep X.K F1 (.lst xs) v from h1)
      exact ⟨p, e0, ⟨vs, .inl (Rd.le e1.le h2)⟩, q _ F1 H1 s1 e1 (walk_lstD h2 h3)⟩
    | _ => trivial
theorem si_rng1 {n p : Pos} (xo : XOk G call xn X) (hp : plainE x = true) (hg : glb X.env.scope "range" = true) (ha : SE G call xn X a x) : SI G call xn X (.rng1 a) (.Call (.Name "range" n) [x] [] p) := by
  intro tg okt W C ad σ ρ F H tk en
  obtain ⟨g1, g2, g3⟩ := glb_ok hg
  unfold evI
  refine Sd.imp (T := fun R => We X x σ H fun v H1 => ∃ j : Int, [v] = [V.int j] ∧ -(2 ^ 62) ≤ j ∧ j < 2 ^ 62 ∧ R (Itr 0 j.toNat) H1) ?_ fun Q q => Wi.of (pi_range1 g1 xo.rng (pa_cons pe_we pa_nil (star_plain hp)) (star_plain hp)) q
  refine Sd.bind (T2 := fun v H1 R => ∃ j : Int, [v] = [V.int j] ∧ -(2 ^ 62) ≤ j ∧ j < 2 ^ 62 ∧ R (Itr 0 j.toNat) H1) (ha.dd tk en) (fun d ρ1 v F1 H1 s1 e1 h1 => ?_) fun _ _ _ _ _ _ _ _ r => r
  cases d with
  | int n =>
    show Sd X xn W C ad σ F1 H1 (if n.natAbs < 2 ^ 60 then .ok (rngL 0 n.toNat) ρ1 else .no) _ _
    by_cases hn : n.natAbs < 2 ^ 60
    · rw [if_pos hn]
      exact fun Q q => ⟨n, by rw [Rep.int.mp (show Rep X.K F1 (.int n) v from h1)], by omega, by omega, q _ F1 H1 e1.stp e1 walk_rngD⟩
    · rw [if_neg hn]; trivial
  | _ => trivial
theorem si_rng2 {n p : Pos} (xo : XOk G call xn X) (hp : plainE x = true) (hp2 : plainE y = true) (hg : glb X.env.scope "range" = true) (ha : SE G call xn X a x) (hb : SE G call xn X b y) : SI G call xn X (.rng2 a b) (.Call (.Name "range" n) [x, y] [] p) := by
  intro tg okt W C ad σ ρ F H tk en
  obtain ⟨g1, g2, g3⟩ := glb_ok hg
  unfold evI
  refine Sd.imp (T := fun R => We X x σ H fun v H1 => We X y σ H1 fun u H2 => ∃ i j : Int, [v, u] = [V.int i, V.int j] ∧ (-(2 ^ 62) ≤ i ∧ i < 2 ^ 62 ∧ -(2 ^ 62) ≤ j ∧ j < 2 ^ 62) ∧ R (Itr i (j - i).toNat) H2) ?_ fun Q q =>
    Wi.of (pi_range2 g1 xo.rng (pa_cons pe_we (pa_cons pe_we pa_nil (star_plain hp2)) (star_plain hp)) (by rw [star_plain hp, star_plain hp2]; rfl) (star_plain hp2)) q
  refine Sd.bind (T2 := fun v H1 R => We X y σ H1 fun u H2 => ∃ i j : Int, [v, u] = [V.int i, V.int j] ∧ (-(2 ^ 62) ≤ i ∧ i < 2 ^ 62 ∧ -(2 ^ 62) ≤ j ∧ j < 2 ^ 62) ∧ R (Itr i (j - i).toNat) H2) (ha.dd tk en) (fun d ρ1 v F1 H1 s1 e1 h1 => ?_) fun _ _ _ _ _ _ _ _ r => r
  refine Sd.bind (T2 := fun u H2 R => ∃ i j : Int, [v, u] = [V.int i, V.int j] ∧ (-(2 ^ 62) ≤ i ∧ i < 2 ^ 62 ∧ -(2 ^ 62) ≤ j ∧ j < 2 ^ 62) ∧ R (Itr i (j - i).toNat) H2) (hb.dd tk e1) (fun d' ρ2 u F2 H2 s2 e2 h2 => ?_) fun _ _ _ _ _ _ _ _ r => r
  cases d with
  | int m =>
    cases d' with
    | int n =>
      show Sd X xn W C ad σ F2 H2 (if m.natAbs < 2 ^ 60 ∧ n.natAbs < 2 ^ 60 then .ok (rngL m (n - m).toNat) ρ2 else .no) _ _
      by_cases hn : m.natAbs < 2 ^ 60 ∧ n.natAbs < 2 ^ 60
      · rw [if_pos hn]
        exact fun Q q => ⟨m, n, by rw [Rep.int.mp (show Rep X.K F1 (.int m) v from h1), Rep.int.mp (show Rep X.K F2 (.int n) u from h2)], ⟨by omega, by omega, by omega, by omega⟩, q _ F2 H2 e2.stp e2 walk_rngD⟩
      · rw [if_neg hn]; trivial
    | _ => trivial
  | _ => trivial
theorem si_rngD {j1 j2 : Nat} {n p p1 p2 p3 : Pos} (xo : XOk G call xn X) (hp : plainE x = true) (hg : glb X.env.scope "range" = true) (ha : SE G call xn X a x) :
    SI G call xn X (.rngD a) (.Call (.Name "range" n) [x, .Constant (.int 0) j1 p1, .UnaryOp .USub (.Constant (.int 1) j2 p2) p3] [] p) := by
  intro tg okt W C ad σ ρ F H tk en
  obtain ⟨g1, g2, g3⟩ := glb_ok hg
  unfold evI
  refine Sd.imp (T := fun R => We X x σ H fun v H1 => ∃ (i j c : Int) (n : Nat), [v, V.int 0, V.int (-1)] = [V.int i, V.int j, V.int c] ∧ RgC i j c n ∧ R (Itc i c n) H1) ?_ fun Q q =>
    Wi.of (pi_range3 g1 xo.rng (pa_cons pe_we (pa_cons pe_int (pa_cons (pe_un un_neg pe_int) pa_nil)) (star_plain hp)) (star_plain hp) rfl) (show tCons (We X x) _ σ H _ from ?_)
  · refine Sd.bind (T2 := fun v H1 R => ∃ (i j c : Int) (n : Nat), [v, V.int 0, V.int (-1)] = [V.int i, V.int j, V.int c] ∧ RgC i j c n ∧ R (Itc i c n) H1) (ha.dd tk en) (fun d ρ1 v F1 H1 s1 e1 h1 => ?_) fun _ _ _ _ _ _ _ _ r => r
    cases d with
    | int n =>
      show Sd X xn W C ad σ F1 H1 (if n.natAbs < 2 ^ 60 then .ok (dnL n.toNat) ρ1 else .no) _ _
      by_cases hn : n.natAbs < 2 ^ 60
      · rw [if_pos hn]
        intro Q q
        by_cases h0 : 0 ≤ n
        · have e0 : ((n.toNat : Nat) : Int) = n := Int.toNat_of_nonneg h0
          refine ⟨n, 0, -1, n.toNat, by rw [Rep.int.mp (show Rep X.K F1 (.int n) v from h1)], ?_, ?_⟩
          · have := RgC.neg (i := n) (j := 0) (by omega) (by omega) (by omega) (by omega)
            simpa using this
          · have := q (Itc ((n.toNat : Nat) : Int) (-1) n.toNat) F1 H1 e1.stp e1 walk_dnD
            rwa [e0] at this
        · have e0 : n.toNat = 0 := by omega
          refine ⟨n, 0, -1, n.toNat, by rw [Rep.int.mp (show Rep X.K F1 (.int n) v from h1)], ?_, ?_⟩
          · have := RgC.neg (i := n) (j := 0) (by omega) (by omega) (by omega) (by omega)
            simpa using this
          · refine q _ F1 H1 e1.stp e1 ?_
            rw [e0]
            intro Fc H l1 l2 i
            exact ⟨fun hi => absurd hi (by simp [dnL]), fun hi => Nat.zero_le _⟩
      · rw [if_neg hn]; trivial
    | _ => trivial
  · exact fun pins s I => thn (q pins s I) fun v s1 ⟨x1, H1, I1, r1, i, j, c, n, e1, e2, e3⟩ => ⟨x1, H1, I1, r1, 1, rfl, i, j, c, n, e1, e2, e3⟩
theorem si_zip {n p : Pos} (xo : XOk G call xn X) (hp : plainE x = true) (hp2 : plainE y = true) (hg : glb X.env.scope "zip" = true) (ha : SE G call xn X a x) (hb : SE G call xn X b y) : SI G call xn X (.zip a b) (.Call (.Name "zip" n) [x, y] [] p) := by
  intro tg okt W C ad σ ρ F H tk en
  obtain ⟨elts, kk, tp, rfl⟩ : ∃ elts kk tp, tg = .Tuple elts kk tp := by
    cases tg <;> first | exact ⟨_, _, _, rfl⟩ | exact okt.elim
  obtain ⟨g1, g2, g3⟩ := glb_ok hg
  unfold evI
  refine Sd.imp (T := fun R => We X x σ H fun v H1 => We X y σ H1 fun u H2 => ∃ a b xs ys, [v, u] = [V.ref a, V.ref b] ∧ ((SqL X.K H2 a xs ∧ SqL X.K H2 b ys ∧ R (Itz X.K a b) H2) ∨ (SqT X.K H2 a xs ∧ SqT X.K H2 b ys ∧ R (RZ.ItzT X.K a b) H2))) ?_ fun Q q =>
    Wi.of (RZ.pi_zipA g1 xo.zip (pa_cons pe_we (pa_cons pe_we pa_nil (star_plain hp2)) (star_plain hp)) (star_plain hp) (by rw [star_plain hp2]; rfl)) q
  refine Sd.bind (T2 := fun v H1 R => We X y σ H1 fun u H2 => ∃ a b xs ys, [v, u] = [V.ref a, V.ref b] ∧ ((SqL X.K H2 a xs ∧ SqL X.K H2 b ys ∧ R (Itz X.K a b) H2) ∨ (SqT X.K H2 a xs ∧ SqT X.K H2 b ys ∧ R (RZ.ItzT X.K a b) H2))) (ha.dd tk en) (fun d ρ1 v F1 H1 s1 e1 h1 => ?_) fun _ _ _ _ _ _ _ _ r => r
  refine Sd.bind (T2 := fun u H2 R => ∃ a b xs ys, [v, u] = [V.ref a, V.ref b] ∧ ((SqL X.K H2 a xs ∧ SqL X.K H2 b ys ∧ R (Itz X.K a b) H2) ∨ (SqT X.K H2 a xs ∧ SqT X.K H2 b ys ∧ R (RZ.ItzT X.K a b) H2))) (hb.dd tk e1) (fun d' ρ2 u F2 H2 s2 e2 h2 => ?_) fun _ _ _ _ _ _ _ _ r => r
  cases d with
  | tup xs =>
    cases d' with
    | tup ys =>
      intro Q q
      obtain ⟨pa, vs, rfl, a1, a2⟩ := Rep.tup.mp (Rep.le s2.le _ _ h1)
      obtain ⟨pb, us, rfl, b1, b2⟩ := Rep.tup.mp h2
      exact ⟨pa, pb, vs, us, rfl, .inr ⟨SqT.le e2.le a1, SqT.le e2.le b1, q _ F2 H2 e2.stp e2 (walk_zipD a1 a2 b1 b2)⟩⟩
    | _ => trivial
  | _ => trivial
end
end DI
end
section
set_option linter.all false
set_option maxRecDepth 100000
set_option Elab.async false
/-! DI10: list comprehensions. -/
namespace DI
open PySem PySem.Spec PyProof.Rows L2
def gT (K : PySem.W.Frag) : Tg → TG
  | .nm i => gName i
  | .two i j => gTup K 2 (gCons (gName i) (gCons (gName j) gNil))
def inT : Tg → Nat → Prop | .nm i, k => k = i | .two i j, k => k = i ∨ k = j
theorem wipe_get (σ : L2.St) : ∀ (vs : List Nat) (j : Nat), (wipe σ vs)[j]? = if j ∈ vs then (σ[j]?).map (fun _ => none) else σ[j]?
  | [], j => by simp [wipe]
  | v :: vs, j => by
    unfold wipe
    by_cases hj : v = j
    · subst hj
      rw [List.getElem?_set_self', wipe_get σ vs v]
      simp only [List.mem_cons, true_or, if_true]
      split <;> cases σ[v]? <;> rfl
    · rw [List.getElem?_set_ne hj, wipe_get σ vs j]
      have : (j ∈ v :: vs) ↔ j ∈ vs := by simp [Ne.symm hj]
      simp only [this]
theorem wipe_eq {σ τ : L2.St} {vs : List Nat} (hl : σ.length = τ.length) (h : ∀ j, j ∉ vs → σ[j]? = τ[j]?) : wipe σ vs = wipe τ vs := by
  apply List.ext_getElem?
  intro j
  rw [wipe_get, wipe_get]
  by_cases hj : j ∈ vs
  · rw [if_pos hj, if_pos hj]
    by_cases hn : j < σ.length
    · rw [List.getElem?_eq_getElem hn, List.getElem?_eq_getElem (hl ▸ hn)]; rfl
    · rw [List.getElem?_eq_none (by omega), List.getElem?_eq_none (by omega)]
  · rw [if_neg hj, if_neg hj]; exact h j hj
theorem wipeR_get (ρ : Ro) : ∀ (vs : List Nat) (j : Nat), (wipeR ρ vs)[j]? = if j ∈ vs then (ρ[j]?).map (fun _ => Sl.no) else ρ[j]?
  | [], j => by simp [wipeR]
  | v :: vs, j => by
    unfold wipeR
    by_cases hj : v = j
    · subst hj
      rw [List.getElem?_set_self', wipeR_get ρ vs v]
      simp only [List.mem_cons, true_or, if_true]
      split <;> cases ρ[v]? <;> rfl
    · rw [List.getElem?_set_ne hj, wipeR_get ρ vs j]
      have : (j ∈ v :: vs) ↔ j ∈ vs := by simp [Ne.symm hj]
      simp only [this]
theorem wipeR_len (ρ : Ro) : ∀ vs : List Nat, (wipeR ρ vs).length = ρ.length
  | [] => rfl
  | v :: vs => by unfold wipeR; rw [List.length_set, wipeR_len ρ vs]
theorem unwipe_len (ρ0 ρ : Ro) : ∀ vs : List Nat, (unwipe ρ0 ρ vs).length = ρ.length
  | [] => rfl
  | v :: vs => by
    unfold unwipe
    split
    · rw [List.length_set, unwipe_len ρ0 ρ vs]
    · exact unwipe_len ρ0 ρ vs
theorem unwipe_get {ρ0 ρ : Ro} (hl : ρ0.length = ρ.length) : ∀ (vs : List Nat) (j : Nat), (unwipe ρ0 ρ vs)[j]? = if j ∈ vs then ρ0[j]? else ρ[j]?
  | [], j => by simp [unwipe]
  | v :: vs, j => by
    have ih := unwipe_get hl vs j
    unfold unwipe
    split
    · rename_i s hs
      by_cases hj : v = j
      · subst hj
        have hv : v < (unwipe ρ0 ρ vs).length := by rw [unwipe_len, ← hl]; exact (List.getElem?_eq_some_iff.mp hs).1
        rw [List.getElem?_set_self hv]
        simp [hs]
      · rw [List.getElem?_set_ne hj, ih]
        have : (j ∈ v :: vs) ↔ j ∈ vs := by simp [Ne.symm hj]
        simp only [this]
    · rename_i hs
      by_cases hj : v = j
      · subst hj
        rw [ih]
        have h1 : ρ0[v]? = none := hs
        have h2 : ρ[v]? = none := List.getElem?_eq_none (by rw [← hl]; exact List.getElem?_eq_none_iff.mp hs)
        simp [h1, h2]
      · rw [ih]
        have : (j ∈ v :: vs) ↔ j ∈ vs := by simp [Ne.symm hj]
        simp only [this]
theorem cellAt_of {ρ ρ' : Ro} {i : Nat} (h : ρ[i]? = ρ'[i]?) : cellAt ρ i = cellAt ρ' i := by unfold cellAt; rw [h]
theorem setD_eq {ρ ρ1 : Ro} {i : Nat} {d : D} (h : setD ρ i d = some ρ1) : ρ1 = ρ.set i (.dat d) ∧ i < ρ.length := by
  unfold setD at h
  split at h
  · cases h
  · cases h
  · rename_i h1 h2
    have e := Option.some.inj h
    refine ⟨e.symm, ?_⟩
    by_cases hi : i < ρ.length
    · exact hi
    · exact absurd (List.getElem?_eq_none (by omega)) h2
theorem asg_len {ρ ρ1 : Ro} {t : Tg} {d : D} (h : asg t d ρ = some ρ1) : ρ1.length = ρ.length := by
  cases t with
  | nm i => rw [(setD_eq (show setD ρ i d = some ρ1 from h)).1, List.length_set]
  | two i j =>
    unfold asg at h
    simp only at h
    split at h
    · rename_i a b
      cases e1 : setD ρ i a with
      | none => rw [e1] at h; cases h
      | some ρ2 =>
        rw [e1] at h
        rw [(setD_eq (show setD ρ2 j b = some ρ1 from h)).1, List.length_set, (setD_eq e1).1, List.length_set]
    · cases h
section
variable {K : PySem.W.Frag} {C : Addr → Prop} {ad : Nat → Addr} {F H : Hp} {σ : L2.St} {ρ ρ1 : Ro}
theorem EnvOk.wiped (e : EnvOk K C ad F H σ ρ) (vs : List Nat) : EnvOk K C ad F H (wipe σ vs) (wipeR ρ vs) := by
  have key : ∀ {i : Nat} {s : Sl}, (wipeR ρ vs)[i]? = some s → s ≠ .no → i ∉ vs ∧ ρ[i]? = some s := fun {i s} h hs => by
    rw [wipeR_get] at h
    split at h
    · cases e1 : ρ[i]? with
      | none => rw [e1] at h; cases h
      | some t => rw [e1] at h; cases h; exact absurd rfl hs
    · rename_i hn; exact ⟨hn, h⟩
  have cel : ∀ {i : Nat} {l : List D}, cellAt (wipeR ρ vs) i = some l → i ∉ vs ∧ cellAt ρ i = some l := fun {i l} h => by
    have : i ∉ vs := fun hi => by
      unfold cellAt at h
      rw [wipeR_get, if_pos hi] at h
      cases e1 : ρ[i]? with
      | none => rw [e1] at h; cases h
      | some t => rw [e1] at h; cases h
    refine ⟨this, ?_⟩
    rw [← h]
    exact (cellAt_of (by rw [wipeR_get, if_neg this])).symm
  refine ⟨by rw [wipeR_len, wipe_length]; exact e.len, fun i d h => ?_, fun i l h => ?_, fun i j l m h1 h2 => e.inj i j l m (cel h1).2 (cel h2).2, e.le, e.off, e.there⟩
  · obtain ⟨h1, h2⟩ := key h (fun z => nomatch z)
    rw [wipe_get, if_neg h1]
    exact e.dat i d h2
  · obtain ⟨h1, h2⟩ := cel h
    rw [wipe_get, if_neg h1]
    exact e.cel i l h2
theorem EnvOk.setD {i : Nat} {d : D} {v : V} (e : EnvOk K C ad F H σ ρ) (h : DI.setD ρ i d = some ρ1) (r : Rep K F d v) : EnvOk K C ad F H (σ.set i (some v)) ρ1 := by
  have hρ := setD_eq h
  obtain ⟨rfl, hi⟩ := hρ
  have hiσ : i < σ.length := by rw [← e.len]; exact hi
  have cel : ∀ {j : Nat} {l : List D}, cellAt (ρ.set i (.dat d)) j = some l → j ≠ i ∧ cellAt ρ j = some l := fun {j l} h => by
    have hj : j ≠ i := fun z => by
      subst z
      unfold cellAt at h
      rw [List.getElem?_set_self hi] at h
      cases h
    refine ⟨hj, ?_⟩
    rw [← h]
    exact (cellAt_of (by rw [List.getElem?_set_ne (Ne.symm hj)])).symm
  refine ⟨by simp [e.len], fun j d' h => ?_, fun j l h => ?_, fun j k l m h1 h2 => e.inj j k l m (cel h1).2 (cel h2).2, e.le, e.off, e.there⟩
  · by_cases hj : j = i
    · subst hj
      rw [List.getElem?_set_self hi] at h
      cases h
      exact ⟨v, by rw [List.getElem?_set_self hiσ], r⟩
    · rw [List.getElem?_set_ne (Ne.symm hj)] at h ⊢
      exact e.dat j d' h
  · obtain ⟨hj, h2⟩ := cel h
    rw [List.getElem?_set_ne (Ne.symm hj)]
    exact e.cel j l h2
theorem asg_ok {t : Tg} {d : D} {v : V} {Q : L2.St → Hp → Prop} (e : EnvOk K C ad F H σ ρ) (h : asg t d ρ = some ρ1) (r : Rep K F d v)
    (q : ∀ σ1, EnvOk K C ad F H σ1 ρ1 → (∀ j, ¬ inT t j → σ1[j]? = σ[j]?) → Q σ1 H) : gT K t v σ H Q := by
  cases t with
  | nm i => exact q _ (e.setD h r) fun j hj => List.getElem?_set_ne fun z => hj z.symm
  | two i j =>
    unfold asg at h
    cases d with
    | tup xs =>
      match xs, h with
      | [a, b], h =>
        obtain ⟨p, vs, rfl, h1, h2⟩ := Rep.tup.mp r
        unfold Reps at h2
        obtain ⟨va, r1, rfl, ra, h2⟩ := h2
        unfold Reps at h2
        obtain ⟨vb, r2, rfl, rb, h2⟩ := h2
        unfold Reps at h2
        subst h2
        have h : (DI.setD ρ i a).bind (fun ρ => DI.setD ρ j b) = some ρ1 := h
        cases e1 : DI.setD ρ i a with
        | none => rw [e1] at h; cases h
        | some ρ2 =>
          rw [e1] at h
          refine ⟨p, [va, vb], rfl, SqT.le e.le h1, rfl, va, [vb], rfl, vb, [], rfl, rfl, ?_⟩
          refine q _ ((e.setD e1 ra).setD h rb) fun k hk => ?_
          have k1 : k ≠ i := fun z => hk (.inl z)
          have k2 : k ≠ j := fun z => hk (.inr z)
          rw [List.getElem?_set_ne (Ne.symm k2), List.getElem?_set_ne (Ne.symm k1)]
    | _ => cases h
end
section
variable {G : Gm} {call : CF} {xn : Str → List Str} {X : Cx} {W : WX} {C : Addr → Prop} {ad : Nat → Addr} {σ : L2.St} {ρ : Ro} {F H : Hp} {m a b c : ME} {e x y z tg : Expr}
theorem pg_N {i : Nat} {fr : Bool} (nd : X.N.Nodup) (hf : fr = true → ∀ x, X.fn x = true) (h : chkN X.N i X.env.scope fr e = true) : PG X e (gName i) := by
  unfold chkN at h
  split at h
  · rename_i y hy
    obtain ⟨p, rfl⟩ := eName_inv hy
    simp only [Bool.and_eq_true, decide_eq_true_eq, Bool.or_eq_true] at h
    obtain ⟨⟨h1, h2⟩, h3⟩ := h
    refine pg_name nd h1 (loc_ok h2) ?_
    rcases h3 with h3 | h3
    · exact .inl (hf h3 y)
    · exact .inr h3
  · cases h
theorem pg_T {t : Tg} {fr : Bool} (hc : X.calm = true) (nd : X.N.Nodup) (hf : fr = true → ∀ x, X.fn x = true) (h : chkG X.N t X.env.scope fr e = true) : PG X e (gT X.K t) := by
  cases t with
  | nm i => exact pg_N nd hf h
  | two i j =>
    unfold chkG at h
    simp only at h
    split at h
    · rename_i u w hu
      obtain ⟨k, p, rfl⟩ := eTup_inv hu
      simp only [Bool.and_eq_true] at h
      have pl : ∀ {i : Nat} {e : Expr}, chkN X.N i X.env.scope fr e = true → plainE e = true := fun {i e} h => by
        unfold chkN at h
        split at h
        · rename_i y hy
          obtain ⟨p, rfl⟩ := eName_inv hy
          rfl
        · cases h
      have nm : ∀ {i : Nat} {e : Expr} {es : List Expr}, chkN X.N i X.env.scope fr e = true → assignEach (e :: es) X.env = (false, assign e X.env) :: assignEach es X.env := fun {i e es} h => by
        unfold chkN at h
        split at h
        · rename_i y hy
          obtain ⟨p, rfl⟩ := eName_inv hy
          rfl
        · cases h
      have e2 : assignEach [u, w] X.env = [(false, assign u X.env), (false, assign w X.env)] := by rw [nm h.1.1, nm h.1.2]; rfl
      have e3 : assignEach [w] X.env = [(false, assign w X.env)] := by rw [nm h.1.2]; rfl
      exact pg_tup hc (pgs_cons (pg_N nd hf h.1.1) (pgs_cons (pg_N nd hf h.1.2) pgs_nil (by rw [e3]; rfl)) (by rw [e2, e3]; rfl)) (by rw [e2]; rfl) (by rw [e2]; rfl)
    · cases h
theorem pg_NB {i : Nat} {s0 : Shared} {H0 : Hp} {s : Scope} {C0 : Addr} {cl : List (Str × Addr)} {fp : List Addr} (nd : X.N.Nodup) (h : chkNB X.N i s X.env.scope e = true) : PG (X.blk s0 H0 s (compEnvC s cl C0 X.env) fp) e (gName i) := by
  unfold chkNB at h
  split at h
  · rename_i y hy
    obtain ⟨p, rfl⟩ := eName_inv hy
    simp only [Bool.and_eq_true, decide_eq_true_eq, Bool.or_eq_true] at h
    obtain ⟨⟨h1, h2⟩, h3⟩ := h
    refine pg_name (X := X.blk s0 H0 s (compEnvC s cl C0 X.env) fp) nd h1 (loc_ok h2) ?_
    rcases h3 with h3 | h3
    · exact .inr h3
    · refine .inl ?_
      show (s.names.lookup y == some .cell) = true
      rw [h3]; rfl
  · cases h
theorem pg_TB {t : Tg} {s0 : Shared} {H0 : Hp} {s : Scope} {C0 : Addr} {cl : List (Str × Addr)} {fp : List Addr} (hc : X.calm = true) (nd : X.N.Nodup) (h : chkGB X.N t s X.env.scope e = true) : PG (X.blk s0 H0 s (compEnvC s cl C0 X.env) fp) e (gT X.K t) := by
  cases t with
  | nm i => exact pg_NB nd h
  | two i j =>
    unfold chkGB at h
    simp only at h
    split at h
    · rename_i u w hu
      obtain ⟨k, p, rfl⟩ := eTup_inv hu
      simp only [Bool.and_eq_true] at h
      have nm : ∀ {i : Nat} {e : Expr} {es : List Expr} {env : Env}, chkNB X.N i s X.env.scope e = true → assignEach (e :: es) env = (false, assign e env) :: assignEach es env := fun {i e es env} h => by
        unfold chkNB at h
        split at h
        · rename_i y hy
          obtain ⟨p, rfl⟩ := eName_inv hy
          rfl
        · cases h
      let Y := X.blk s0 H0 s (compEnvC s cl C0 X.env) fp
      have e2 : assignEach [u, w] Y.env = [(false, assign u Y.env), (false, assign w Y.env)] := by rw [nm h.1.1, nm h.1.2]; rfl
      have e3 : assignEach [w] Y.env = [(false, assign w Y.env)] := by rw [nm h.1.2]; rfl
      exact pg_tup (X := Y) hc (pgs_cons (X := Y) (pg_NB nd h.1.1) (pgs_cons (X := Y) (pg_NB nd h.1.2) (pgs_nil (X := Y)) (by rw [e3]; rfl)) (by rw [e2, e3]; rfl)) (by rw [e2]; rfl) (by rw [e2]; rfl)
    · cases h
theorem XOk.blk {s0 : Shared} {H0 : Hp} {scope : Scope} {cenv : Env} {fp : List Addr} (xo : XOk G call xn X) : XOk G call xn (X.blk s0 H0 scope cenv fp) :=
  ⟨xo.calm, xo.gd, xo.nd, xo.un, xo.blt, xo.tyn, xo.isi, xo.rng, xo.zip, xo.con, xo.fns, xo.dic⟩
theorem takesF {s0 : Shared} {H0 : Hp} {scope : Scope} {cenv : Env} {fp : List Addr} : Takes (X.blk s0 H0 scope cenv fp) (fun _ _ _ _ => False) := fun u s' h => by
  obtain ⟨a, B, sI, pins, σ, H, cls, d, _, _, _, _, _, _, _, _, w⟩ := h
  exact w.elim
/-- the readings in a comprehension's block, whichever it is -/
def teB (X : Cx) (scope : Scope) (e : Expr) : TE := fun σ H Q => ∀ (s0 : Shared) (H0 : Hp) (C0 : Addr) (cl : List (Str × Addr)) (fp : List Addr), We (X.blk s0 H0 scope (compEnvC scope cl C0 X.env) fp) e σ H Q
def ttB (X : Cx) (scope : Scope) (e : Expr) : TT := fun σ H Q => ∀ (s0 : Shared) (H0 : Hp) (C0 : Addr) (cl : List (Str × Addr)) (fp : List Addr), Wt (X.blk s0 H0 scope (compEnvC scope cl C0 X.env) fp) e σ H Q
def ttC (X : Cx) (scope : Scope) : MC → List Expr → TT
  | .one _, [e] => ttB X scope e
  | _, _ => tYes
theorem noEx_ok {α : Type} {o : Out α} {a : α} {ρ : Ro} (h : noEx o = .ok a ρ) : o = .ok a ρ := by cases o <;> first | exact h | cases h
def IfsOk : MC → List Expr → Prop | .yes, f => f = [] | .one _, f => ∃ ce, f = [ce]
theorem lc_sd {elt : ME} {t : Tg} {it : MI} {cd : MC} {own : List Nat} {tgE iterE eltE : Expr} {ifs : List Expr} {scope : Scope} (hw : SI G call xn X it iterE) (hot : okTg it tgE) (hin : ∀ k, inT t k → k ∈ own)
    (hifs : IfsOk cd ifs)
    (hcd : ∀ c ce, cd = .one c → ifs = [ce] → ∀ (s0 : Shared) (H0 : Hp) (C0 : Addr) (cl : List (Str × Addr)) (fp : List Addr), ST G call xn (X.blk s0 H0 scope (compEnvC scope cl C0 X.env) fp) c ce)
    (hel : ∀ (s0 : Shared) (H0 : Hp) (C0 : Addr) (cl : List (Str × Addr)) (fp : List Addr), SE G call xn (X.blk s0 H0 scope (compEnvC scope cl C0 X.env) fp) elt eltE)
    (tk : Takes X W) (en : EnvOk X.K C ad F H σ ρ) : Sd X xn W C ad σ F H (ev G call (.lc elt t it cd own) ρ) (RR X.K C ad) (fun Q => tLc (Wi X tgE iterE) (gT X.K t) (ttC X scope cd ifs) (teB X scope eltE) own σ H Q) := by
  unfold ev
  have k := hw tgE hot W C ad σ ρ F H tk en
  cases ho : evI G call it ρ with
  | no => trivial
  | ex c fs ρ' => rw [ho] at k; exact fun q Q => k q _
  | ok ds ρ1 =>
    rw [ho] at k
    show Sd X xn W C ad σ F H (if (own.all fun i => (cellAt ρ1 i).isNone) = true then _ else _) _ _
    by_cases hown : (own.all fun i => (cellAt ρ1 i).isNone) = true
    · rw [if_pos hown]
      cases hL : noEx (lcL (fun ρ => evC G call cd ρ) (fun ρ => asD (ev G call elt ρ)) t own ds (wipeR ρ1 own) []) with
      | no => trivial
      | ex c fs ρ' =>
        exfalso
        cases hz : lcL (fun ρ => evC G call cd ρ) (fun ρ => asD (ev G call elt ρ)) t own ds (wipeR ρ1 own) [] <;> rw [hz] at hL <;> cases hL
      | ok l ρ' =>
        have hL := noEx_ok hL
        intro Q q
        refine k _ fun J F1 H1 s1 e1 wk => ?_
        intro D hD
        have nC := e1.notC hD
        have fD := e1.F_none hD
        have neD : ∀ {p : Addr}, C p → p ≠ D := fun {p} (hp : C p) (z : p = D) => nC (z ▸ hp)
        refine ⟨fun i m Hc => ∃ (ρi : Ro) (acc : List DI.D) (av : List V) (Fi : Hp), m = ds.length - i ∧ i ≤ ds.length ∧ lcL (fun ρ => evC G call cd ρ) (fun ρ => asD (ev G call elt ρ)) t own (ds.drop i) ρi acc = .ok l ρ' ∧
            EnvOk X.K C ad Fi Hc (wipe σ own) ρi ∧ Stp C F1 H1 Fi Hc ∧ Hc D = some (.lst av) ∧ Fi D = none ∧ Reps X.K Fi acc av, ⟨ds.length, ?_⟩, ?_⟩
        · exact ⟨wipeR ρ1 own, [], [], F1, by simp, Nat.zero_le _, by simpa using hL, (e1.fresh hD).wiped own, e1.stpN hD, upd_same, fD, Reps.nil⟩
        · rintro i m Hc ⟨ρi, acc, av, Fi, hm, hi, hr, ei, si, hDi, fDi, ra⟩
          have wki := wk Fi Hc si.le ei.le i
          by_cases hlt : i < ds.length
          · refine .inr ⟨(wki.1 hlt).1, fun Hn => ∃ (ρi : Ro) (acc : List DI.D) (av : List V) (Fi : Hp), lcL (fun ρ => evC G call cd ρ) (fun ρ => asD (ev G call elt ρ)) t own (ds.drop (i + 1)) ρi acc = .ok l ρ' ∧
              EnvOk X.K C ad Fi Hn (wipe σ own) ρi ∧ Stp C F1 H1 Fi Hn ∧ Hn D = some (.lst av) ∧ Fi D = none ∧ Reps X.K Fi acc av, ?_, ?_⟩
            · rintro Hn ⟨ρn, an, vn, Fn, n1, n2⟩
              exact ⟨ds.length - (i + 1), by omega, ρn, an, vn, Fn, rfl, by omega, n1, n2⟩
            · intro xv H' hy
              obtain ⟨d, hd, hz⟩ := (wki.1 hlt).2 xv H' hy
              obtain ⟨Fj, sj, ej, rd⟩ := yld_step ei hz
              have fDi := stp_off sj hDi fDi
              have hDi : H' D = some (.lst av) := sj.keep D _ hDi nC
              have si := si.trans sj
              have ra := Reps.le sj.le _ _ ra
              have hdr : ds.drop i = d :: ds.drop (i + 1) := by
                obtain ⟨h1, h2⟩ := List.getElem?_eq_some_iff.mp hd
                rw [← h2]; exact List.drop_eq_getElem_cons h1
              rw [hdr] at hr
              unfold lcL at hr
              cases hA : asg t d ρi with
              | none => rw [hA] at hr; cases hr
              | some ρ2 =>
                rw [hA] at hr
                refine asg_ok ej hA rd fun σ2 e2 off => ?_
                have hl2 : σ2.length = (wipe σ own).length := by rw [← e2.len, ← ej.len]; exact asg_len hA
                have hw2 : wipe σ2 own = wipe σ own := by
                  have : wipe σ2 own = wipe (wipe σ own) own := wipe_eq hl2 fun j hj => off j fun z => hj (hin j z)
                  rw [this]
                  exact wipe_eq (wipe_length σ own) fun j hj => by rw [wipe_get, if_neg hj]
                have hw3 : wipe σ2 own = wipe (wipe σ own) own := by
                  rw [hw2]; exact (wipe_eq (wipe_length σ own) fun j hj => by rw [wipe_get, if_neg hj]).symm
                refine ⟨hw2, ?_⟩
                -- the tests
                have tst : ∀ (b : Bool) (ρ3 : Ro), evC G call cd ρ2 = .ok b ρ3 → ∀ Qt : Bool → Hp → Prop, (∀ F3 H3, Stp C Fj H' F3 H3 → EnvOk X.K C ad F3 H3 σ2 ρ3 → Qt b H3) → ttC X scope cd ifs σ2 H' Qt := by
                  intro b ρ3 hb Qt qt
                  cases cd with
                  | yes =>
                    unfold evC at hb
                    cases hb
                    have hifs : ifs = [] := hifs
                    subst hifs
                    exact qt Fj H' ej.stp e2
                  | one c =>
                    obtain ⟨ce, rfl⟩ := (show ∃ ce, ifs = [ce] from hifs)
                    intro s0 H0 C0 cl fp
                    have kc := hcd c ce rfl rfl s0 H0 C0 cl fp (fun _ _ _ _ => False) C ad σ2 ρ2 Fj H' takesF e2
                    rw [show asT (ev G call c ρ2) = .ok b ρ3 from by rw [← hb]; unfold evC; rfl] at kc
                    exact kc _ fun y F3 H3 s3 e3 hy => by subst hy; exact qt F3 H3 s3 e3
                dsimp only at hr
                cases hC : evC G call cd ρ2 with
                | no => rw [hC] at hr; cases hr
                | ex => rw [hC] at hr; cases hr
                | ok b ρ3 =>
                  rw [hC] at hr
                  have hr : (if b = true then (asD (ev G call elt ρ3)).bind fun x ρ3 => if acc.length < LIM then lcL (fun ρ => evC G call cd ρ) (fun ρ => asD (ev G call elt ρ)) t own (ds.drop (i + 1)) (wipeR ρ3 own) (acc ++ [x]) else .no
                    else lcL (fun ρ => evC G call cd ρ) (fun ρ => asD (ev G call elt ρ)) t own (ds.drop (i + 1)) (wipeR ρ3 own) acc) = .ok l ρ' := hr
                  refine tst b ρ3 hC _ fun F3 H3 s3 e3 => ?_
                  have hD3 : H3 D = some (.lst av) := s3.keep D _ hDi nC
                  have fD3 : F3 D = none := by
                    cases z : F3 D with
                    | none => rfl
                    | some o =>
                      rcases s3.new D o z with z | z
                      · rw [fDi] at z; cases z
                      · rw [hDi] at z; cases z
                  cases b with
                  | false =>
                    rw [if_neg Bool.false_ne_true] at hr ⊢
                    have e4 := e3.wiped own
                    rw [hw2] at e4
                    exact ⟨_, acc, av, F3, hr, e4, si.trans s3, hD3, fD3, Reps.le s3.le _ _ ra⟩
                  | true =>
                    rw [if_pos rfl] at hr ⊢
                    cases hE : asD (ev G call elt ρ3) with
                    | no => rw [hE] at hr; cases hr
                    | ex => rw [hE] at hr; cases hr
                    | ok xd ρ4 =>
                      rw [hE] at hr
                      have hr : (if acc.length < LIM then lcL (fun ρ => evC G call cd ρ) (fun ρ => asD (ev G call elt ρ)) t own (ds.drop (i + 1)) (wipeR ρ4 own) (acc ++ [xd]) else .no) = .ok l ρ' := hr
                      by_cases hz : acc.length < LIM
                      · rw [if_pos hz] at hr
                        intro s0 H0 C0 cl fp
                        have ke := (hel s0 H0 C0 cl fp).dd (W := fun _ _ _ _ => False) (C := C) (ad := ad) (σ := σ2) (ρ := ρ3) (F := F3) (H := H3) takesF e3
                        rw [hE] at ke
                        refine ke _ fun yv F4 H4 s4 e4 ry => ?_
                        have hD4 : H4 D = some (.lst av) := s4.keep D _ hD3 nC
                        have fD4 : F4 D = none := by
                          cases z : F4 D with
                          | none => rfl
                          | some o =>
                            rcases s4.new D o z with z | z
                            · rw [fD3] at z; cases z
                            · rw [hD3] at z; cases z
                        have la : av.length = acc.length := ra.len
                        refine ⟨av, hD4, by rw [la]; exact Nat.lt_of_lt_of_le hz lim_line, ?_⟩
                        have s14 := (si.trans s3).trans s4
                        have e5 := e4.wiped own
                        rw [hw2] at e5
                        refine ⟨_, acc ++ [xd], av ++ [yv], F4, hr, ?_, ?_, upd_same, fD4, (Reps.le s4.le _ _ (Reps.le s3.le _ _ ra)).append (Reps.one ry)⟩
                        · refine ⟨e5.len, e5.dat, fun j lj hj => ?_, e5.inj, fun p o hp => ?_, e5.off, fun p hp => ?_⟩
                          · obtain ⟨c1, c2, vs, c3, c4⟩ := e5.cel j lj hj
                            exact ⟨c1, c2, vs, by rw [upd_ne (neD c2)]; exact c3, c4⟩
                          · rw [upd_ne (show p ≠ D from fun z => by subst z; rw [fD4] at hp; cases hp)]; exact e5.le p o hp
                          · rw [upd_ne (neD hp)]; exact e5.there p hp
                        · refine ⟨s14.le, fun p o hp hc => ?_, s14.new, s14.off⟩
                          rw [upd_ne (ne_of_none hp hD)]; exact s14.keep p o hp hc
                      · rw [if_neg hz] at hr; cases hr
          · have hie : i = ds.length := by omega
            subst hie
            rw [List.drop_length] at hr
            unfold lcL at hr
            cases hr
            refine .inl ⟨wki.2 (Nat.le_refl _), ?_⟩
            have hlen : ρ1.length = ρ'.length := by rw [e1.len, ei.len, wipe_length]
            have notcell : ∀ j ∈ own, cellAt ρ1 j = none := fun j hj => by
              have := List.all_eq_true.mp hown j hj
              simpa using this
            have cel : ∀ {j : Nat} {lj : List DI.D}, cellAt (unwipe ρ1 ρ' own) j = some lj → j ∉ own ∧ cellAt ρ' j = some lj := fun {j lj} h => by
              have hj : j ∉ own := fun hj => by
                have := cellAt_of (ρ := unwipe ρ1 ρ' own) (ρ' := ρ1) (i := j) (by rw [unwipe_get hlen, if_pos hj])
                rw [this, notcell j hj] at h; cases h
              exact ⟨hj, by rw [← h]; exact (cellAt_of (by rw [unwipe_get hlen, if_neg hj])).symm⟩
            refine q (.ref D) Fi Hc (s1.trans si) ?_ ⟨D, av, rfl, s1.none_back hD nC, nC, fDi, hDi, ra⟩
            refine ⟨by rw [unwipe_len, ← hlen]; exact e1.len, fun j d hd => ?_, fun j lj hj => ?_, fun j k2 l1 l2 h1 h2 => ei.inj j k2 l1 l2 (cel h1).2 (cel h2).2, ei.le, ei.off, ei.there⟩
            · rw [unwipe_get hlen] at hd
              split at hd
              · obtain ⟨v, h1, h2⟩ := e1.dat j d hd
                exact ⟨v, h1, Rep.le si.le _ _ h2⟩
              · rename_i hn
                obtain ⟨v, h1, h2⟩ := ei.dat j d hd
                rw [wipe_get, if_neg hn] at h1
                exact ⟨v, h1, h2⟩
            · obtain ⟨hn, h2⟩ := cel hj
              obtain ⟨c1, c2⟩ := ei.cel j lj h2
              rw [wipe_get, if_neg hn] at c1
              exact ⟨c1, c2⟩
    · rw [if_neg hown]; trivial
end
end DI
end
section
set_option linter.all false
set_option maxRecDepth 100000
set_option Elab.async false
/-! DIC: comprehensions with two sources. -/
namespace DI
open PySem PySem.Spec PyProof.Rows L2
section
variable {G : Gm} {call : CF} {xn : Str → List Str} {X : Cx} {W : WX} {C : Addr → Prop} {ad : Nat → Addr} {σ : L2.St} {ρ : Ro} {F H : Hp}
def wiB (X : Cx) (scope : Scope) (tg e : Expr) : TI := fun σ H R => ∀ (s0 : Shared) (H0 : Hp) (C0 : Addr) (cl : List (Str × Addr)) (fp : List Addr), Wi (X.blk s0 H0 scope (compEnvC scope cl C0 X.env) fp) tg e σ H R
theorem wipe_sub {σ : L2.St} {a b : List Nat} (h : ∀ i ∈ b, i ∈ a) : wipe (wipe σ b) a = wipe σ a :=
  wipe_eq (wipe_length σ b) fun j hj => by rw [wipe_get, if_neg fun z => hj (h j z)]
theorem lc2_sd {elt : ME} {t t2 : Tg} {it it2 : MI} {own own2 : List Nat} {tgE iterE tg2E iter2E eltE : Expr} {scope : Scope} (hw : SI G call xn X it iterE) (hot : okTg it tgE) (hin : ∀ k, inT t k → k ∈ own) (hin2 : ∀ k, inT t2 k → k ∈ own2) (hsub : ∀ i ∈ own2, i ∈ own)
    (hw2 : ∀ (s0 : Shared) (H0 : Hp) (C0 : Addr) (cl : List (Str × Addr)) (fp : List Addr), SI G call xn (X.blk s0 H0 scope (compEnvC scope cl C0 X.env) fp) it2 iter2E) (hot2 : okTg it2 tg2E)
    (hel : ∀ (s0 : Shared) (H0 : Hp) (C0 : Addr) (cl : List (Str × Addr)) (fp : List Addr), SE G call xn (X.blk s0 H0 scope (compEnvC scope cl C0 X.env) fp) elt eltE)
    (tk : Takes X W) (en : EnvOk X.K C ad F H σ ρ) : Sd X xn W C ad σ F H (ev G call (.lc2 elt t it t2 it2 own own2) ρ) (RR X.K C ad) (fun Q => tLc2 (Wi X tgE iterE) (gT X.K t) tYes (wiB X scope tg2E iter2E) (gT X.K t2) tYes (teB X scope eltE) own own2 σ H Q) := by
  unfold ev
  have k := hw tgE hot W C ad σ ρ F H tk en
  cases ho : evI G call it ρ with
  | no => trivial
  | ex c fs ρ' => rw [ho] at k; exact fun q Q => k q _
  | ok ds ρ1 =>
    rw [ho] at k
    show Sd X xn W C ad σ F H (if (own.all fun i => (cellAt ρ1 i).isNone) = true then _ else _) _ _
    by_cases hown : (own.all fun i => (cellAt ρ1 i).isNone) = true
    · rw [if_pos hown]
      generalize hI : (fun ρ => evI G call it2 ρ) = itF
      generalize hE0 : (fun ρ => asD (ev G call elt ρ)) = elF
      cases hL : noEx (lcL2 itF elF t t2 own own2 ds (wipeR ρ1 own) []) with
      | no => trivial
      | ex c fs ρ' =>
        exfalso
        cases hz : lcL2 itF elF t t2 own own2 ds (wipeR ρ1 own) [] <;> rw [hz] at hL <;> cases hL
      | ok l ρ' =>
        have hL := noEx_ok hL
        intro Q q
        refine k _ fun J F1 H1 s1 e1 wk => ?_
        intro D hD
        have nC := e1.notC hD
        have fD := e1.F_none hD
        have neD : ∀ {p : Addr}, C p → p ≠ D := fun {p} (hp : C p) (z : p = D) => nC (z ▸ hp)
        -- what stands between two turns
        let St : Hp → Ro → List DI.D → L2.St → Prop := fun Hc ρi acc τ => ∃ (av : List V) (Fi : Hp), EnvOk X.K C ad Fi Hc τ ρi ∧ Stp C F1 H1 Fi Hc ∧ Hc D = some (.lst av) ∧ Fi D = none ∧ Reps X.K Fi acc av
        refine ⟨fun i m Hc => ∃ (ρi : Ro) (acc : List DI.D), m = ds.length - i ∧ i ≤ ds.length ∧ lcL2 itF elF t t2 own own2 (ds.drop i) ρi acc = .ok l ρ' ∧ St Hc ρi acc (wipe σ own), ⟨ds.length, ?_⟩, ?_⟩
        · exact ⟨wipeR ρ1 own, [], by simp, Nat.zero_le _, by simpa using hL, [], F1, (e1.fresh hD).wiped own, e1.stpN hD, upd_same, fD, Reps.nil⟩
        · rintro i m Hc ⟨ρi, acc, hm, hi, hr, av, Fi, ei, si, hDi, fDi, ra⟩
          have wki := wk Fi Hc si.le ei.le i
          by_cases hlt : i < ds.length
          · refine .inr ⟨(wki.1 hlt).1, fun Hn => ∃ (ρi : Ro) (acc : List DI.D), lcL2 itF elF t t2 own own2 (ds.drop (i + 1)) ρi acc = .ok l ρ' ∧ St Hn ρi acc (wipe σ own), ?_, ?_⟩
            · rintro Hn ⟨ρn, an, n1, n2⟩
              exact ⟨ds.length - (i + 1), by omega, ρn, an, rfl, by omega, n1, n2⟩
            · intro xv H' hy
              obtain ⟨d, hd, hz⟩ := (wki.1 hlt).2 xv H' hy
              obtain ⟨Fj, sj, ej, rd⟩ := yld_step ei hz
              have fDi := stp_off sj hDi fDi
              have hDi : H' D = some (.lst av) := sj.keep D _ hDi nC
              have si := si.trans sj
              have ra := Reps.le sj.le _ _ ra
              have hdr : ds.drop i = d :: ds.drop (i + 1) := by
                obtain ⟨h1, h2⟩ := List.getElem?_eq_some_iff.mp hd
                rw [← h2]; exact List.drop_eq_getElem_cons h1
              rw [hdr] at hr
              unfold lcL2 at hr
              cases hA : asg t d ρi with
              | none => rw [hA] at hr; cases hr
              | some ρ2 =>
                rw [hA] at hr
                dsimp only at hr
                refine asg_ok ej hA rd fun σ2 e2 off => ?_
                have hl2 : σ2.length = (wipe σ own).length := by rw [← e2.len, ← ej.len]; exact asg_len hA
                have hw2' : wipe σ2 own = wipe σ own := by
                  have : wipe σ2 own = wipe (wipe σ own) own := wipe_eq hl2 fun j hj => off j fun z => hj (hin j z)
                  rw [this]
                  exact wipe_eq (wipe_length σ own) fun j hj => by rw [wipe_get, if_neg hj]
                refine ⟨hw2', ?_⟩
                unfold tYes
                dsimp only
                rw [if_pos rfl]
                cases hJ : itF ρ2 with
                | no => rw [hJ] at hr; cases hr
                | ex => rw [hJ] at hr; cases hr
                | ok ds2 ρ3 =>
                  rw [hJ] at hr
                  have hr : (lcL (fun ρ => .ok true ρ) elF t2 own2 ds2 (wipeR ρ3 own2) acc).bind (fun acc ρ3 => lcL2 itF elF t t2 own own2 (ds.drop (i + 1)) (wipeR ρ3 own) acc) = .ok l ρ' := hr
                  cases hM : lcL (fun ρ => .ok true ρ) elF t2 own2 ds2 (wipeR ρ3 own2) acc with
                  | no => rw [hM] at hr; cases hr
                  | ex => rw [hM] at hr; cases hr
                  | ok acc2 ρ4 =>
                    rw [hM] at hr
                    have hr : lcL2 itF elF t t2 own own2 (ds.drop (i + 1)) (wipeR ρ4 own) acc2 = .ok l ρ' := hr
                    intro s0 H0 C0 cl fp
                    have ki := hw2 s0 H0 C0 cl fp tg2E hot2 (fun _ _ _ _ => False) C ad σ2 ρ2 Fj H' takesF e2
                    have hJ' : evI G call it2 ρ2 = .ok ds2 ρ3 := by rw [← hJ, ← hI]
                    rw [hJ'] at ki
                    refine ki _ fun J1 F3 H3 s3 e3 wk1 => ?_
                    have fD3 := stp_off s3 hDi fDi
                    have hD3 : H3 D = some (.lst av) := s3.keep D _ hDi nC
                    have si3 := si.trans s3
                    have ra3 := Reps.le s3.le _ _ ra
                    refine ⟨fun j m Hc => ∃ (ρi : Ro) (acc : List DI.D) (av : List V) (Fi : Hp), m = ds2.length - j ∧ j ≤ ds2.length ∧ lcL (fun ρ => .ok true ρ) elF t2 own2 (ds2.drop j) ρi acc = .ok acc2 ρ4 ∧ EnvOk X.K C ad Fi Hc (wipe σ2 own2) ρi ∧ Le F3 Fi ∧ Stp C F1 H1 Fi Hc ∧ Hc D = some (.lst av) ∧ Fi D = none ∧ Reps X.K Fi acc av, ⟨ds2.length, ?_⟩, ?_⟩
                    · exact ⟨wipeR ρ3 own2, acc, av, F3, by simp, Nat.zero_le _, by simpa using hM, e3.wiped own2, fun _ _ z => z, si3, hD3, fD3, ra3⟩
                    · rintro j m Hc ⟨ρj, accj, avj, Fk, hm, hj, hrj, ek, lk, sk, hDk, fDk, rak⟩
                      have wkj := wk1 Fk Hc lk ek.le j
                      by_cases hlt2 : j < ds2.length
                      · refine .inr ⟨(wkj.1 hlt2).1, fun Hn => ∃ (ρi : Ro) (acc : List DI.D) (av : List V) (Fi : Hp), lcL (fun ρ => .ok true ρ) elF t2 own2 (ds2.drop (j + 1)) ρi acc = .ok acc2 ρ4 ∧ EnvOk X.K C ad Fi Hn (wipe σ2 own2) ρi ∧ Le F3 Fi ∧ Stp C F1 H1 Fi Hn ∧ Hn D = some (.lst av) ∧ Fi D = none ∧ Reps X.K Fi acc av, ?_, ?_⟩
                        · rintro Hn ⟨ρn, an, vn, Fn, n1, n2⟩
                          exact ⟨ds2.length - (j + 1), by omega, ρn, an, vn, Fn, rfl, by omega, n1, n2⟩
                        · intro xv2 H'' hy2
                          obtain ⟨d2, hd2, hz2⟩ := (wkj.1 hlt2).2 xv2 H'' hy2
                          obtain ⟨Fl, sl, el, rd2⟩ := yld_step ek hz2
                          have fDl := stp_off sl hDk fDk
                          have hDl : H'' D = some (.lst avj) := sl.keep D _ hDk nC
                          have sl' := sk.trans sl
                          have ral := Reps.le sl.le _ _ rak
                          have hdr2 : ds2.drop j = d2 :: ds2.drop (j + 1) := by
                            obtain ⟨h1, h2⟩ := List.getElem?_eq_some_iff.mp hd2
                            rw [← h2]; exact List.drop_eq_getElem_cons h1
                          rw [hdr2] at hrj
                          unfold lcL at hrj
                          cases hA2 : asg t2 d2 ρj with
                          | none => rw [hA2] at hrj; cases hrj
                          | some ρ5 =>
                            rw [hA2] at hrj
                            have hrj : ((elF ρ5).bind fun x ρ3 => if accj.length < LIM then lcL (fun ρ => .ok true ρ) elF t2 own2 (ds2.drop (j + 1)) (wipeR ρ3 own2) (accj ++ [x]) else .no) = .ok acc2 ρ4 := hrj
                            refine asg_ok el hA2 rd2 fun σ3 e5 off2 => ?_
                            have hl3 : σ3.length = (wipe σ2 own2).length := by rw [← e5.len, ← el.len]; exact asg_len hA2
                            have hw3 : wipe σ3 own2 = wipe σ2 own2 := by
                              have : wipe σ3 own2 = wipe (wipe σ2 own2) own2 := wipe_eq hl3 fun j hj => off2 j fun z => hj (hin2 j z)
                              rw [this]
                              exact wipe_sub fun _ h => h
                            refine ⟨hw3, ?_⟩
                            rw [if_pos rfl]
                            cases hX : elF ρ5 with
                            | no => rw [hX] at hrj; cases hrj
                            | ex => rw [hX] at hrj; cases hrj
                            | ok xd ρ6 =>
                              rw [hX] at hrj
                              have hrj : (if accj.length < LIM then lcL (fun ρ => .ok true ρ) elF t2 own2 (ds2.drop (j + 1)) (wipeR ρ6 own2) (accj ++ [xd]) else .no) = .ok acc2 ρ4 := hrj
                              by_cases hzl : accj.length < LIM
                              · rw [if_pos hzl] at hrj
                                intro s0 H0 C0 cl fp
                                have ke := (hel s0 H0 C0 cl fp).dd (W := fun _ _ _ _ => False) (C := C) (ad := ad) (σ := σ3) (ρ := ρ5) (F := Fl) (H := H'') takesF e5
                                have hX' : asD (ev G call elt ρ5) = .ok xd ρ6 := by rw [← hX, ← hE0]
                                rw [hX'] at ke
                                refine ke _ fun yv F7 H7 s7 e7 ry => ?_
                                have hD7 : H7 D = some (.lst avj) := s7.keep D _ hDl nC
                                have fD7 := stp_off s7 hDl fDl
                                have la : avj.length = accj.length := rak.len
                                refine ⟨avj, hD7, by rw [la]; exact Nat.lt_of_lt_of_le hzl lim_line, ?_⟩
                                have s17 := sl'.trans s7
                                have e8 := e7.wiped own2
                                rw [hw3] at e8
                                refine ⟨_, accj ++ [xd], avj ++ [yv], F7, hrj, ?_, fun a o z => s7.le a o (sl.le a o (lk a o z)), ?_, upd_same, fD7, (Reps.le s7.le _ _ ral).append (Reps.one ry)⟩
                                · refine ⟨e8.len, e8.dat, fun j lj hj => ?_, e8.inj, fun p o hp => ?_, e8.off, fun p hp => ?_⟩
                                  · obtain ⟨c1, c2, vs, c3, c4⟩ := e8.cel j lj hj
                                    exact ⟨c1, c2, vs, by rw [upd_ne (neD c2)]; exact c3, c4⟩
                                  · rw [upd_ne (show p ≠ D from fun z => by subst z; rw [fD7] at hp; cases hp)]; exact e8.le p o hp
                                  · rw [upd_ne (neD hp)]; exact e8.there p hp
                                · refine ⟨s17.le, fun p o hp hc => ?_, s17.new, s17.off⟩
                                  rw [upd_ne (ne_of_none hp hD)]; exact s17.keep p o hp hc
                              · rw [if_neg hzl] at hrj; cases hrj
                      · have hje : j = ds2.length := by omega
                        subst hje
                        rw [List.drop_length] at hrj
                        unfold lcL at hrj
                        cases hrj
                        refine .inl ⟨wkj.2 (Nat.le_refl _), wipeR ρ4 own, acc2, hr, avj, Fk, ?_, sk, hDk, fDk, rak⟩
                        have e9 := ek.wiped own
                        rw [wipe_sub hsub, hw2'] at e9
                        exact e9
          · have hie : i = ds.length := by omega
            subst hie
            rw [List.drop_length] at hr
            unfold lcL2 at hr
            cases hr
            refine .inl ⟨wki.2 (Nat.le_refl _), ?_⟩
            have hlen : ρ1.length = ρ'.length := by rw [e1.len, ei.len, wipe_length]
            have notcell : ∀ j ∈ own, cellAt ρ1 j = none := fun j hj => by
              have := List.all_eq_true.mp hown j hj
              simpa using this
            have cel : ∀ {j : Nat} {lj : List DI.D}, cellAt (unwipe ρ1 ρ' own) j = some lj → j ∉ own ∧ cellAt ρ' j = some lj := fun {j lj} h => by
              have hj : j ∉ own := fun hj => by
                have := cellAt_of (ρ := unwipe ρ1 ρ' own) (ρ' := ρ1) (i := j) (by rw [unwipe_get hlen, if_pos hj])
                rw [this, notcell j hj] at h; cases h
              exact ⟨hj, by rw [← h]; exact (cellAt_of (by rw [unwipe_get hlen, if_neg hj])).symm⟩
            refine q (.ref D) Fi Hc (s1.trans si) ?_ ⟨D, av, rfl, s1.none_back hD nC, nC, fDi, hDi, ra⟩
            refine ⟨by rw [unwipe_len, ← hlen]; exact e1.len, fun j d hd => ?_, fun j lj hj => ?_, fun j k2 l1 l2 h1 h2 => ei.inj j k2 l1 l2 (cel h1).2 (cel h2).2, ei.le, ei.off, ei.there⟩
            · rw [unwipe_get hlen] at hd
              split at hd
              · obtain ⟨v, h1, h2⟩ := e1.dat j d hd
                exact ⟨v, h1, Rep.le si.le _ _ h2⟩
              · rename_i hn
                obtain ⟨v, h1, h2⟩ := ei.dat j d hd
                rw [wipe_get, if_neg hn] at h1
                exact ⟨v, h1, h2⟩
            · obtain ⟨hn, h2⟩ := cel hj
              obtain ⟨c1, c2⟩ := ei.cel j lj h2
              rw [wipe_get, if_neg hn] at c1
              exact ⟨c1, c2⟩
    · rw [if_neg hown]; trivial
end
end DI
end
section
set_option linter.all false
set_option maxRecDepth 100000
set_option Elab.async false
/-! DIK: numbers.count(number), numbers a list in a name. -/
namespace DI
open PySem PySem.Spec PyProof.Rows L2
section
variable {G : Gm} {call : CF} {xn : Str → List Str} {X : Cx} {C : Addr → Prop} {ad : Nat → Addr} {F H : Hp} {σ : L2.St} {ρ : Ro} {b : ME} {o y e : Expr}
theorem pe_varV {i : Nat} (h : chkVr X.N i X.env.scope e = true) : PE X e (tVar i) := by
  unfold chkVr at h
  split at h
  · rename_i x hx
    obtain ⟨p, rfl⟩ := eName_inv hx
    simp only [Bool.and_eq_true, decide_eq_true_eq, Bool.not_eq_true'] at h
    obtain ⟨⟨⟨h1, h2⟩, h3⟩, h4⟩ := h
    exact pe_var h1 (vis_ok h2) h3 h4
  · cases h
theorem lst_at {K : PySem.W.Frag} {i : Nat} {xs : List D} (en : EnvOk K C ad F H σ ρ) (h : lstS ρ[i]? = some xs) : ∃ a vs, σ[i]? = some (some (V.ref a)) ∧ SqL K H a vs ∧ Reps K F xs vs := by
  unfold lstS at h
  split at h
  · rename_i ys e1
    cases h
    obtain ⟨v, a1, a2⟩ := en.dat i _ e1
    obtain ⟨a, vs, rfl, h1, h2⟩ := RepB.of en.le a2
    exact ⟨a, vs, a1, .inl h1, h2⟩
  · rename_i ys e1
    cases h
    obtain ⟨a1, a2, vs, a3, a4⟩ := en.cel i xs (by unfold cellAt; rw [e1])
    exact ⟨_, vs, a1, SqL.of a3, a4⟩
  · rename_i ys e1
    cases h
    obtain ⟨a1, a2, vs, a3, a4⟩ := en.cel i xs (by unfold cellAt; rw [e1])
    exact ⟨_, vs, a1, SqL.of a3, a4⟩
  · cases h
theorem We.mono {Q Q' : VK} (h : We X e σ H Q) (hq : ∀ v H1, Q v H1 → Q' v H1) : We X e σ H Q' := fun pins s I => thn (h pins s I) fun v s1 ⟨x, H1, I1, r1, q1⟩ => ⟨x, H1, I1, r1, hq _ _ q1⟩
theorem se_cnt {i : Nat} {ap cp : Pos} (hv : chkVr X.N i X.env.scope o = true) (hp : plainE y = true) (hl : (ap.endLine == cp.line) = true) (hb : SE G call xn X b y) :
    SE G call xn X (.cnt i b) (.Call (.Attribute o "count" ap) [y] [] cp) := by
  intro W C ad σ ρ F H tk en
  have ho : ∃ x q, o = .Name x q := by
    unfold chkVr at hv
    split at hv
    · rename_i x hx
      obtain ⟨q, rfl⟩ := eName_inv hx
      exact ⟨x, q, rfl⟩
    · cases hv
  obtain ⟨x, q0, rfl⟩ := ho
  unfold ev
  cases h0 : lstS ρ[i]? with
  | none => trivial
  | some xs0 =>
    obtain ⟨a, vs0, a1, a2, a3⟩ := lst_at en h0
    have PX := pe_bm (cpos := cp) (apos := ap) PySem.F.plainAttrs_list PySem.F.slot_list_count PySem.F.type_list_count mt_lcount (pe_varV hv) (pa_cons (pe_we (X := X) (e := y)) pa_nil (star_plain hp)) (by rfl)
      (by rw [star_plain hp]; rfl) hl (star_plain hp) rfl
    refine Sd.imp (T := fun Q => We X y σ H fun v H' => ∃ j, v = V.int j ∧ (fun (o : Option Int) H1 => ∃ k, o = some k ∧ rCntI X.K (V.ref a) [V.int k] H1 Q) (some j) H') ?_ fun Q q => We.of PX ⟨_, a1, .inl ⟨rfl, _, a2⟩, We.mono q fun v H1 h => ?_⟩
    · refine Sd.bind (T2 := fun (o : Option Int) H1 Q => ∃ k, o = some k ∧ rCntI X.K (V.ref a) [V.int k] H1 Q) (asI_sd (hb W C ad σ ρ F H tk en)) (fun k ρ1 o1 F1 H1 s1 e1 h1 => ?_) monoR
      subst h1
      cases h2 : lstS ρ1[i]? with
      | none => trivial
      | some xs =>
        obtain ⟨a', vs, b1, b2, b3⟩ := lst_at e1 h2
        have ea : V.ref a' = V.ref a := Option.some.inj (Option.some.inj (b1.symm.trans a1))
        cases ea
        show Sd X xn W C ad σ F1 H1 (ofO (cntR xs k) ρ1) _ _
        unfold cntR
        cases h3 : intsD xs with
        | none => trivial
        | some ns =>
          have ev := ints_v h3 b3
          subst ev
          exact fun Q q => ⟨k, rfl, a, ns, k, rfl, rfl, b2, q (V.int ((ns.count k : Nat) : Int)) F1 H1 e1.stp e1 (show Rep X.K F1 (.int ((ns.count k : Nat) : Int)) (V.int ((ns.count k : Nat) : Int)) from Rep.int.mpr rfl)⟩
    · obtain ⟨j, rfl, k, e2, h3⟩ := h
      cases e2
      exact h3
theorem se_ixo {i : Nat} {ap cp : Pos} (hv : chkVr X.N i X.env.scope o = true) (hp : plainE y = true) (hl : (ap.endLine == cp.line) = true) (hb : SE G call xn X b y) :
    SE G call xn X (.ixo i b) (.Call (.Attribute o "index" ap) [y] [] cp) := by
  intro W C ad σ ρ F H tk en
  have ho : ∃ x q, o = .Name x q := by
    unfold chkVr at hv
    split at hv
    · rename_i x hx
      obtain ⟨q, rfl⟩ := eName_inv hx
      exact ⟨x, q, rfl⟩
    · cases hv
  obtain ⟨x, q0, rfl⟩ := ho
  unfold ev
  cases h0 : lstS ρ[i]? with
  | none => trivial
  | some xs0 =>
    obtain ⟨a, vs0, a1, a2, a3⟩ := lst_at en h0
    have PX := pe_bm (cpos := cp) (apos := ap) PySem.F.plainAttrs_list PySem.F.slot_list_index PySem.F.type_list_index mt_lindexI (pe_varV hv) (pa_cons (pe_we (X := X) (e := y)) pa_nil (star_plain hp)) (by rfl)
      (by rw [star_plain hp]; rfl) hl (star_plain hp) rfl
    refine Sd.imp (T := fun Q => We X y σ H fun v H' => ∃ j, v = V.int j ∧ (fun (o : Option Int) H1 => ∃ k, o = some k ∧ rIxI X.K SqL (V.ref a) [V.int k] H1 Q) (some j) H') ?_ fun Q q => We.of PX ⟨_, a1, .inl ⟨rfl, _, a2⟩, We.mono q fun v H1 h => ?_⟩
    · refine Sd.bind (T2 := fun (o : Option Int) H1 Q => ∃ k, o = some k ∧ rIxI X.K SqL (V.ref a) [V.int k] H1 Q) (asI_sd (hb W C ad σ ρ F H tk en)) (fun k ρ1 o1 F1 H1 s1 e1 h1 => ?_) monoR
      subst h1
      cases h2 : lstS ρ1[i]? with
      | none => trivial
      | some xs =>
        obtain ⟨a', vs, b1, b2, b3⟩ := lst_at e1 h2
        have ea : V.ref a' = V.ref a := Option.some.inj (Option.some.inj (b1.symm.trans a1))
        cases ea
        show Sd X xn W C ad σ F1 H1 (ofO (idxOfR xs k) ρ1) _ _
        unfold idxOfR
        cases h3 : intsD xs with
        | none => trivial
        | some ns =>
          have ev := ints_v h3 b3
          subst ev
          show Sd X xn W C ad σ F1 H1 (ofO (if k ∈ ns then some (Res.dat (D.int (ns.idxOf k : Nat))) else none) ρ1) _ _
          by_cases hk : k ∈ ns
          · rw [if_pos hk]
            exact fun Q q => ⟨k, rfl, a, ns, k, rfl, rfl, b2, hk, q _ F1 H1 e1.stp e1 (show Rep X.K F1 (.int ((ns.idxOf k : Nat) : Int)) (V.int ((ns.idxOf k : Nat) : Int)) from Rep.int.mpr rfl)⟩
          · rw [if_neg hk]; trivial
    · obtain ⟨j, rfl, k, e2, h3⟩ := h
      cases e2
      exact h3
end
end DI
end
section
set_option linter.all false
set_option maxRecDepth 100000
set_option Elab.async false
/-! DI11: every expression of the small language. -/
namespace DI
open PySem PySem.Spec PyProof.Rows L2
theorem hard_ok {X : Cx} {f : Bl} (hu : X.A.units + 80 < cLine) (hg : X.A.guards = some []) (h : blHard f = true) {C : Addr → Prop} {ad : Nat → Addr} {F H : Hp} {σ : L2.St} {ρ : Ro} {v : V} {d : D} {r : Res} {Q : VK} :
    EnvOk X.K C ad F H σ ρ → RepB X.K F H d v → bltR f d = some r → Fin X C ad F H σ ρ r Q → rcl X (blVal f) [v] H Q := fun e hx hr q => by
  cases f <;> first | (cases h; done) | exact sorted_ok hu e hx hr q | exact repr_ok hu hg e hx hr q
section
variable {G : Gm} {call : CF} {xn : Str → List Str}
/-- e's shape tells that it is a test by itself -/
def plT : Expr → Bool | .Name _ _ => true | .Call _ _ _ _ => true | .Subscript _ _ _ => true | .Constant _ _ _ => true | .Tuple _ _ _ => true | .List _ _ => true | .BinOp _ _ _ _ => true | .UnaryOp .USub _ _ => true | .ListComp _ _ _ _ => true | _ => false
theorem plT_ok {e : Expr} (h : plT e = true) {env : Env} : ∀ whole, isTrue e env whole = (do let v ← whole; standAt e.pos; holding [v] (truthy v)) := by
  intro w
  cases e with
  | UnaryOp o a p => cases o <;> first | rfl | cases h
  | _ => first | rfl | cases h
theorem plain_of {N : List Str} {m : ME} {sc : Scope} {e : Expr} (h : chk N m sc e = true) : plainE e = true := by
  cases e with
  | Starred a p => cases m <;> simp [chk, eName, eConst, eTup, eLis, eBin, eUn, eCmp, eBool, eIf, eSub, eCall, eCallS, eLc1, eLc2, eMeth, eRv, eCnt] at h
  | Slice a b c p => cases m <;> simp [chk, eName, eConst, eTup, eLis, eBin, eUn, eCmp, eBool, eIf, eSub, eCall, eCallS, eLc1, eLc2, eMeth, eRv, eCnt] at h
  | Set a k p => cases m <;> simp [chk, eName, eConst, eTup, eLis, eBin, eUn, eCmp, eBool, eIf, eSub, eCall, eCallS, eLc1, eLc2, eMeth, eRv, eCnt] at h
  | _ => rfl
theorem chks_plain {N : List Str} : ∀ {ms : MEs} {sc : Scope} {es : List Expr}, chks N ms sc es = true → es.all plainE = true
  | .nil, sc, [], _ => rfl
  | .nil, sc, _ :: _, h => by unfold chks at h; cases h
  | .cons m r, sc, [], h => by unfold chks at h; cases h
  | .cons m r, sc, e :: es, h => by
    unfold chks at h
    simp only [Bool.and_eq_true] at h
    rw [List.all_cons, h.1.1, chks_plain h.2]; rfl
theorem ifs_of {N : List Str} {cd : MC} {sc : Scope} {f : List Expr} (hc : chkC N cd sc f = true) : IfsOk cd f := by
  cases cd with
  | yes => unfold chkC at hc; cases f with | nil => rfl | cons _ _ => cases hc
  | one c => unfold chkC at hc; match f, hc with | [ce], _ => exact ⟨ce, rfl⟩
theorem okTg_of {N : List Str} {it : MI} {t : Tg} {sc : Scope} {fr : Bool} {g : Expr} (h : tgI t it = true) (hg : chkG N t sc fr g = true) : okTg it g := by
  cases it with
  | zip a b =>
    cases t with
    | nm i => cases h
    | two i j =>
      unfold chkG at hg
      dsimp only at hg
      split at hg
      · rename_i u w hu
        obtain ⟨k, p, rfl⟩ := eTup_inv hu
        trivial
      · cases hg
  | _ => trivial
theorem okTg_ofB {N : List Str} {it : MI} {t : Tg} {s sc : Scope} {g : Expr} (h : tgI t it = true) (hg : chkGB N t s sc g = true) : okTg it g := by
  cases it with
  | zip a b =>
    cases t with
    | nm i => cases h
    | two i j =>
      unfold chkGB at hg
      dsimp only at hg
      split at hg
      · rename_i u w hu
        obtain ⟨k, p, rfl⟩ := eTup_inv hu
        trivial
      · cases hg
  | _ => trivial
theorem inTs_of {t : Tg} {own : List Nat} (h : inTs t own = true) : ∀ k, inT t k → k ∈ own := by
  intro k hk
  cases t with
  | nm j => have hk : k = j := hk; subst hk; simpa [inTs] using h
  | two j l =>
    unfold inTs at h
    rw [Bool.and_eq_true] at h
    rcases (show k = j ∨ k = l from hk) with hk | hk
    · subst hk; simpa using h.1
    · subst hk; simpa using h.2
/-- what is proved of a piece -/
def Good (G : Gm) (call : CF) (xn : Str → List Str) (X : Cx) (m : ME) (e : Expr) : Prop := SE G call xn X m e ∧ (tOk m = true → ST G call xn X m e)
theorem Good.sb {X : Cx} {m : ME} {e : Expr} (h : SB G call xn X m e) : Good G call xn X m e := ⟨h.se, fun _ => h.st⟩
theorem Good.pl {X : Cx} {m : ME} {e : Expr} (h : SE G call xn X m e) (p : plT e = true) : Good G call xn X m e := .sb (h.sb (plT_ok p))
mutual
theorem good : ∀ (m : ME) (X : Cx) (e : Expr), XOk G call xn X → chk X.N m X.env.scope e = true → Good G call xn X m e ∧ (tOk m = true → ∀ o l p, e = .BoolOp o l p → SW G call xn X m e)
  | .var i, X, e, xo, h => by
    have g := se_var (G := G) (call := call) (xn := xn) h
    unfold chk at h
    split at h
    · rename_i x hx
      obtain ⟨p, rfl⟩ := eName_inv hx
      exact ⟨.pl g rfl, fun _ o l p z => nomatch z⟩
    · cases h
  | .non, X, e, xo, h => by
    have g := se_non (G := G) (call := call) (xn := xn) h
    unfold chk at h
    split at h
    · rename_i hx
      obtain ⟨j, p, rfl⟩ := eConst_inv hx
      exact ⟨.pl g rfl, fun _ o l p z => nomatch z⟩
    · cases h
  | .bl b, X, e, xo, h => by
    have g := se_bl (G := G) (call := call) (xn := xn) h
    unfold chk at h
    split at h
    · rename_i hx
      obtain ⟨j, p, rfl⟩ := eConst_inv hx
      exact ⟨.pl g rfl, fun _ o l p z => nomatch z⟩
    · cases h
  | .int b, X, e, xo, h => by
    have g := se_int (G := G) (call := call) (xn := xn) h
    unfold chk at h
    split at h
    · rename_i hx
      obtain ⟨j, p, rfl⟩ := eConst_inv hx
      exact ⟨.pl g rfl, fun _ o l p z => nomatch z⟩
    · cases h
  | .str b, X, e, xo, h => by
    have g := se_str (G := G) (call := call) (xn := xn) h
    unfold chk at h
    split at h
    · rename_i hx
      obtain ⟨j, p, rfl⟩ := eConst_inv hx
      exact ⟨.pl g rfl, fun _ o l p z => nomatch z⟩
    · cases h
  | .glo b, X, e, xo, h => by
    have g := se_glo (G := G) (call := call) (xn := xn) xo h
    unfold chk at h
    split at h
    · rename_i hx
      obtain ⟨p, rfl⟩ := eName_inv hx
      exact ⟨.pl g rfl, fun _ o l p z => nomatch z⟩
    · cases h
  | .tup es, X, e, xo, h => by
    unfold chk at h
    split at h
    · rename_i l hx
      obtain ⟨k, p, rfl⟩ := eTup_inv hx
      exact ⟨.pl (se_tup (goodL es X l xo h)) rfl, fun _ o l p z => nomatch z⟩
    · cases h
  | .lis es, X, e, xo, h => by
    unfold chk at h
    split at h
    · rename_i l hx
      obtain ⟨p, rfl⟩ := eLis_inv hx
      exact ⟨.pl (se_lis (goodL es X l xo h)) rfl, fun _ o l p z => nomatch z⟩
    · cases h
  | .bin o a b, X, e, xo, h => by
    unfold chk at h
    split at h
    · rename_i x q y hx
      obtain ⟨p, rfl⟩ := eBin_inv hx
      simp only [Bool.and_eq_true, decide_eq_true_eq] at h
      obtain ⟨⟨rfl, h2⟩, h3⟩ := h
      exact ⟨.pl (se_bin (good a X x xo h2).1.1 (good b X y xo h3).1.1) rfl, fun _ o l p z => nomatch z⟩
    · cases h
  | .neg a, X, e, xo, h => by
    unfold chk at h
    split at h
    · rename_i x hx
      obtain ⟨p, rfl⟩ := eUn_inv hx
      exact ⟨.pl (se_neg (good a X x xo h).1.1) rfl, fun _ o l p z => nomatch z⟩
    · cases h
  | .nt a, X, e, xo, h => by
    unfold chk at h
    split at h
    · rename_i x hx
      obtain ⟨p, rfl⟩ := eUn_inv hx
      have g := good a X x xo h
      exact ⟨⟨se_nt g.1.1, fun t => st_nt (g.1.2 (by unfold tOk at t; exact t))⟩, fun _ o l p z => nomatch z⟩
    · cases h
  | .cmp o a b, X, e, xo, h => by
    unfold chk at h
    split at h
    · rename_i x q y hx
      obtain ⟨p, rfl⟩ := eCmp_inv hx
      simp only [Bool.and_eq_true, decide_eq_true_eq] at h
      obtain ⟨⟨⟨rfl, hp⟩, h2⟩, h3⟩ := h
      exact ⟨.sb (sb_cmp xo hp (good a X x xo h2).1.1 (good b X y xo h3).1.1), fun _ o l p z => nomatch z⟩
    · cases h
  | .isN a, X, e, xo, h => by
    unfold chk at h
    split at h
    · rename_i x y hx
      obtain ⟨p, rfl⟩ := eCmp_inv hx
      simp only [Bool.and_eq_true, decide_eq_true_eq] at h
      obtain ⟨j, p', rfl⟩ := eConst_inv h.1
      exact ⟨.sb (sb_isN (good a X x xo h.2).1.1), fun _ o l p z => nomatch z⟩
    · cases h
  | .notN a, X, e, xo, h => by
    unfold chk at h
    split at h
    · rename_i x y hx
      obtain ⟨p, rfl⟩ := eCmp_inv hx
      simp only [Bool.and_eq_true, decide_eq_true_eq] at h
      obtain ⟨j, p', rfl⟩ := eConst_inv h.1
      exact ⟨.sb (sb_notN (good a X x xo h.2).1.1), fun _ o l p z => nomatch z⟩
    · cases h
  | .isin a b, X, e, xo, h => by
    unfold chk at h
    split at h
    · rename_i x y hx
      obtain ⟨p, rfl⟩ := eCmp_inv hx
      simp only [Bool.and_eq_true] at h
      exact ⟨.sb (sb_isin (neg := false) xo h.1.1 (good a X x xo h.1.2).1.1 (good b X y xo h.2).1.1 fun ρ => by rw [ev]; rfl), fun _ o l p z => nomatch z⟩
    · cases h
  | .nin a b, X, e, xo, h => by
    unfold chk at h
    split at h
    · rename_i x y hx
      obtain ⟨p, rfl⟩ := eCmp_inv hx
      simp only [Bool.and_eq_true] at h
      exact ⟨.sb (sb_isin (neg := true) xo h.1.1 (good a X x xo h.1.2).1.1 (good b X y xo h.2).1.1 fun ρ => by rw [ev]; rfl), fun _ o l p z => nomatch z⟩
    · cases h
  | .ch o o' a b c, X, e, xo, h => by
    unfold chk at h
    split at h
    · rename_i x q q' y z hx
      obtain ⟨p, rfl⟩ := eCmp_inv hx
      simp only [Bool.and_eq_true, decide_eq_true_eq] at h
      obtain ⟨⟨⟨⟨⟨rfl, rfl⟩, hp⟩, h2⟩, h3⟩, h4⟩ := h
      exact ⟨.sb (sb_ch xo hp (good a X x xo h2).1.1 (good b X y xo h3).1.1 (good c X z xo h4).1.1), fun _ o l p z => nomatch z⟩
    · cases h
  | .and a b, X, e, xo, h => by
    unfold chk at h
    split at h
    · rename_i x y r p hx
      have he := eBool_inv hx
      subst he
      simp only [Bool.and_eq_true] at h
      have ga := good a X x xo h.1
      cases r with
      | nil =>
        have gb := good b X y xo h.2
        have sw : tOk (.and a b) = true → SW G call xn X (.and a b) (.BoolOp .And [x, y] p) := fun t => by
          unfold tOk at t
          rw [Bool.and_eq_true] at t
          exact sw_and (ga.1.2 t.1) (gb.1.2 t.2).and1
        exact ⟨⟨se_and ga.1.1 gb.1.1.one, fun t => (sw t).st⟩, fun t o l p z => by cases z; exact sw t⟩
      | cons w r =>
        have gb := good b X (.BoolOp .And (y :: w :: r) p) xo h.2
        have sw : tOk (.and a b) = true → SW G call xn X (.and a b) (.BoolOp .And (x :: y :: w :: r) p) := fun t => by
          unfold tOk at t
          rw [Bool.and_eq_true] at t
          exact sw_and (ga.1.2 t.1) (gb.2 t.2 _ _ _ rfl)
        exact ⟨⟨se_and ga.1.1 gb.1.1, fun t => (sw t).st⟩, fun t o l p z => by cases z; exact sw t⟩
    · cases h
  | .or a b, X, e, xo, h => by
    unfold chk at h
    split at h
    · rename_i x y r p hx
      have he := eBool_inv hx
      subst he
      simp only [Bool.and_eq_true] at h
      have ga := good a X x xo h.1
      cases r with
      | nil =>
        have gb := good b X y xo h.2
        have sw : tOk (.or a b) = true → SW G call xn X (.or a b) (.BoolOp .Or [x, y] p) := fun t => by
          unfold tOk at t
          rw [Bool.and_eq_true] at t
          exact sw_or (ga.1.2 t.1) (gb.1.2 t.2).or1
        exact ⟨⟨se_or ga.1.1 gb.1.1.one, fun t => (sw t).st⟩, fun t o l p z => by cases z; exact sw t⟩
      | cons w r =>
        have gb := good b X (.BoolOp .Or (y :: w :: r) p) xo h.2
        have sw : tOk (.or a b) = true → SW G call xn X (.or a b) (.BoolOp .Or (x :: y :: w :: r) p) := fun t => by
          unfold tOk at t
          rw [Bool.and_eq_true] at t
          exact sw_or (ga.1.2 t.1) (gb.2 t.2 _ _ _ rfl)
        exact ⟨⟨se_or ga.1.1 gb.1.1, fun t => (sw t).st⟩, fun t o l p z => by cases z; exact sw t⟩
    · cases h
  | .ife c a b, X, e, xo, h => by
    unfold chk at h
    split at h
    · rename_i x y z hx
      obtain ⟨p, rfl⟩ := eIf_inv hx
      simp only [Bool.and_eq_true] at h
      obtain ⟨⟨⟨h1, h2⟩, h3⟩, h4⟩ := h
      exact ⟨⟨se_ife ((good c X x xo h2).1.2 h1) (good a X y xo h3).1.1 (good b X z xo h4).1.1, fun t => by unfold tOk at t; cases t⟩, fun _ o l p z => nomatch z⟩
    · cases h
  | .idx a i, X, e, xo, h => by
    unfold chk at h
    split at h
    · rename_i x y hx
      obtain ⟨p, rfl⟩ := eSub_inv hx
      simp only [Bool.and_eq_true] at h
      exact ⟨.pl (se_idx h.1.1 (good a X x xo h.1.2).1.1 (good i X y xo h.2).1.1) rfl, fun _ o l p z => nomatch z⟩
    · cases h
  | .slF a i, X, e, xo, h => by
    unfold chk at h
    split at h
    · rename_i x s hx
      obtain ⟨p, rfl⟩ := eSub_inv hx
      split at h
      · rename_i y hs
        obtain ⟨p2, rfl⟩ := eSli_inv hs
        simp only [Bool.and_eq_true] at h
        exact ⟨.pl (se_slF (good a X x xo h.1).1.1 (good i X y xo h.2).1.1) rfl, fun _ o l p z => nomatch z⟩
      · cases h
    · cases h
  | .slT a i, X, e, xo, h => by
    unfold chk at h
    split at h
    · rename_i x s hx
      obtain ⟨p, rfl⟩ := eSub_inv hx
      split at h
      · rename_i y hs
        obtain ⟨p2, rfl⟩ := eSli_inv hs
        simp only [Bool.and_eq_true] at h
        exact ⟨.pl (se_slT (good a X x xo h.1).1.1 (good i X y xo h.2).1.1) rfl, fun _ o l p z => nomatch z⟩
      · cases h
    · cases h
  | .slB a i j, X, e, xo, h => by
    unfold chk at h
    split at h
    · rename_i x s hx
      obtain ⟨p, rfl⟩ := eSub_inv hx
      split at h
      · rename_i y z hs
        obtain ⟨p2, rfl⟩ := eSli_inv hs
        simp only [Bool.and_eq_true] at h
        exact ⟨.pl (se_slB (good a X x xo h.1.1).1.1 (good i X y xo h.1.2).1.1 (good j X z xo h.2).1.1) rfl, fun _ o l p z => nomatch z⟩
      · cases h
    · cases h
  | .sRev a, X, e, xo, h => by
    unfold chk at h
    split at h
    · rename_i g y hy
      split at h
      · rename_i g2 x hx
        obtain ⟨p, q, rfl⟩ := eCall_inv hy
        obtain ⟨p2, q2, rfl⟩ := eCall_inv hx
        simp only [Bool.and_eq_true, decide_eq_true_eq] at h
        obtain ⟨⟨⟨⟨rfl, h2⟩, rfl, h3⟩, hp, hp2⟩, h4⟩ := h
        exact ⟨.pl (se_rev xo hp hp2 h2 h3 (good a X x xo h4).1.1) rfl, fun _ o l p z => nomatch z⟩
      · cases h
    · cases h
  | .cnt i b, X, e, xo, h => by
    unfold chk at h
    split at h
    · rename_i o y hx
      obtain ⟨ap, cp, rfl, hl⟩ := eCnt_inv hx
      simp only [Bool.and_eq_true] at h
      exact ⟨.pl (se_cnt h.1.1 h.1.2 hl (good b X y xo h.2).1.1) rfl, fun _ o l p z => nomatch z⟩
    · cases h
  | .sRvt a, X, e, xo, h => by
    unfold chk at h
    split at h
    · rename_i x hx
      obtain ⟨k, p1, p2, p3, p, rfl⟩ := eRv_inv hx
      exact ⟨.pl (se_rvt (good a X x xo h).1.1) rfl, fun _ o l p z => nomatch z⟩
    · cases h
  | .call f es, X, e, xo, h => by
    unfold chk at h
    split at h
    · rename_i g x r hx
      obtain ⟨p, q, rfl⟩ := eCall_inv hx
      simp only [Bool.and_eq_true, decide_eq_true_eq] at h
      obtain ⟨⟨rfl, h2⟩, h3⟩ := h
      have hp := chks_plain h3
      rw [List.all_cons, Bool.and_eq_true] at hp
      exact ⟨.pl (se_call xo hp.1 h2 (goodA es X (x :: r) xo h3) (star_any hp.2)) rfl, fun _ o l p z => nomatch z⟩
    · cases h
  | .blt f a, X, e, xo, h => by
    unfold chk at h
    split at h
    · rename_i g x hx
      obtain ⟨p, q, rfl⟩ := eCall_inv hx
      simp only [Bool.and_eq_true, decide_eq_true_eq] at h
      obtain ⟨⟨⟨rfl, h2⟩, hp⟩, h3⟩ := h
      have hh : blHard f = false ∨ blHard f = true := by cases blHard f <;> simp
      exact ⟨.pl (se_blt xo (hh.imp_right fun hh => hard_ok (by have := xo.un; omega) xo.gd hh) hp h2 (good a X x xo h3).1.1) rfl, fun _ o l p z => nomatch z⟩
    · cases h
  | .ch4 o o' o2 a b c d, X, e, xo, h => by
    unfold chk at h
    split at h
    · rename_i x q q' q2 y z w hx
      obtain ⟨p, rfl⟩ := eCmp_inv hx
      simp only [Bool.and_eq_true, decide_eq_true_eq] at h
      obtain ⟨⟨⟨⟨⟨⟨⟨rfl, rfl⟩, rfl⟩, hp⟩, h2⟩, h3⟩, h4⟩, h5⟩ := h
      exact ⟨.sb (sb_ch4 xo hp (good a X x xo h2).1.1 (good b X y xo h3).1.1 (good c X z xo h4).1.1 (good d X w xo h5).1.1), fun _ o l p z => nomatch z⟩
    · cases h
  | .max2 a b, X, e, xo, h => by
    unfold chk at h
    split at h
    · rename_i g x y hx
      obtain ⟨p, q, rfl⟩ := eCall_inv hx
      simp only [Bool.and_eq_true, decide_eq_true_eq] at h
      obtain ⟨⟨⟨⟨rfl, h2⟩, hp, hp2⟩, h3⟩, h4⟩ := h
      exact ⟨.pl (se_max2 xo hp hp2 h2 (good a X x xo h3).1.1 (good b X y xo h4).1.1) rfl, fun _ o l p z => nomatch z⟩
    · cases h
  | .lrg a, X, e, xo, h => by
    unfold chk at h
    split at h
    · rename_i g y hy
      split at h
      · rename_i g2 x hx
        obtain ⟨p, q, rfl⟩ := eCall_inv hy
        obtain ⟨p2, q2, rfl⟩ := eCall_inv hx
        simp only [Bool.and_eq_true, decide_eq_true_eq] at h
        obtain ⟨⟨⟨⟨rfl, h2⟩, rfl, h3⟩, hp⟩, h4⟩ := h
        exact ⟨.pl (se_lrg xo hp rfl h2 h3 (good a X x xo h4).1.1) rfl, fun _ o l p z => nomatch z⟩
      · cases h
    · cases h
  | .ixo i b, X, e, xo, h => by
    unfold chk at h
    split at h
    · rename_i o y hx
      obtain ⟨ap, cp, rfl, hl⟩ := eMeth_inv hx
      simp only [Bool.and_eq_true] at h
      exact ⟨.pl (se_ixo h.1.1 h.1.2 hl (good b X y xo h.2).1.1) rfl, fun _ o l p z => nomatch z⟩
    · cases h
  | .zipT a b, X, e, xo, h => by unfold chk at h; cases h
  | .isi a t, X, e, xo, h => by
    unfold chk at h
    split at h
    · rename_i g x y hx
      obtain ⟨p, q, rfl⟩ := eCall_inv hx
      simp only [Bool.and_eq_true, decide_eq_true_eq] at h
      obtain ⟨⟨⟨⟨⟨rfl, h2⟩, hy⟩, h4⟩, hp⟩, h3⟩ := h
      obtain ⟨p2, rfl⟩ := eName_inv hy
      exact ⟨.pl (se_isi xo hp h2 h4 (good a X x xo h3).1.1) rfl, fun _ o l p z => nomatch z⟩
    · cases h
  | .lc elt t it cd own, X, e, xo, h => by
    unfold chk at h
    split at h
    · rename_i x g i f s hx
      obtain ⟨p, rfl⟩ := eLc1_inv hx
      simp only [Bool.and_eq_true, decide_eq_true_eq] at h
      obtain ⟨⟨⟨⟨⟨⟨⟨⟨hb, ho⟩, hin⟩, hpi⟩, htg⟩, hg⟩, hi⟩, hc⟩, he⟩ := h
      have bok := blkOk_by hb
      have hin' : ∀ k, inT t k → k ∈ own := by
        intro k hk
        cases t with
        | nm j => have hk : k = j := hk; subst hk; simpa using hin
        | two j l =>
          rw [Bool.and_eq_true] at hin
          rcases (show k = j ∨ k = l from hk) with hk | hk
          · subst hk; simpa using hin.1
          · subst hk; simpa using hin.2
      have gi := goodI it X i xo hi
      have ge : ∀ (s0 : Shared) (H0 : Hp) (C0 : Addr) (cl : List (Str × Addr)) (fp : List Addr), SE G call xn (X.blk s0 H0 s (compEnvC s cl C0 X.env) fp) elt x := fun s0 H0 C0 cl fp => (good elt (X.blk s0 H0 s (compEnvC s cl C0 X.env) fp) x xo.blk he).1.1
      have gc : ∀ (c : ME) (ce : Expr), cd = .one c → f = [ce] → ∀ (s0 : Shared) (H0 : Hp) (C0 : Addr) (cl : List (Str × Addr)) (fp : List Addr), ST G call xn (X.blk s0 H0 s (compEnvC s cl C0 X.env) fp) c ce := goodC cd X s f xo hc
      have hifs := ifs_of hc
      have pg : ∀ (s0 : Shared) (H0 : Hp) (C0 : Addr) (cl : List (Str × Addr)) (fp : List Addr), PG (X.blk s0 H0 s (compEnvC s cl C0 X.env) fp) g (gT X.K t) := fun s0 H0 C0 cl fp => pg_TB xo.calm xo.nd hg
      have pt : ∀ (s0 : Shared) (H0 : Hp) (C0 : Addr) (cl : List (Str × Addr)) (fp : List Addr), PTs (X.blk s0 H0 s (compEnvC s cl C0 X.env) fp) f (ttC X s cd f) := fun s0 H0 C0 cl fp => by
        cases cd with
        | yes => have hifs : f = [] := hifs; subst hifs; exact pts_nil
        | one c =>
          obtain ⟨ce, rfl⟩ := (show ∃ ce, f = [ce] from hifs)
          exact pts_one ⟨fun pins s1 σ H Q I hw => hw s0 H0 C0 cl fp pins s1 I⟩
      have pe : ∀ (s0 : Shared) (H0 : Hp) (C0 : Addr) (cl : List (Str × Addr)) (fp : List Addr), PE (X.blk s0 H0 s (compEnvC s cl C0 X.env) fp) x (teB X s x) := fun s0 H0 C0 cl fp => ⟨fun pins s1 σ H Q I hw => hw s0 H0 C0 cl fp pins s1 I⟩
      have PX := pe_lc (pos := p) xo.calm xo.nd (pi_wi (X := X) (tg := g) (e := i)) bok pg pt pe (fold_plain hpi)
      rw [ho] at PX
      exact ⟨.pl (fun W C ad σ ρ F H tk en => Sd.imp (lc_sd (tgE := g) gi (okTg_ofB htg hg) hin' hifs gc ge tk en) fun Q q => We.of PX q) rfl, fun _ o l p z => nomatch z⟩
    · cases h
  | .lc2 elt t it t2 it2 own own2, X, e, xo, h => by
    unfold chk at h
    split at h
    · rename_i x g i g2 i2 s hx
      obtain ⟨p, rfl⟩ := eLc2_inv hx
      simp only [Bool.and_eq_true, decide_eq_true_eq] at h
      obtain ⟨⟨⟨⟨⟨⟨⟨⟨⟨⟨⟨⟨⟨hb, ho⟩, hin⟩, hin2⟩, hsub⟩, hpi⟩, hpi2⟩, htg⟩, htg2⟩, hg⟩, hg2⟩, hi⟩, hi2⟩, he⟩ := h
      have bok := blkOk_by hb
      have hsub' : ∀ k ∈ own2, k ∈ own := fun k hk => by simpa using List.all_eq_true.mp hsub k hk
      have gi := goodI it X i xo hi
      have gi2 : ∀ (s0 : Shared) (H0 : Hp) (C0 : Addr) (cl : List (Str × Addr)) (fp : List Addr), SI G call xn (X.blk s0 H0 s (compEnvC s cl C0 X.env) fp) it2 i2 := fun s0 H0 C0 cl fp => goodI it2 (X.blk s0 H0 s (compEnvC s cl C0 X.env) fp) i2 xo.blk hi2
      have ge : ∀ (s0 : Shared) (H0 : Hp) (C0 : Addr) (cl : List (Str × Addr)) (fp : List Addr), SE G call xn (X.blk s0 H0 s (compEnvC s cl C0 X.env) fp) elt x := fun s0 H0 C0 cl fp => (good elt (X.blk s0 H0 s (compEnvC s cl C0 X.env) fp) x xo.blk he).1.1
      have pg : ∀ (s0 : Shared) (H0 : Hp) (C0 : Addr) (cl : List (Str × Addr)) (fp : List Addr), PG (X.blk s0 H0 s (compEnvC s cl C0 X.env) fp) g (gT X.K t) := fun s0 H0 C0 cl fp => pg_TB xo.calm xo.nd hg
      have pg2 : ∀ (s0 : Shared) (H0 : Hp) (C0 : Addr) (cl : List (Str × Addr)) (fp : List Addr), PG (X.blk s0 H0 s (compEnvC s cl C0 X.env) fp) g2 (gT X.K t2) := fun s0 H0 C0 cl fp => pg_TB xo.calm xo.nd hg2
      have pi2 : ∀ (s0 : Shared) (H0 : Hp) (C0 : Addr) (cl : List (Str × Addr)) (fp : List Addr), PI (X.blk s0 H0 s (compEnvC s cl C0 X.env) fp) g2 i2 (wiB X s g2 i2) := fun s0 H0 C0 cl fp => ⟨fun pins s1 σ H R I hw => (hw s0 H0 C0 cl fp) pins s1 I⟩
      have pe : ∀ (s0 : Shared) (H0 : Hp) (C0 : Addr) (cl : List (Str × Addr)) (fp : List Addr), PE (X.blk s0 H0 s (compEnvC s cl C0 X.env) fp) x (teB X s x) := fun s0 H0 C0 cl fp => ⟨fun pins s1 σ H Q I hw => hw s0 H0 C0 cl fp pins s1 I⟩
      have PX := pe_lc2 (pos := p) (vs1 := own2) xo.calm xo.nd (pi_wi (X := X) (tg := g) (e := i)) bok (by rw [ho]; exact hsub') pg (fun _ _ _ _ _ => pts_nil) pi2 pg2 (fun _ _ _ _ _ => pts_nil) pe (fold_plain hpi) (fun env => fold_plain hpi2)
      rw [ho] at PX
      exact ⟨.pl (fun W C ad σ ρ F H tk en => Sd.imp (lc2_sd (tgE := g) (tg2E := g2) gi (okTg_ofB htg hg) (inTs_of hin) (inTs_of hin2) hsub' gi2 (okTg_ofB htg2 hg2) ge tk en) fun Q q => We.of PX q) rfl, fun _ o l p z => nomatch z⟩
    · cases h
  | .dcall d k a, X, e, xo, h => by
    unfold chk at h
    split at h
    · rename_i g x y hx
      obtain ⟨p, q, r, rfl⟩ := eCallS_inv hx
      simp only [Bool.and_eq_true, decide_eq_true_eq] at h
      obtain ⟨⟨⟨⟨⟨rfl, h2⟩, hp⟩, hp2⟩, h3⟩, h4⟩ := h
      exact ⟨.pl (se_dcall xo hp2 hp h2 (good k X x xo h3).1.1 (good a X y xo h4).1.1) rfl, fun _ o l p z => nomatch z⟩
    · cases h
  | .din d k, X, e, xo, h => by
    unfold chk at h
    split at h
    · rename_i x y hx
      obtain ⟨p, rfl⟩ := eCmp_inv hx
      simp only [Bool.and_eq_true, decide_eq_true_eq] at h
      obtain ⟨⟨hy, h2⟩, h3⟩ := h
      obtain ⟨p2, rfl⟩ := eName_inv hy
      exact ⟨.sb (sb_din xo h2 (good k X x xo h3).1.1), fun _ o l p z => nomatch z⟩
    · cases h
  | .dnin d k, X, e, xo, h => by
    unfold chk at h
    split at h
    · rename_i x y hx
      obtain ⟨p, rfl⟩ := eCmp_inv hx
      simp only [Bool.and_eq_true, decide_eq_true_eq] at h
      obtain ⟨⟨hy, h2⟩, h3⟩ := h
      obtain ⟨p2, rfl⟩ := eName_inv hy
      exact ⟨.sb (sb_dnin xo h2 (good k X x xo h3).1.1), fun _ o l p z => nomatch z⟩
    · cases h
theorem goodL : ∀ (ms : MEs) (X : Cx) (es : List Expr), XOk G call xn X → chks X.N ms X.env.scope es = true → SL G call xn X ms es
  | .nil, X, [], xo, h => sl_nil
  | .nil, X, _ :: _, xo, h => by unfold chks at h; cases h
  | .cons m r, X, [], xo, h => by unfold chks at h; cases h
  | .cons m r, X, e :: es, xo, h => by
    unfold chks at h
    simp only [Bool.and_eq_true] at h
    exact sl_cons h.1.1 (good m X e xo h.1.2).1.1 (goodL r X es xo h.2)
theorem goodA : ∀ (ms : MEs) (X : Cx) (es : List Expr), XOk G call xn X → chks X.N ms X.env.scope es = true → SA G call xn X ms es
  | .nil, X, [], xo, h => sa_nil
  | .nil, X, _ :: _, xo, h => by unfold chks at h; cases h
  | .cons m r, X, [], xo, h => by unfold chks at h; cases h
  | .cons m r, X, e :: es, xo, h => by
    unfold chks at h
    simp only [Bool.and_eq_true] at h
    exact sa_cons h.1.1 (good m X e xo h.1.2).1.1 (goodA r X es xo h.2)
theorem goodI : ∀ (it : MI) (X : Cx) (e : Expr), XOk G call xn X → chkI X.N it X.env.scope e = true → SI G call xn X it e
  | .zip a b, X, e, xo, h => by
    unfold chkI at h
    split at h
    · rename_i g x y hx
      obtain ⟨p, q, rfl⟩ := eCall_inv hx
      simp only [Bool.and_eq_true, decide_eq_true_eq] at h
      obtain ⟨⟨⟨⟨rfl, h2⟩, hp, hp2⟩, h3⟩, h4⟩ := h
      exact si_zip xo hp hp2 h2 (good a X x xo h3).1.1 (good b X y xo h4).1.1
    · cases h
  | .seq m, X, e, xo, h => by
    unfold chkI at h
    rw [Bool.and_eq_true] at h
    exact si_seq (good m X e xo h.2).1.1
  | .rng1 a, X, e, xo, h => by
    unfold chkI at h
    split at h
    · rename_i g x hx
      obtain ⟨p, q, rfl⟩ := eCall_inv hx
      simp only [Bool.and_eq_true, decide_eq_true_eq] at h
      obtain ⟨⟨⟨rfl, h2⟩, hp⟩, h3⟩ := h
      exact si_rng1 xo hp h2 (good a X x xo h3).1.1
    · cases h
  | .rng2 a b, X, e, xo, h => by
    unfold chkI at h
    split at h
    · rename_i g x y hx
      obtain ⟨p, q, rfl⟩ := eCall_inv hx
      simp only [Bool.and_eq_true, decide_eq_true_eq] at h
      obtain ⟨⟨⟨⟨⟨rfl, h2⟩, hp⟩, hp2⟩, h3⟩, h4⟩ := h
      exact si_rng2 xo hp hp2 h2 (good a X x xo h3).1.1 (good b X y xo h4).1.1
    · cases h
  | .rngD a, X, e, xo, h => by
    unfold chkI at h
    split at h
    · rename_i g x y z hx
      obtain ⟨p, q, rfl⟩ := eCall_inv hx
      simp only [Bool.and_eq_true, decide_eq_true_eq] at h
      obtain ⟨⟨⟨⟨⟨rfl, h2⟩, hp⟩, hy⟩, hz⟩, h3⟩ := h
      obtain ⟨j1, p1, rfl⟩ := eConst_inv hy
      split at hz
      · rename_i w hw
        obtain ⟨p3, rfl⟩ := eUn_inv hw
        obtain ⟨j2, p2, rfl⟩ := eConst_inv (of_decide_eq_true hz)
        exact si_rngD xo hp h2 (good a X x xo h3).1.1
      · cases hz
    · cases h
theorem goodC : ∀ (cd : MC) (X : Cx) (s : Scope) (f : List Expr), XOk G call xn X → chkC X.N cd (relS s X.env.scope) f = true →
    ∀ (c : ME) (ce : Expr), cd = .one c → f = [ce] → ∀ (s0 : Shared) (H0 : Hp) (C0 : Addr) (cl : List (Str × Addr)) (fp : List Addr), ST G call xn (X.blk s0 H0 s (compEnvC s cl C0 X.env) fp) c ce
  | .yes, X, s, f, xo, h, c, ce, e1, e2, s0, H0, C0, cl, fp => nomatch e1
  | .one c, X, s, f, xo, h, c', ce, e1, e2, s0, H0, C0, cl, fp => by
    cases e1
    subst e2
    unfold chkC at h
    simp only [Bool.and_eq_true] at h
    exact (good c (X.blk s0 H0 s (compEnvC s cl C0 X.env) fp) ce xo.blk h.2).1.2 h.1
end
end
end DI
end
section
set_option linter.all false
set_option maxRecDepth 100000
set_option Elab.async false
/-! DI12: statements. -/
namespace DI
open PySem PySem.Spec PyProof.Rows L2
structure Ent where
  F0 : Hp
  H0 : Hp
  as : List Addr
structure StOk (K : PySem.W.Frag) (E : Ent) (np : Nat) (lp : Nat → Option Addr) (C : Addr → Prop) (ad : Nat → Addr) (F H : Hp) (σ : L2.St) (ρ : Ro) : Prop where
  env : EnvOk K C ad F H σ ρ
  stp : Stp (· ∈ E.as) E.F0 E.H0 F H
  new : ∀ a, C a → a ∈ E.as ∨ E.H0 a = none
  sub : ∀ a ∈ E.as, C a
  lnt : ∀ i a, lp i = some a → ad i = a ∧ i < np
  own : ∀ i, np ≤ i → E.H0 (ad i) = none
  ent : ∀ a ∈ E.as, ∃ o, E.H0 a = some o
section
variable {K : PySem.W.Frag} {E : Ent} {np : Nat} {lp : Nat → Option Addr} {C : Addr → Prop} {ad : Nat → Addr} {F H F' H' : Hp} {σ σ' : L2.St} {ρ ρ' : Ro}
theorem StOk.next (s : StOk K E np lp C ad F H σ ρ) (t : Stp C F H F' H') (e : EnvOk K C ad F' H' σ' ρ') : StOk K E np lp C ad F' H' σ' ρ' := by
  refine ⟨e, ⟨fun a o q => t.le _ _ (s.stp.le _ _ q), fun a o q n => t.keep _ _ (s.stp.keep _ _ q n) fun c => ?_, fun a o q => ?_, fun a q => t.off a (s.sub a q)⟩, s.new, s.sub, s.lnt, s.own, s.ent⟩
  · rcases s.new a c with z | z
    · exact n z
    · rw [q] at z; cases z
  · rcases t.new a o q with z | z
    · exact s.stp.new a o z
    · by_cases ha : a ∈ E.as
      · rw [t.off a (s.sub a ha)] at q; cases q
      · refine .inr ?_
        cases h : E.H0 a with
        | none => rfl
        | some u => rw [s.stp.keep a u h ha] at z; cases z
end
def FOk (X : Cx) (xn : Str → List Str) (W : WX) (E : Ent) (np : Nat) (lp : Nat → Option Addr) (F : Hp) (out : Fl) (T : Ends → Prop) : Prop :=
  match out with
  | .no => True
  | .nx ρ => ∀ D : Ends, (∀ C ad σ F' H, Le F F' → StOk X.K E np lp C ad F' H σ ρ → D.nx σ H) → T D
  | .bk ρ => ∀ D : Ends, (∀ C ad σ F' H, Le F F' → StOk X.K E np lp C ad F' H σ ρ → D.bk σ H) → T D
  | .ct ρ => ∀ D : Ends, (∀ C ad σ F' H, Le F F' → StOk X.K E np lp C ad F' H σ ρ → D.ct σ H) → T D
  | .rt r ρ => ∀ D : Ends, (∀ C ad v σ F' H, Le F F' → StOk X.K E np lp C ad F' H σ ρ → RtOk X.K E.as E.H0 F' H r v → D.rt v H) → T D
  | .ex c fs ρ => (∀ C ad σ F' H cls d, Le F F' → StOk X.K E np lp C ad F' H σ ρ → ExAt X.K X.mg xn c fs F' H cls d → W cls d σ H) → ∀ D : Ends, T D
section
variable {α β : Type} {G : Gm} {call : CF} {xn : Str → List Str} {X : Cx} {W : WX} {E : Ent} {np : Nat} {lp : Nat → Option Addr} {C : Addr → Prop} {ad : Nat → Addr} {F H F' H' : Hp} {σ σ' : L2.St} {ρ ρ' : Ro}
theorem Le.trans {F G H : Hp} (a : Le F G) (b : Le G H) : Le F H := fun x o e => b x o (a x o e)
theorem Le.refl {F : Hp} : Le F F := fun x o e => e
theorem FOk.imp {out : Fl} {T T' : Ends → Prop} (h : FOk X xn W E np lp F out T) (i : ∀ D, T D → T' D) : FOk X xn W E np lp F out T' := by
  cases out with
  | no => trivial
  | nx ρ => exact fun D q => i D (h D q)
  | bk ρ => exact fun D q => i D (h D q)
  | ct ρ => exact fun D q => i D (h D q)
  | rt r ρ => exact fun D q => i D (h D q)
  | ex c fs ρ => exact fun q D => i D (h q D)
theorem FOk.less {out : Fl} {T : Ends → Prop} {F1 : Hp} (l : Le F F1) (h : FOk X xn W E np lp F1 out T) : FOk X xn W E np lp F out T := by
  cases out with
  | no => trivial
  | nx ρ => exact fun D q => h D fun C ad σ F' H le s => q C ad σ F' H (l.trans le) s
  | bk ρ => exact fun D q => h D fun C ad σ F' H le s => q C ad σ F' H (l.trans le) s
  | ct ρ => exact fun D q => h D fun C ad σ F' H le s => q C ad σ F' H (l.trans le) s
  | rt r ρ => exact fun D q => h D fun C ad v σ F' H le s => q C ad v σ F' H (l.trans le) s
  | ex c fs ρ => exact fun q D => h (fun C ad σ F' H cls d le s => q C ad σ F' H cls d (l.trans le) s) D
theorem FOk.fl {out : Out α} {f : α → Ro → Fl} {R : α → Hp → Hp → Hp → Ro → β → Prop} {T : (β → Hp → Prop) → Prop} {T2 : β → Hp → Ends → Prop} (st : StOk X.K E np lp C ad F H σ ρ) (h : Sd X xn W C ad σ F H out R T)
    (h2 : ∀ a ρ' y F' H', Le F F' → StOk X.K E np lp C ad F' H' σ ρ' → Stp C F H F' H' → R a H F' H' ρ' y → FOk X xn W E np lp F' (f a ρ') (T2 y H')) : FOk X xn W E np lp F (out.fl f) (fun D => T fun y H' => T2 y H' D) := by
  cases out with
  | no => trivial
  | ex c fs ρ' => exact fun q D => h (fun F' H' cls d s e x => q C ad σ F' H' cls d s.le (st.next s e) x) _
  | ok a ρ' =>
    show FOk X xn W E np lp F (f a ρ') _
    have k : ∀ y F' H', Stp C F H F' H' → EnvOk X.K C ad F' H' σ ρ' → R a H F' H' ρ' y → FOk X xn W E np lp F (f a ρ') (T2 y H') := fun y F' H' s e r => (h2 a ρ' y F' H' s.le (st.next s e) s r).less s.le
    cases hf : f a ρ' with
    | no => trivial
    | nx ρ => exact fun D q => h _ fun y F' H' s e r => by have := k y F' H' s e r; rw [hf] at this; exact this D q
    | bk ρ => exact fun D q => h _ fun y F' H' s e r => by have := k y F' H' s e r; rw [hf] at this; exact this D q
    | ct ρ => exact fun D q => h _ fun y F' H' s e r => by have := k y F' H' s e r; rw [hf] at this; exact this D q
    | rt r ρ => exact fun D q => h _ fun y F' H' s e r => by have := k y F' H' s e r; rw [hf] at this; exact this D q
    | ex c fs ρ => exact fun q D => h _ fun y F' H' s e r => by have := k y F' H' s e r; rw [hf] at this; exact this q D
theorem FOk.seq {out : Fl} {f : Ro → Fl} {T : Ends → Prop} {T2 : Ends → L2.St → Hp → Prop} (h : FOk X xn W E np lp F out T)
    (h2 : ∀ C ad σ ρ F' H, Le F F' → StOk X.K E np lp C ad F' H σ ρ → FOk X xn W E np lp F' (f ρ) (fun D => T2 D σ H)) : FOk X xn W E np lp F (out.seq f) (fun D => T { D with nx := T2 D }) := by
  cases out with
  | no => trivial
  | bk ρ => exact fun D q => h _ q
  | ct ρ => exact fun D q => h _ q
  | rt r ρ => exact fun D q => h _ q
  | ex c fs ρ => exact fun q D => h q _
  | nx ρ =>
    show FOk X xn W E np lp F (f ρ) _
    cases hf : f ρ with
    | no => trivial
    | nx ρ2 => exact fun D q => h _ fun C ad σ F' H le s => by have := h2 C ad σ ρ F' H le s; rw [hf] at this; exact this D fun C ad σ F2 H le2 s2 => q C ad σ F2 H (le.trans le2) s2
    | bk ρ2 => exact fun D q => h _ fun C ad σ F' H le s => by have := h2 C ad σ ρ F' H le s; rw [hf] at this; exact this D fun C ad σ F2 H le2 s2 => q C ad σ F2 H (le.trans le2) s2
    | ct ρ2 => exact fun D q => h _ fun C ad σ F' H le s => by have := h2 C ad σ ρ F' H le s; rw [hf] at this; exact this D fun C ad σ F2 H le2 s2 => q C ad σ F2 H (le.trans le2) s2
    | rt r ρ2 => exact fun D q => h _ fun C ad σ F' H le s => by have := h2 C ad σ ρ F' H le s; rw [hf] at this; exact this D fun C ad v σ F2 H le2 s2 => q C ad v σ F2 H (le.trans le2) s2
    | ex c fs ρ2 => exact fun q D => h _ fun C ad σ F' H le s => by have := h2 C ad σ ρ F' H le s; rw [hf] at this; exact this (fun C ad σ F2 H cls d le2 s2 => q C ad σ F2 H cls d (le.trans le2) s2) D
def Ws (X : Cx) (st : Stmt) : TS := fun D σ H => ∀ pins s, Inv X pins σ H s → wpAny (model X.prog X.w) X.A (exec st X.env) (SP X pins D) X.xe s
theorem ps_ws {st : Stmt} : PS X st (Ws X st) := ⟨fun pins s σ H D I h => h pins s I⟩
theorem Ws.of {st : Stmt} {t : TS} (h : PS X st t) {D : Ends} (q : t D σ H) : Ws X st D σ H := fun pins s I => h.run pins s σ H D I q
def Wss (X : Cx) (st : List Stmt) : TS := fun D σ H => ∀ pins s, Inv X pins σ H s → wpAny (model X.prog X.w) X.A (execs st X.env) (SP X pins D) X.xe s
theorem pss_wss {st : List Stmt} : PSs X st (Wss X st) := ⟨fun pins s σ H D I h => h pins s I⟩
theorem Wss.of {st : List Stmt} {t : TS} (h : PSs X st t) {D : Ends} (q : t D σ H) : Wss X st D σ H := fun pins s I => h.run pins s σ H D I q
variable (G call xn X E np lp)
def SS (m : MS) (st : Stmt) : Prop := ∀ (W : WX) (C : Addr → Prop) (ad : Nat → Addr) (σ : L2.St) (ρ : Ro) (F H : Hp), Takes X W → StOk X.K E np lp C ad F H σ ρ → FOk X xn W E np lp F (exe G call m ρ) (fun D => Ws X st D σ H)
def SSs (m : MSs) (st : List Stmt) : Prop := ∀ (W : WX) (C : Addr → Prop) (ad : Nat → Addr) (σ : L2.St) (ρ : Ro) (F H : Hp), Takes X W → StOk X.K E np lp C ad F H σ ρ → FOk X xn W E np lp F (exs G call m ρ) (fun D => Wss X st D σ H)
end
section
variable {G : Gm} {call : CF} {xn : Str → List Str} {X : Cx} {W : WX} {E : Ent} {np : Nat} {lp : Nat → Option Addr} {C : Addr → Prop} {ad : Nat → Addr} {F H F' H' : Hp} {σ σ' : L2.St} {ρ ρ' : Ro} {m a b c : ME} {e x y z : Expr}
theorem ss_nil : SSs G call xn X E np lp .nil [] := by
  intro W C ad σ ρ F H tk st
  unfold exs
  exact fun D q => Wss.of pss_nil (q C ad σ F H Le.refl st)
theorem ss_cons {s : MS} {r : MSs} {t : Stmt} {ts : List Stmt} (h : SS G call xn X E np lp s t) (k : SSs G call xn X E np lp r ts) : SSs G call xn X E np lp (.cons s r) (t :: ts) := by
  intro W C ad σ ρ F H tk st
  unfold exs
  refine FOk.imp (T := fun D => Ws X t { D with nx := Wss X ts D } σ H) ?_ fun D q => Wss.of (pss_cons ps_ws pss_wss) q
  exact FOk.seq (T := fun D => Ws X t D σ H) (T2 := fun D σ H => Wss X ts D σ H) (h W C ad σ ρ F H tk st) fun C ad σ ρ F' H le s => k W C ad σ ρ F' H tk s
/-- what a value's reading must be, to be stored -/
structure RdE (G : Gm) (call : CF) (xn : Str → List Str) (X : Cx) (m : ME) (te : TE) : Prop where
  sd : ∀ (W : WX) (C : Addr → Prop) (ad : Nat → Addr) (σ : L2.St) (ρ : Ro) (F H : Hp), Takes X W → EnvOk X.K C ad F H σ ρ → Sd X xn W C ad σ F H (ev G call m ρ) (RR X.K C ad) (fun Q => te σ H Q)
theorem StOk.setD {i : Nat} {d : D} {v : V} {ρ1 : Ro} (s : StOk X.K E np lp C ad F H σ ρ) (h : DI.setD ρ i d = some ρ1) (r : Rep X.K F d v) : StOk X.K E np lp C ad F H (σ.set i (some v)) ρ1 :=
  ⟨s.env.setD h r, s.stp, s.new, s.sub, s.lnt, s.own, s.ent⟩
theorem ss_set {i : Nat} {st : Stmt} {te : TE} (rd : RdE G call xn X m te) (hs : PS X st (tAsg te (gName i))) : SS G call xn X E np lp (.set i m) st := by
  intro W C ad σ ρ F H tk s
  unfold exe
  refine FOk.imp (T := fun D => te σ H fun v H1 => D.nx (σ.set i (some v)) H1) ?_ fun D q => Ws.of hs q
  refine FOk.fl (T2 := fun v H1 D => D.nx (σ.set i (some v)) H1) s (asD_sd (rd.sd W C ad σ ρ F H tk s.env)) fun d ρ1 v F1 H1 le s1 t r => ?_
  cases hd : setD ρ1 i d with
  | none => trivial
  | some ρ2 => exact fun D q => q C ad _ F1 H1 Le.refl (s1.setD hd r)
theorem ss_own {i : Nat} {st : Stmt} {te : TE} (hi : np ≤ i) (rd : RdE G call xn X m te) (hs : PS X st (tAsg te (gName i))) : SS G call xn X E np lp (.own i m) st := by
  intro W C ad σ ρ F H tk s
  unfold exe
  refine FOk.imp (T := fun D => te σ H fun v H1 => D.nx (σ.set i (some v)) H1) ?_ fun D q => Ws.of hs q
  refine FOk.fl (T2 := fun v H1 D => D.nx (σ.set i (some v)) H1) s (rd.sd W C ad σ ρ F H tk s.env) fun r ρ1 v F1 H1 le s1 t rr => ?_
  cases r with
  | dat d => trivial
  | var j => trivial
  | new l =>
    obtain ⟨p, vs, rfl, n, nc, f, hp, rp⟩ := rr
    have H0p : E.H0 p = none := by
      cases z : E.H0 p with
      | none => rfl
      | some u =>
        by_cases ha : p ∈ E.as
        · exact absurd (s.sub p ha) nc
        · rw [s.stp.keep p u z ha] at n; cases n
    have key : i < ρ1.length → (∀ l', ρ1[i]? ≠ some (.lent l')) → FOk X xn W E np lp F1 (.nx (ρ1.set i (.own l))) (fun D => D.nx (σ.set i (some (.ref p))) H1) := by
      intro hlt hnl D q
      have hσ : i < σ.length := by rw [← s1.env.len]; exact hlt
      refine q (fun a => C a ∨ a = p) (fun j => if j = i then p else ad j) _ F1 H1 Le.refl ⟨⟨by simp [s1.env.len], fun j d h => ?_, fun j lj h => ?_, fun j k lj lk h1 h2 h3 => ?_, s1.env.le, fun a h => ?_, fun a h => ?_⟩, s1.stp, fun a h => ?_, fun a h => .inl (s1.sub a h), fun j a h => ?_, fun j h => ?_, s1.ent⟩
      · by_cases hj : j = i
        · subst hj; rw [List.getElem?_set_self hlt] at h; cases h
        · rw [List.getElem?_set_ne (Ne.symm hj)] at h ⊢
          exact s1.env.dat j d h
      · by_cases hj : j = i
        · subst hj
          have : cellAt (ρ1.set j (.own l)) j = some l := by unfold cellAt; rw [List.getElem?_set_self hlt]
          rw [this] at h; cases h
          refine ⟨by rw [List.getElem?_set_self hσ]; simp, .inr (by simp), vs, by simpa using hp, rp⟩
        · have e1 : cellAt (ρ1.set i (.own l)) j = cellAt ρ1 j := cellAt_of (List.getElem?_set_ne (Ne.symm hj))
          rw [e1] at h
          obtain ⟨c1, c2, ws, c3, c4⟩ := s1.env.cel j lj h
          rw [List.getElem?_set_ne (Ne.symm hj)]
          simp only [if_neg hj]
          exact ⟨c1, .inl c2, ws, c3, c4⟩
      · have cc : ∀ {j : Nat} {lj : List DI.D}, j ≠ i → cellAt (ρ1.set i (.own l)) j = some lj → cellAt ρ1 j = some lj := fun {j lj} hj h => by
          rw [← h]; exact (cellAt_of (List.getElem?_set_ne (Ne.symm hj))).symm
        by_cases hj : j = i <;> by_cases hk : k = i
        · rw [hj, hk]
        · simp only [hj, if_true, if_neg hk] at h3
          exact absurd (h3 ▸ (s1.env.cel k lk (cc hk h2)).2.1) nc
        · simp only [hk, if_true, if_neg hj] at h3
          exact absurd (h3 ▸ (s1.env.cel j lj (cc hj h1)).2.1) nc
        · simp only [if_neg hj, if_neg hk] at h3
          exact s1.env.inj j k lj lk (cc hj h1) (cc hk h2) h3
      · rcases h with h | h
        · exact s1.env.off a h
        · subst h; exact f
      · rcases h with h | h
        · exact s1.env.there a h
        · subst h; exact ⟨vs, hp⟩
      · rcases h with h | h
        · exact s1.new a h
        · subst h; exact .inr H0p
      · obtain ⟨h1, h2⟩ := s1.lnt j a h
        have : j ≠ i := by omega
        rw [if_neg this]; exact ⟨h1, h2⟩
      · by_cases hj : j = i
        · rw [if_pos hj]; exact H0p
        · rw [if_neg hj]; exact s1.own j h
    show FOk X xn W E np lp F1 (match ρ1[i]? with | some (.lent _) => .no | none => .no | _ => .nx (ρ1.set i (.own l))) _
    split
    · trivial
    · trivial
    · rename_i h1 h2
      refine key ?_ h1
      by_cases hi : i < ρ1.length
      · exact hi
      · exact absurd (List.getElem?_eq_none (by omega)) h2
theorem RdE.we (h : SE G call xn X m e) : RdE G call xn X m (We X e) := ⟨h⟩
theorem ss_ret {p : Pos} (h : SE G call xn X m e) : SS G call xn X E np lp (.ret m) (.Return (some e) p) := by
  intro W C ad σ ρ F H tk s
  unfold exe
  refine FOk.imp (T := fun D => We X e σ H D.rt) ?_ fun D q => Ws.of (ps_ret pe_we) q
  refine FOk.fl (T2 := fun v H1 D => D.rt v H1) s (h W C ad σ ρ F H tk s.env) fun r ρ1 v F1 H1 le s1 t rr => ?_
  cases r with
  | var j => trivial
  | dat d => exact fun D q => q C ad v σ F1 H1 Le.refl s1 rr
  | new l =>
    obtain ⟨p, vs, rfl, n, nc, f, hp, rp⟩ := rr
    intro D q
    refine q C ad _ σ F1 H1 Le.refl s1 ⟨p, vs, rfl, ?_, fun z => nc (s1.sub p z), f, hp, rp⟩
    cases z : E.H0 p with
    | none => rfl
    | some u =>
      by_cases ha : p ∈ E.as
      · exact absurd (s.sub p ha) nc
      · rw [s.stp.keep p u z ha] at n; cases n
theorem pe_varC {i : Nat} (h : chk X.N (.var i) X.env.scope e = true) : PE X e (tVar i) := by
  unfold chk at h
  split at h
  · rename_i x hx
    obtain ⟨p, rfl⟩ := eName_inv hx
    simp only [Bool.and_eq_true, decide_eq_true_eq, Bool.not_eq_true'] at h
    obtain ⟨⟨⟨h1, h2⟩, h3⟩, h4⟩ := h
    exact pe_var h1 (vis_ok h2) h3 h4
  · cases h
theorem EnvOk.drop {K : PySem.W.Frag} {i : Nat} (e : EnvOk K C ad F H σ ρ) : EnvOk K C ad F H σ (ρ.set i .no) := by
  have g : ∀ {j : Nat} {s : Sl}, (ρ.set i .no)[j]? = some s → s ≠ .no → j ≠ i ∧ ρ[j]? = some s := fun {j s} h hs => by
    by_cases hj : j = i
    · subst hj
      by_cases hl : j < ρ.length
      · rw [List.getElem?_set_self hl] at h; cases h; exact absurd rfl hs
      · rw [List.getElem?_eq_none (by simpa using hl)] at h; cases h
    · rw [List.getElem?_set_ne (Ne.symm hj)] at h; exact ⟨hj, h⟩
  have cc : ∀ {j : Nat} {lj : List D}, cellAt (ρ.set i .no) j = some lj → cellAt ρ j = some lj := fun {j lj} h => by
    unfold cellAt at h ⊢
    cases q : (ρ.set i .no)[j]? with
    | none => rw [q] at h; cases h
    | some t =>
      cases t with
      | no => rw [q] at h; cases h
      | dat d => rw [q] at h; cases h
      | own l => rw [q] at h; cases h; rw [(g q (fun z => nomatch z)).2]
      | lent l => rw [q] at h; cases h; rw [(g q (fun z => nomatch z)).2]
  exact ⟨by simp [e.len], fun j d h => e.dat j d (g h (fun z => nomatch z)).2, fun j l h => e.cel j l (cc h), fun j k l m h1 h2 => e.inj j k l m (cc h1) (cc h2), e.le, e.off, e.there⟩
theorem ss_retv {i : Nat} {p : Pos} (hi : np ≤ i) (h : chk X.N (.var i) X.env.scope e = true) : SS G call xn X E np lp (.retv i) (.Return (some e) p) := by
  intro W C ad σ ρ F H tk s
  unfold exe
  split
  · rename_i l hl
    have hc : cellAt ρ i = some l := by unfold cellAt; rw [hl]
    obtain ⟨c1, c2, vs, c3, c4⟩ := s.env.cel i l hc
    intro D q
    refine Ws.of (ps_ret (pe_varC h)) ⟨_, c1, ?_⟩
    refine q C ad _ σ F H Le.refl ⟨s.env.drop, s.stp, s.new, s.sub, s.lnt, s.own, s.ent⟩ ⟨ad i, vs, rfl, s.own i hi, fun z => ?_, s.env.off _ c2, c3, c4⟩
    obtain ⟨o, ho⟩ := s.ent _ z
    rw [s.own i hi] at ho; cases ho
  · trivial
/-- a cell's list is another one -/
theorem StOk.put {i : Nat} {l l' : List D} {ws : List V} (s : StOk X.K E np lp C ad F H σ ρ) (hc : cellAt ρ i = some l) (r : Reps X.K F l' ws) : StOk X.K E np lp C ad F (upd H (ad i) (.lst ws)) σ (setCell ρ i l') := by
  obtain ⟨c1, c2, vs, c3, c4⟩ := s.env.cel i l hc
  have some_of : ∀ {j : Nat} {m : List D}, cellAt (setCell ρ i l') j = some m → ∃ m', cellAt ρ j = some m' := fun {j m} hj => by
    rw [setCell_get] at hj
    split at hj
    · rename_i z
      obtain ⟨rfl, z⟩ := z
      exact Option.isSome_iff_exists.mp z
    · exact ⟨m, hj⟩
  refine ⟨⟨(setCell_len ρ i l').trans s.env.len, fun j d h => s.env.dat j d (setCell_dat h), fun j m hj => ?_, fun j k m m' h1 h2 ha => ?_, fun a o q => ?_, s.env.off, fun a h => ?_⟩, ⟨s.stp.le, fun a o q n => ?_, s.stp.new, s.stp.off⟩, s.new, s.sub, s.lnt, s.own, s.ent⟩
  · obtain ⟨m', hm⟩ := some_of hj
    obtain ⟨d1, d2, us, d3, d4⟩ := s.env.cel j m' hm
    rw [setCell_get] at hj
    split at hj
    · rename_i z
      obtain ⟨rfl, _⟩ := z
      cases hj
      exact ⟨d1, d2, ws, upd_same, r⟩
    · rename_i z
      have hne : j ≠ i := fun q => z ⟨q, by rw [hc]; rfl⟩
      rw [hm] at hj; cases hj
      exact ⟨d1, d2, us, by rw [upd_ne fun q => hne (s.env.inj j i _ _ hm hc q)]; exact d3, d4⟩
  · obtain ⟨n1, e1⟩ := some_of h1
    obtain ⟨n2, e2⟩ := some_of h2
    exact s.env.inj j k n1 n2 e1 e2 ha
  · have : a ≠ ad i := fun z => by subst z; rw [s.env.off _ c2] at q; cases q
    rw [upd_ne this]; exact s.env.le a o q
  · by_cases ha : a = ad i
    · rw [ha, upd_same]; exact ⟨ws, rfl⟩
    · rw [upd_ne ha]; exact s.env.there a h
  · have : a ≠ ad i := fun z => by
      rcases s.new _ c2 with y | y
      · exact n (z ▸ y)
      · rw [z, y] at q; cases q
    rw [upd_ne this]; exact s.stp.keep a o q n
theorem ss_app {i : Nat} {p ap cp : Pos} {o : Expr} (hv : chk X.N (.var i) X.env.scope o = true) (hp : plainE x = true) (h : SE G call xn X a x) (hl : (ap.endLine == cp.line) = true) :
    SS G call xn X E np lp (.app i a) (.Expr (.Call (.Attribute o "append" ap) [x] [] cp) p) := by
  intro W C ad σ ρ F H tk s
  unfold exe
  have ho : ∃ y q, o = .Name y q := by
    unfold chk at hv
    split at hv
    · rename_i y hy
      obtain ⟨q, rfl⟩ := eName_inv hy
      exact ⟨y, q, rfl⟩
    · cases hv
  obtain ⟨y, q0, rfl⟩ := ho
  have PX := pe_bm (cpos := cp) (apos := ap) PySem.F.plainAttrs_list PySem.F.slot_list_append PySem.F.type_list_append mt_append (pe_varC hv) (pa_cons (pe_we (X := X) (e := x)) pa_nil (star_plain hp)) (by rfl)
    (by rw [star_plain hp]; rfl) hl (star_plain hp) rfl
  cases hc : cellAt ρ i with
  | none => trivial
  | some l0 =>
    obtain ⟨c1, c2, vs0, c3, c4⟩ := s.env.cel i l0 hc
    refine FOk.imp (T := fun D => We X x σ H fun v H1 => rAppend (.ref (ad i)) [v] H1 fun _ H2 => D.nx σ H2) ?_ fun D q =>
      Ws.of (ps_expr PX rfl) ⟨_, c1, .inl ⟨rfl, _, SqL.of c3⟩, q⟩
    refine FOk.fl (T2 := fun v H1 D => rAppend (.ref (ad i)) [v] H1 fun _ H2 => D.nx σ H2) s (asD_sd (h W C ad σ ρ F H tk s.env)) fun d ρ1 v F1 H1 le s1 t r => ?_
    cases hl1 : cellAt ρ1 i with
    | none => trivial
    | some l =>
      show FOk X xn W E np lp F1 (if l.length < LIM then .nx (setCell ρ1 i (l ++ [d])) else .no) _
      by_cases hz : l.length < LIM
      · rw [if_pos hz]
        obtain ⟨d1, d2, us, d3, d4⟩ := s1.env.cel i l hl1
        exact fun D q => ⟨ad i, us, v, rfl, rfl, d3, by rw [d4.len]; exact Nat.lt_of_lt_of_le hz lim_line, q C ad σ F1 _ Le.refl (s1.put hl1 (d4.append (Reps.one r)))⟩
      · rw [if_neg hz]; trivial
theorem atC {i : Nat} {l : List D} (s : StOk X.K E np lp C ad F H σ ρ) (hc : cellAt ρ i = some l) : σ[i]? = some (some (.ref (ad i))) := (s.env.cel i l hc).1
theorem sub_assign {o i : Expr} {pos : Pos} {env : Env} (hp : plainE i = true) : ∀ v, assign (.Subscript o i pos) env v = (do
      let ov ← holding [v] (eval o env)
      let iv ← holding [v, ov] (eval i env)
      standAt pos
      holding [v, ov, iv] (setItem ov iv v)
      release [v, ov, iv] []) := by
  intro v
  cases i <;> first | rfl | cases hp
def notLC : Expr → Bool | .ListComp _ _ _ _ => false | .SetComp _ _ _ _ => false | .DictComp _ _ _ _ _ => false | _ => true
theorem swaps_no {e : Expr} {t : Option Expr} {l : Nat} {env : Env} (h : notLC e = true) : swapsWith e t l env = pure false := by
  cases e <;> first | rfl | cases h
theorem sole_no {t e : Expr} {l : Nat} {env : Env} (h : notLC e = true) : swapsWithSole [t] e l env = pure false := by
  unfold swapsWithSole
  exact swaps_no h
theorem ss_sto {i : Nat} {k : ME} {o ke : Expr} {p1 p : Pos} (hv : chk X.N (.var i) X.env.scope o = true) (hk : plainE ke = true) (hn : notLC x = true) (h : SE G call xn X a x) (h2 : SE G call xn X k ke) :
    SS G call xn X E np lp (.sto i k a) (.Assign [.Subscript o ke p1] x p) := by
  intro W C ad σ ρ F H tk s
  unfold exe
  have PX := ps_asg (pos := p) (pe_we (X := X) (e := x)) (pg_sub (pos := p1) (pe_varC hv) (pe_we (X := X) (e := ke)) set_list (sub_assign hk)) (sole_no hn) rfl rfl
  refine FOk.imp (T := fun D => We X x σ H fun v H1 => tVar i σ H1 fun ov H2 => We X ke σ H2 fun kv H3 => rSetL ov kv v H3 fun H4 => D.nx σ H4) ?_ fun D q => Ws.of PX q
  refine FOk.fl (T2 := fun v H1 D => tVar i σ H1 fun ov H2 => We X ke σ H2 fun kv H3 => rSetL ov kv v H3 fun H4 => D.nx σ H4) s (asD_sd (h W C ad σ ρ F H tk s.env)) fun d ρ1 v F1 H1 le s1 t r => ?_
  cases hc : cellAt ρ1 i with
  | none => trivial
  | some l0 =>
    refine FOk.imp (T := fun D => We X ke σ H1 fun kv H3 => rSetL (.ref (ad i)) kv v H3 fun H4 => D.nx σ H4) ?_ fun D q => ⟨_, atC s1 hc, q⟩
    refine FOk.fl (T2 := fun kv H3 D => rSetL (.ref (ad i)) kv v H3 fun H4 => D.nx σ H4) s1 (asD_sd (h2 W C ad σ ρ1 F1 H1 tk s1.env)) fun kd ρ2 kv F2 H2 le2 s2 t2 r2 => ?_
    cases kd with
    | int kk =>
      show FOk X xn W E np lp F2 (nxO (stoR ρ2 i kk d)) _
      unfold stoR
      cases hc2 : cellAt ρ2 i with
      | none => trivial
      | some l =>
        show FOk X xn W E np lp F2 (nxO ((ixN l.length kk).map fun j => setCell ρ2 i (l.set j d))) _
        cases hj : ixN l.length kk with
        | none => trivial
        | some j =>
          obtain ⟨d1, d2, us, d3, d4⟩ := s2.env.cel i l hc2
          exact fun D q => ⟨ad i, us, kk, j, rfl, Rep.int.mp (show Rep X.K F2 (.int kk) kv from r2), d3, by rw [d4.len]; exact hj, q C ad σ F2 _ Le.refl (s2.put hc2 (d4.set j (Rep.le t2.le _ _ r)))⟩
    | _ => trivial
/-- t += u, tuples -/
theorem ss_aug {i : Nat} {st : Stmt} (hs : PS X st (tAug i (We X x) (rCatA X.K))) (h : SE G call xn X a x) : SS G call xn X E np lp (.aug i a) st := by
  intro W C ad σ ρ F H tk s
  unfold exe
  cases h0 : tupS ρ[i]? with
  | none => trivial
  | some xs =>
    have hd0 : ρ[i]? = some (.dat (.tup xs)) := by
      unfold tupS at h0
      split at h0
      · rename_i ys e1; cases h0; exact e1
      · cases h0
    obtain ⟨v0, a1, a2⟩ := s.env.dat i _ hd0
    obtain ⟨pa, vs, rfl, b1, b2⟩ := Rep.tup.mp a2
    refine FOk.imp (T := fun D => We X x σ H fun v H1 => rCatA X.K (V.ref pa) v H1 fun z H2 => D.nx (σ.set i (some z)) H2) ?_ fun D q => Ws.of hs ⟨_, a1, q⟩
    refine FOk.fl (T2 := fun v H1 D => rCatA X.K (V.ref pa) v H1 fun z H2 => D.nx (σ.set i (some z)) H2) s (asD_sd (h W C ad σ ρ F H tk s.env)) fun d ρ1 v F1 H1 le s1 t r => ?_
    unfold augR
    split
    · rename_i ys
      obtain ⟨pb, us, rfl, c1, c2⟩ := Rep.tup.mp (show Rep X.K F1 (.tup ys) v from r)
      split
      · rename_i hz
        cases hd : DI.setD ρ1 i (.tup (xs ++ ys)) with
        | none => trivial
        | some ρ2 =>
          intro D q
          have b2' := Reps.le le _ _ b2
          have hl : vs.length + us.length ≤ sizeLine := by rw [b2.len, c2.len]; exact Nat.le_trans hz lim_line
          refine ⟨pa, pb, vs, us, rfl, rfl, SqT.le s1.env.le (SqT.le le b1), SqT.le s1.env.le c1, hl, fun z => ?_, fun z1 z => ?_, fun z1 z p n => ?_⟩
          · refine q C ad _ F1 H1 Le.refl (s1.setD hd (Rep.tup.mpr ⟨pb, us, rfl, c1, ?_⟩))
            subst z
            have hn : xs = [] := List.eq_nil_of_length_eq_zero b2.len.symm
            subst hn; exact c2
          · refine q C ad _ F1 H1 Le.refl (s1.setD hd (Rep.tup.mpr ⟨pa, vs, rfl, SqT.le le b1, ?_⟩))
            subst z
            have hn : ys = [] := List.eq_nil_of_length_eq_zero c2.len.symm
            subst hn; rw [List.append_nil]; exact b2'
          · exact q C ad _ _ _ (le_upd0 (s1.env.F_none n)) ((s1.next (s1.env.stpF n) (s1.env.frozen n)).setD hd (Rep.tup.mpr ⟨p, vs ++ us, rfl, SqT.of upd_same, Reps.le (le_upd0 (s1.env.F_none n)) _ _ (b2'.append c2)⟩))
      · trivial
    · trivial
/-- r.extend(a new list) -/
theorem ss_ext {i : Nat} {p ap cp : Pos} {o : Expr} (hv : chk X.N (.var i) X.env.scope o = true) (hp : plainE x = true) (h : SE G call xn X a x) (hl : (ap.endLine == cp.line) = true) :
    SS G call xn X E np lp (.ext i a) (.Expr (.Call (.Attribute o "extend" ap) [x] [] cp) p) := by
  intro W C ad σ ρ F H tk s
  unfold exe
  have ho : ∃ y q, o = .Name y q := by
    unfold chk at hv
    split at hv
    · rename_i y hy
      obtain ⟨q, rfl⟩ := eName_inv hy
      exact ⟨y, q, rfl⟩
    · cases hv
  obtain ⟨y, q0, rfl⟩ := ho
  have PX := pe_bm (cpos := cp) (apos := ap) PySem.F.plainAttrs_list PySem.F.slot_list_extend PySem.F.type_list_extend mt_extend (pe_varC hv) (pa_cons (pe_we (X := X) (e := x)) pa_nil (star_plain hp)) (by rfl)
    (by rw [star_plain hp]; rfl) hl (star_plain hp) rfl
  cases hc : cellAt ρ i with
  | none => trivial
  | some l0 =>
    obtain ⟨c1, c2, vs0, c3, c4⟩ := s.env.cel i l0 hc
    refine FOk.imp (T := fun D => We X x σ H fun v H1 => rExtend (.ref (ad i)) [v] H1 fun _ H2 => D.nx σ H2) ?_ fun D q =>
      Ws.of (ps_expr PX rfl) ⟨_, c1, .inl ⟨rfl, _, SqL.of c3⟩, q⟩
    refine FOk.fl (T2 := fun v H1 D => rExtend (.ref (ad i)) [v] H1 fun _ H2 => D.nx σ H2) s (h W C ad σ ρ F H tk s.env) fun r0 ρ1 v F1 H1 le s1 t r => ?_
    cases r0 with
    | dat d => trivial
    | var j => trivial
    | new ys =>
      cases hl1 : cellAt ρ1 i with
      | none => trivial
      | some l =>
        show FOk X xn W E np lp F1 (if l.length + ys.length ≤ LIM then .nx (setCell ρ1 i (l ++ ys)) else .no) _
        by_cases hz : l.length + ys.length ≤ LIM
        · rw [if_pos hz]
          obtain ⟨d1, d2, us, d3, d4⟩ := s1.env.cel i l hl1
          obtain ⟨pb, ws, rfl, b1, b2, b3, b4, b5⟩ := r
          exact fun D q => ⟨ad i, pb, us, ws, rfl, rfl, d3, b4, by rw [d4.len, b5.len]; exact Nat.le_trans hz lim_line, q C ad σ F1 _ Le.refl (s1.put hl1 (d4.append b5))⟩
        · rw [if_neg hz]; trivial
/-- x op= an int -/
theorem ss_aui {i : Nat} {o : Op} {st : Stmt} {f : Int → Int → Int} (hf : ∀ m d z, sauO o m d = some z → ∃ k, d = .int k ∧ z = f m k) (hs : PS X st (tAug i (We X x) (ipI f))) (h : SE G call xn X a x) : SS G call xn X E np lp (.aui i o a) st := by
  intro W C ad σ ρ F H tk s
  unfold exe
  cases h0 : datI ρ i with
  | none => trivial
  | some m =>
    have hd0 : ρ[i]? = some (.dat (.int m)) := by
      unfold datI at h0
      split at h0
      · rename_i k e1; cases h0; exact e1
      · cases h0
    obtain ⟨v0, a1, a2⟩ := s.env.dat i _ hd0
    obtain rfl := Rep.int.mp a2
    refine FOk.imp (T := fun D => We X x σ H fun v H1 => ipI f (V.int m) v H1 fun z H2 => D.nx (σ.set i (some z)) H2) ?_ fun D q => Ws.of hs ⟨_, a1, q⟩
    refine FOk.fl (T2 := fun v H1 D => ipI f (V.int m) v H1 fun z H2 => D.nx (σ.set i (some z)) H2) s (asD_sd (h W C ad σ ρ F H tk s.env)) fun d ρ1 v F1 H1 le s1 t r => ?_
    cases hz : sauO o m d with
    | none => trivial
    | some z =>
      obtain ⟨k, rfl, rfl⟩ := hf m d z hz
      show FOk X xn W E np lp F1 (nxO (DI.setD ρ1 i (.int (f m k)))) _
      cases hd : DI.setD ρ1 i (.int (f m k)) with
      | none => trivial
      | some ρ2 => exact fun D q => ⟨m, k, rfl, Rep.int.mp (show Rep X.K F1 (.int k) v from r), q C ad _ F1 H1 Le.refl (s1.setD hd (Rep.int.mpr rfl))⟩
/-- r[k] op= an int -/
theorem ss_sau {i : Nat} {o : Op} {op : Operator} {k : ME} {rc ke : Expr} {p1 p : Pos} {f : Int → Int → Int} (hf : ∀ m d z, sauO o m d = some z → ∃ k, d = .int k ∧ z = f m k) (ip : PIp X op (ipI f)) (hv : chk X.N (.var i) X.env.scope rc = true) (hk : plainE ke = true)
    (h : SE G call xn X a x) (h2 : SE G call xn X k ke) : SS G call xn X E np lp (.sau i o k a) (.AugAssign (.Subscript rc ke p1) op x p) := by
  intro W C ad σ ρ F H tk s
  unfold exe
  have PX := ps_augS (pos := p) (tpos := p1) (pe_varC hv) (pe_we (X := X) (e := ke)) get_listR (pe_we (X := X) (e := x)) ip (set_list (X := X)) (by intro ov iv new; cases ke <;> first | rfl | cases hk)
  cases hc : cellAt ρ i with
  | none => trivial
  | some l0 =>
    refine FOk.imp (T := fun D => We X ke σ H fun kv H2 => rIxL X.K (.ref (ad i)) kv H2 fun x1 H3 => We X x σ H3 fun y H4 => ipI f x1 y H4 fun z H5 => rSetL (.ref (ad i)) kv z H5 fun H6 => D.nx σ H6) ?_ fun D q => Ws.of PX ⟨_, atC s hc, q⟩
    refine FOk.fl (T2 := fun kv H2 D => rIxL X.K (.ref (ad i)) kv H2 fun x1 H3 => We X x σ H3 fun y H4 => ipI f x1 y H4 fun z H5 => rSetL (.ref (ad i)) kv z H5 fun H6 => D.nx σ H6) s (asD_sd (h2 W C ad σ ρ F H tk s.env)) fun kd ρ1 kv F1 H1 le s1 t r => ?_
    cases kd with
    | int kk =>
      obtain rfl := Rep.int.mp (show Rep X.K F1 (.int kk) kv from r)
      show FOk X xn W E np lp F1 (sauR i o kk (fun ρ => asD (ev G call a ρ)) ρ1) _
      unfold sauR
      cases hc1 : cellAt ρ1 i with
      | none => trivial
      | some l =>
        rw [Option.bind_some]
        cases ha : L2.atI l kk with
        | none => trivial
        | some dm =>
          cases dm with
          | int m =>
            obtain ⟨d1, d2, us, d3, d4⟩ := s1.env.cel i l hc1
            obtain ⟨w, ew, rw'⟩ := atI_reps d4 ha
            obtain rfl := Rep.int.mp rw'
            refine FOk.imp (T := fun D => We X x σ H1 fun y H4 => ipI f (V.int m) y H4 fun z H5 => rSetL (.ref (ad i)) (V.int kk) z H5 fun H6 => D.nx σ H6) ?_ fun D q => ⟨ad i, us, kk, _, rfl, rfl, SqL.of d3, ew, q⟩
            refine FOk.fl (T2 := fun y H4 D => ipI f (V.int m) y H4 fun z H5 => rSetL (.ref (ad i)) (V.int kk) z H5 fun H6 => D.nx σ H6) s1 (asD_sd (h W C ad σ ρ1 F1 H1 tk s1.env)) fun d ρ2 v F2 H2 le2 s2 t2 r2 => ?_
            cases hz : sauO o m d with
            | none => trivial
            | some z =>
              obtain ⟨q2, rfl, rfl⟩ := hf m d z hz
              show FOk X xn W E np lp F2 (nxO (stoR ρ2 i kk (.int (f m q2)))) _
              unfold stoR
              cases hc2 : cellAt ρ2 i with
              | none => trivial
              | some l2 =>
                rw [Option.bind_some]
                cases hj : ixN l2.length kk with
                | none => trivial
                | some j =>
                  obtain ⟨e1, e2, us2, e3, e4⟩ := s2.env.cel i l2 hc2
                  exact fun D q => ⟨m, q2, rfl, Rep.int.mp (show Rep X.K F2 (.int q2) v from r2), ad i, us2, kk, j, rfl, rfl, e3, by rw [e4.len]; exact hj, q C ad σ F2 _ Le.refl (s2.put hc2 (e4.set j (Rep.int.mpr rfl)))⟩
          | _ => trivial
    | _ => trivial
theorem tup_of {N : List Str} {i j : Nat} {sc : Scope} {tg : Expr} (h : chkG N (.two i j) sc true tg = true) : ∃ a b k q, tg = .Tuple [a, b] k q := by
  unfold chkG at h
  dsimp only at h
  split at h
  · rename_i a b hx
    obtain ⟨k, p, rfl⟩ := eTup_inv hx
    exact ⟨a, b, k, p, rfl⟩
  · cases h
/-- a, b = a name -/
def unpV : Expr → Bool | .Name _ _ => true | .Call _ _ _ _ => true | .Subscript _ _ _ => true | _ => false
theorem ss_unp {i j : Nat} {tg : Expr} {p : Pos} (hv : unpV e = true) (hg : PG X tg (gT X.K (.two i j))) (hsh : ∃ a b k q, tg = .Tuple [a, b] k q) (h : SE G call xn X a e) : SS G call xn X E np lp (.unp i j a) (.Assign [tg] e p) := by
  obtain ⟨ta, tb, tk, tq, rfl⟩ := hsh
  intro W C ad σ ρ F H tk s
  unfold exe
  have PX : PS X (.Assign [.Tuple [ta, tb] _ tq] e p) _ := ps_asg (pos := p) (pe_we (X := X) (e := e)) hg (sole_no (by cases e <;> first | rfl | cases hv)) (by cases e <;> first | rfl | cases hv) rfl
  refine FOk.imp (T := fun D => We X e σ H fun v H1 => gT X.K (.two i j) v σ H1 fun σ2 H2 => D.nx σ2 H2) ?_ fun D q => Ws.of PX q
  refine FOk.fl (T2 := fun v H1 D => gT X.K (.two i j) v σ H1 fun σ2 H2 => D.nx σ2 H2) s (asD_sd (h W C ad σ ρ F H tk s.env)) fun d ρ1 v F1 H1 le s1 t r => ?_
  cases hd : asg (.two i j) d ρ1 with
  | none => trivial
  | some ρ2 => exact fun D q => asg_ok s1.env hd r fun σ2 e2 off => q C ad σ2 F1 H1 Le.refl ⟨e2, s1.stp, s1.new, s1.sub, s1.lnt, s1.own, s1.ent⟩
theorem ss_expr {p : Pos} (hn : notLC x = true) (h : SE G call xn X a x) : SS G call xn X E np lp (.expr a) (.Expr x p) := by
  intro W C ad σ ρ F H tk s
  unfold exe
  refine FOk.imp (T := fun D => We X x σ H fun _ H1 => D.nx σ H1) ?_ fun D q => Ws.of (ps_expr pe_we (swaps_no hn)) q
  refine FOk.fl (T2 := fun _ H1 D => D.nx σ H1) s (h W C ad σ ρ F H tk s.env) fun r ρ1 v F1 H1 le s1 t rr => ?_
  exact fun D q => q C ad σ F1 H1 Le.refl s1
theorem ss_doc {x : Str} {j : Nat} {p p' : Pos} : SS G call xn X E np lp .doc (.Expr (.Constant (.str x) j p) p') := by
  intro W C ad σ ρ F H tk s
  unfold exe
  exact fun D q => Ws.of ps_doc (q C ad σ F H Le.refl s)
theorem ss_ifs {s1 s2 : MSs} {t1 t2 : List Stmt} {p : Pos} (hc : ST G call xn X c z) (h1 : SSs G call xn X E np lp s1 t1) (h2 : SSs G call xn X E np lp s2 t2) : SS G call xn X E np lp (.ifs c s1 s2) (.If z t1 t2 p) := by
  intro W C ad σ ρ F H tk s
  unfold exe
  refine FOk.imp (T := fun D => Wt X z σ H fun t H1 => if t = true then Wss X t1 D σ H1 else Wss X t2 D σ H1) ?_ fun D q => Ws.of (ps_if pt_wt pss_wss pss_wss) q
  refine FOk.fl (T2 := fun (t : Bool) H1 D => if t = true then Wss X t1 D σ H1 else Wss X t2 D σ H1) s (hc W C ad σ ρ F H tk s.env) fun t ρ1 v F1 H1 le st tt r => ?_
  subst r
  cases v with
  | true => rw [if_pos rfl]; exact FOk.imp (h1 W C ad σ ρ1 F1 H1 tk st) fun D q => by rw [if_pos rfl]; exact q
  | false => rw [if_neg Bool.false_ne_true]; exact FOk.imp (h2 W C ad σ ρ1 F1 H1 tk st) fun D q => by rw [if_neg Bool.false_ne_true]; exact q
/-- x = y, y a list that may change no more -/
theorem ss_mv {i j : Nat} {st : Stmt} (hj : np ≤ j) (hs : PS X st (tAsg (tVar j) (gName i))) : SS G call xn X E np lp (.mv i j) st := by
  intro W C ad σ ρ F H tk s
  unfold exe
  by_cases hij : i = j
  · rw [if_pos hij]; trivial
  · rw [if_neg hij]
    split
    · rename_i l hl
      have hc : cellAt ρ j = some l := by unfold cellAt; rw [hl]
      obtain ⟨c1, c2, vs, c3, c4⟩ := s.env.cel j l hc
      have hlt := (List.getElem?_eq_some_iff.mp hl).1
      have fj := s.env.off _ c2
      have nas : ad j ∉ E.as := fun z => by
        obtain ⟨o, ho⟩ := s.ent _ z
        rw [s.own j hj] at ho; cases ho
      -- frozen
      have s2 : StOk X.K E np lp (fun a => C a ∧ a ≠ ad j) ad (upd F (ad j) (.lst vs)) H σ (ρ.set j (.dat (.lst l))) := by
        have cc : ∀ {k : Nat} {lk : List DI.D}, cellAt (ρ.set j (.dat (.lst l))) k = some lk → k ≠ j ∧ cellAt ρ k = some lk := fun {k lk} h => by
          have hk : k ≠ j := fun z => by
            subst z
            unfold cellAt at h
            rw [List.getElem?_set_self hlt] at h; cases h
          exact ⟨hk, by rw [← h]; exact (cellAt_of (List.getElem?_set_ne (Ne.symm hk))).symm⟩
        refine ⟨⟨by simp [s.env.len], fun k d h => ?_, fun k lk h => ?_, fun k m lk lm h1 h2 => s.env.inj k m lk lm (cc h1).2 (cc h2).2, fun a o q => ?_, fun a h => ?_, fun a h => s.env.there a h.1⟩, ⟨fun a o q => le_upd0 fj a o (s.stp.le a o q), s.stp.keep, fun a o q => ?_, fun a h => ?_⟩,
          fun a h => s.new a h.1, fun a h => ⟨s.sub a h, fun z => nas (z ▸ h)⟩, s.lnt, s.own, s.ent⟩
        · by_cases hk : k = j
          · subst hk
            rw [List.getElem?_set_self hlt] at h
            cases h
            exact ⟨_, c1, Rep.lst.mpr ⟨ad k, vs, rfl, .inl upd_same, Reps.le (le_upd0 fj) _ _ c4⟩⟩
          · rw [List.getElem?_set_ne (Ne.symm hk)] at h
            obtain ⟨v, h1, h2⟩ := s.env.dat k d h
            exact ⟨v, h1, Rep.le (le_upd0 fj) _ _ h2⟩
        · obtain ⟨hk, h2⟩ := cc h
          obtain ⟨d1, d2, us, d3, d4⟩ := s.env.cel k lk h2
          exact ⟨d1, ⟨d2, fun z => hk (s.env.inj k j lk l h2 hc z)⟩, us, d3, Reps.le (le_upd0 fj) _ _ d4⟩
        · by_cases ha : a = ad j
          · subst ha; rw [upd_same] at q; cases q; exact c3
          · rw [upd_ne ha] at q; exact s.env.le a o q
        · rw [upd_ne h.2]; exact s.env.off a h.1
        · by_cases ha : a = ad j
          · subst ha; exact .inr (s.own j hj)
          · rw [upd_ne ha] at q; exact s.stp.new a o q
        · rw [upd_ne (show a ≠ ad j from fun z => nas (z ▸ h))]; exact s.stp.off a h
      cases hd : setD (ρ.set j (.dat (.lst l))) i (.lst l) with
      | none => trivial
      | some ρ2 =>
        intro D q
        refine Ws.of hs ⟨_, c1, ?_⟩
        exact q _ ad _ _ H (le_upd0 fj) (s2.setD hd (Rep.lst.mpr ⟨ad j, vs, rfl, .inl upd_same, Reps.le (le_upd0 fj) _ _ c4⟩))
    · trivial
/-! ### for -/
theorem ss_for {t : Tg} {it : MI} {b : MSs} {tg ie : Expr} {body : List Stmt} {p : Pos} (hc : X.calm = true) (po : PassesOwn (model X.prog X.w) X.A X.env X.xe) (hpi : plainE ie = true) (hw : SI G call xn X it ie) (hot : okTg it tg) (hg : PG X tg (gT X.K t)) (hb : SSs G call xn X E np lp b body) :
    SS G call xn X E np lp (.for_ t it b) (.For tg ie body [] p) := by
  intro W C ad σ ρ F H tk s
  unfold exe
  refine FOk.imp (T := fun D => Wi X tg ie σ H fun J H1 => ∃ W : Nat → Nat → L2.St → Hp → Prop, (∃ m, W 0 m σ H1) ∧ ∀ i m σ H, W i m σ H →
    (J.stop i H ∧ D.nx σ H) ∨ (J.go i H ∧ ∃ N : L2.St → Hp → Prop, (∀ σ' H', N σ' H' → ∃ m', m' < m ∧ W (i + 1) m' σ' H') ∧ ∀ x H', J.yld i H x H' → gT X.K t x σ H' fun σ2 H2 => Wss X body { D with nx := N, ct := N, bk := D.nx } σ2 H2)) ?_ fun D q => Ws.of (ps_for po hc pi_wi hg pss_wss (fold_plain hpi)) q
  refine FOk.fl (T2 := fun J H1 D => ∃ W : Nat → Nat → L2.St → Hp → Prop, (∃ m, W 0 m σ H1) ∧ ∀ i m σ H, W i m σ H →
    (J.stop i H ∧ D.nx σ H) ∨ (J.go i H ∧ ∃ N : L2.St → Hp → Prop, (∀ σ' H', N σ' H' → ∃ m', m' < m ∧ W (i + 1) m' σ' H') ∧ ∀ x H', J.yld i H x H' → gT X.K t x σ H' fun σ2 H2 => Wss X body { D with nx := N, ct := N, bk := D.nx } σ2 H2)) s (hw tg hot W C ad σ ρ F H tk s.env) fun ds ρ1 J F1 H1 le s1 t1 wk => ?_
  -- the turns
  have core : ∀ (D : Ends) (out : Fl), forL t (fun ρ => exs G call b ρ) ds ρ1 = out →
      (match out with
        | .no => False
        | .nx ρ => ∀ C ad σ F' H, Le F1 F' → StOk X.K E np lp C ad F' H σ ρ → D.nx σ H
        | .bk _ => False
        | .ct _ => False
        | .rt r ρ => ∀ C ad v σ F' H, Le F1 F' → StOk X.K E np lp C ad F' H σ ρ → RtOk X.K E.as E.H0 F' H r v → D.rt v H
        | .ex c fs ρ => ∀ C ad σ F' H cls d, Le F1 F' → StOk X.K E np lp C ad F' H σ ρ → ExAt X.K X.mg xn c fs F' H cls d → W cls d σ H) →
      ∃ W : Nat → Nat → L2.St → Hp → Prop, (∃ m, W 0 m σ H1) ∧ ∀ i m σ H, W i m σ H →
    (J.stop i H ∧ D.nx σ H) ∨ (J.go i H ∧ ∃ N : L2.St → Hp → Prop, (∀ σ' H', N σ' H' → ∃ m', m' < m ∧ W (i + 1) m' σ' H') ∧ ∀ x H', J.yld i H x H' → gT X.K t x σ H' fun σ2 H2 => Wss X body { D with nx := N, ct := N, bk := D.nx } σ2 H2) := by
    intro D out ho hD
    refine ⟨fun i m σi Hi => ∃ (C : Addr → Prop) (ad : Nat → Addr) (ρi : Ro) (Fi : Hp), m = ds.length - i ∧ i ≤ ds.length ∧ forL t (fun ρ => exs G call b ρ) (ds.drop i) ρi = out ∧ Le F1 Fi ∧ StOk X.K E np lp C ad Fi Hi σi ρi, ⟨ds.length, C, ad, ρ1, F1, by simp, Nat.zero_le _, by simpa using ho, Le.refl, s1⟩, ?_⟩
    rintro i m σi Hi ⟨C, ad, ρi, Fi, hm, hi, hr, li, si⟩
    have wki := wk Fi Hi li si.env.le i
    by_cases hlt : i < ds.length
    · refine .inr ⟨(wki.1 hlt).1, fun σn Hn => ∃ (C : Addr → Prop) (ad : Nat → Addr) (ρn : Ro) (Fn : Hp), forL t (fun ρ => exs G call b ρ) (ds.drop (i + 1)) ρn = out ∧ Le F1 Fn ∧ StOk X.K E np lp C ad Fn Hn σn ρn, ?_, ?_⟩
      · rintro σn Hn ⟨C, ad, ρn, Fn, n1, n2⟩
        exact ⟨ds.length - (i + 1), by omega, C, ad, ρn, Fn, rfl, by omega, n1, n2⟩
      · intro xv H' hy
        obtain ⟨d, hd, hz⟩ := (wki.1 hlt).2 xv H' hy
        obtain ⟨Fj, sj, ej, rd⟩ := yld_step si.env hz
        have li := li.trans sj.le
        have si := si.next sj ej
        have hdr : ds.drop i = d :: ds.drop (i + 1) := by
          obtain ⟨h1, h2⟩ := List.getElem?_eq_some_iff.mp hd
          rw [← h2]; exact List.drop_eq_getElem_cons h1
        rw [hdr] at hr
        unfold forL at hr
        cases hA : asg t d ρi with
        | none => rw [hA] at hr; subst hr; exact hD.elim
        | some ρ2 =>
          rw [hA] at hr
          dsimp only at hr
          refine asg_ok si.env hA rd fun σ2 e2 off => ?_
          have s2 : StOk X.K E np lp C ad Fj H' σ2 ρ2 := ⟨e2, si.stp, si.new, si.sub, si.lnt, si.own, si.ent⟩
          have kb := hb W C ad σ2 ρ2 Fj H' tk s2
          cases hB : exs G call b ρ2 with
          | no => rw [hB] at hr; subst hr; exact hD.elim
          | nx ρ3 =>
            rw [hB] at hr kb
            exact kb _ fun C ad σ F' H le s => ⟨C, ad, ρ3, F', hr, li.trans le, s⟩
          | ct ρ3 =>
            rw [hB] at hr kb
            exact kb _ fun C ad σ F' H le s => ⟨C, ad, ρ3, F', hr, li.trans le, s⟩
          | bk ρ3 =>
            rw [hB] at hr kb
            subst hr
            exact kb _ fun C ad σ F' H le s => hD C ad σ F' H (li.trans le) s
          | rt r ρ3 =>
            rw [hB] at hr kb
            subst hr
            exact kb _ fun C ad v σ F' H le s rr => hD C ad v σ F' H (li.trans le) s rr
          | ex c fs ρ3 =>
            rw [hB] at hr kb
            subst hr
            exact kb (fun C ad σ F' H cls d le s xa => hD C ad σ F' H cls d (li.trans le) s xa) _
    · have hie : i = ds.length := by omega
      subst hie
      rw [List.drop_length] at hr
      unfold forL at hr
      subst hr
      exact .inl ⟨wki.2 (Nat.le_refl _), hD C ad σi Fi Hi li si⟩
  have nobk : ∀ (ds : List D) (ρ : Ro), (∀ ρ', forL t (fun ρ => exs G call b ρ) ds ρ ≠ .bk ρ') ∧ ∀ ρ', forL t (fun ρ => exs G call b ρ) ds ρ ≠ .ct ρ' := by
    intro ds
    induction ds with
    | nil => intro ρ; unfold forL; exact ⟨(fun _ z => nomatch z), (fun _ z => nomatch z)⟩
    | cons d r ih =>
      intro ρ
      unfold forL
      cases asg t d ρ with
      | none => exact ⟨(fun _ z => nomatch z), (fun _ z => nomatch z)⟩
      | some ρ1 =>
        dsimp only
        cases exs G call b ρ1 with
        | no => exact ⟨(fun _ z => nomatch z), (fun _ z => nomatch z)⟩
        | nx ρ2 => exact ih ρ2
        | ct ρ2 => exact ih ρ2
        | bk ρ2 => exact ⟨(fun _ z => nomatch z), (fun _ z => nomatch z)⟩
        | rt r ρ2 => exact ⟨(fun _ z => nomatch z), (fun _ z => nomatch z)⟩
        | ex c fs ρ2 => exact ⟨(fun _ z => nomatch z), (fun _ z => nomatch z)⟩
  cases ho : forL t (fun ρ => exs G call b ρ) ds ρ1 with
  | no => trivial
  | nx ρ => exact fun D q => core D _ ho q
  | bk ρ => exact absurd ho ((nobk ds ρ1).1 ρ)
  | ct ρ => exact absurd ho ((nobk ds ρ1).2 ρ)
  | rt r ρ => exact fun D q => core D _ ho q
  | ex c fs ρ => exact fun q D => core D _ ho q
/-! ### while -/
theorem whL_nobk {c : Ro → Out Bool} {b : Ro → Fl} : ∀ (n : Nat) (ρ : Ro), (∀ ρ', whL c b n ρ ≠ .bk ρ') ∧ ∀ ρ', whL c b n ρ ≠ .ct ρ' := by
  intro n
  induction n with
  | zero => intro ρ; unfold whL; exact ⟨(fun _ z => nomatch z), (fun _ z => nomatch z)⟩
  | succ n ih =>
    intro ρ
    unfold whL
    cases c ρ with
    | no => exact ⟨(fun _ z => nomatch z), (fun _ z => nomatch z)⟩
    | ex k fs ρ' => exact ⟨(fun _ z => nomatch z), (fun _ z => nomatch z)⟩
    | ok t ρ1 =>
      cases t with
      | false => exact ⟨(fun _ z => nomatch z), (fun _ z => nomatch z)⟩
      | true =>
        show (∀ ρ', (match b ρ1 with | .nx ρ2 => whL c b n ρ2 | .ct ρ2 => whL c b n ρ2 | .bk ρ2 => .nx ρ2 | y => y) ≠ .bk ρ') ∧ ∀ ρ', (match b ρ1 with | .nx ρ2 => whL c b n ρ2 | .ct ρ2 => whL c b n ρ2 | .bk ρ2 => .nx ρ2 | y => y) ≠ .ct ρ'
        cases b ρ1 with
        | no => exact ⟨(fun _ z => nomatch z), (fun _ z => nomatch z)⟩
        | nx ρ2 => exact ih ρ2
        | ct ρ2 => exact ih ρ2
        | bk ρ2 => exact ⟨(fun _ z => nomatch z), (fun _ z => nomatch z)⟩
        | rt r ρ2 => exact ⟨(fun _ z => nomatch z), (fun _ z => nomatch z)⟩
        | ex c fs ρ2 => exact ⟨(fun _ z => nomatch z), (fun _ z => nomatch z)⟩
theorem ss_whl {b : MSs} {body : List Stmt} {p : Pos} (po : PassesOwn (model X.prog X.w) X.A X.env X.xe) (hc : ST G call xn X c z) (hb : SSs G call xn X E np lp b body) :
    SS G call xn X E np lp (.whl c b) (.While z body [] p) := by
  intro W C ad σ ρ F H tk s
  unfold exe
  refine FOk.imp (T := fun D => tWhile (Wt X z) (Wss X body) D σ H) ?_ fun D q => Ws.of (ps_while po pt_wt pss_wss) q
  have core : ∀ (D : Ends) (out : Fl), whL (fun ρ => asT (ev G call c ρ)) (fun ρ => exs G call b ρ) WH ρ = out →
      (match out with
        | .no => False
        | .nx ρ => ∀ C ad σ F' H, Le F F' → StOk X.K E np lp C ad F' H σ ρ → D.nx σ H
        | .bk _ => False
        | .ct _ => False
        | .rt r ρ => ∀ C ad v σ F' H, Le F F' → StOk X.K E np lp C ad F' H σ ρ → RtOk X.K E.as E.H0 F' H r v → D.rt v H
        | .ex c fs ρ => ∀ C ad σ F' H cls d, Le F F' → StOk X.K E np lp C ad F' H σ ρ → ExAt X.K X.mg xn c fs F' H cls d → W cls d σ H) → tWhile (Wt X z) (Wss X body) D σ H := by
    intro D out ho hD
    refine ⟨fun m σi Hi => ∃ (C : Addr → Prop) (ad : Nat → Addr) (ρi : Ro) (Fi : Hp), whL (fun ρ => asT (ev G call c ρ)) (fun ρ => exs G call b ρ) m ρi = out ∧ Le F Fi ∧ StOk X.K E np lp C ad Fi Hi σi ρi, ⟨WH, C, ad, ρ, F, ho, Le.refl, s⟩, ?_⟩
    rintro m σi Hi ⟨C, ad, ρi, Fi, hr, li, si⟩
    cases m with
    | zero => unfold whL at hr; subst hr; exact hD.elim
    | succ m =>
      unfold whL at hr
      have kc := hc W C ad σi ρi Fi Hi tk si.env
      cases hT : asT (ev G call c ρi) with
      | no => rw [hT] at hr; have hr : Fl.no = out := hr; subst hr; exact hD.elim
      | ex k fs ρ' =>
        rw [hT] at hr kc
        have hr : Fl.ex k fs ρ' = out := hr
        subst hr
        exact kc (fun F' H' cls d s e x => hD C ad σi F' H' cls d (li.trans s.le) (si.next s e) x) _
      | ok t ρ1 =>
        rw [hT] at hr kc
        refine kc _ fun v F1 H1 st e1 hv => ?_
        subst hv
        have s1 := si.next st e1
        cases v with
        | false =>
          have hr : Fl.nx ρ1 = out := hr
          subst hr
          rw [if_neg Bool.false_ne_true]
          exact hD C ad σi F1 H1 (li.trans st.le) s1
        | true =>
          rw [if_pos rfl]
          have hr : (match exs G call b ρ1 with | .nx ρ2 => whL (fun ρ => asT (ev G call c ρ)) (fun ρ => exs G call b ρ) m ρ2 | .ct ρ2 => whL (fun ρ => asT (ev G call c ρ)) (fun ρ => exs G call b ρ) m ρ2 | .bk ρ2 => .nx ρ2 | y => y) = out := hr
          refine ⟨fun σn Hn => ∃ (C : Addr → Prop) (ad : Nat → Addr) (ρn : Ro) (Fn : Hp), whL (fun ρ => asT (ev G call c ρ)) (fun ρ => exs G call b ρ) m ρn = out ∧ Le F Fn ∧ StOk X.K E np lp C ad Fn Hn σn ρn, fun σ' H' h => ⟨m, Nat.lt_succ_self m, h⟩, ?_⟩
          have l1 := li.trans st.le
          have kb := hb W C ad σi ρ1 F1 H1 tk s1
          cases hB : exs G call b ρ1 with
          | no => rw [hB] at hr; subst hr; exact hD.elim
          | nx ρ3 =>
            rw [hB] at hr kb
            exact kb _ fun C ad σ F' H le s => ⟨C, ad, ρ3, F', hr, l1.trans le, s⟩
          | ct ρ3 =>
            rw [hB] at hr kb
            exact kb _ fun C ad σ F' H le s => ⟨C, ad, ρ3, F', hr, l1.trans le, s⟩
          | bk ρ3 =>
            rw [hB] at hr kb
            subst hr
            exact kb _ fun C ad σ F' H le s => hD C ad σ F' H (l1.trans le) s
          | rt r ρ3 =>
            rw [hB] at hr kb
            subst hr
            exact kb _ fun C ad v σ F' H le s rr => hD C ad v σ F' H (l1.trans le) s rr
          | ex c fs ρ3 =>
            rw [hB] at hr kb
            subst hr
            exact kb (fun C ad σ F' H cls d le s xa => hD C ad σ F' H cls d (l1.trans le) s xa) _
  cases ho : whL (fun ρ => asT (ev G call c ρ)) (fun ρ => exs G call b ρ) WH ρ with
  | no => trivial
  | nx ρ => exact fun D q => core D _ ho q
  | bk ρ' => exact absurd ho ((whL_nobk WH ρ).1 ρ')
  | ct ρ' => exact absurd ho ((whL_nobk WH ρ).2 ρ')
  | rt r ρ => exact fun D q => core D _ ho q
  | ex c fs ρ => exact fun q D => core D _ ho q
end
end DI
end
section
set_option linter.all false
set_option maxRecDepth 100000
set_option Elab.async false
/-! DI13: the remaining statements; every body. -/
namespace DI
open PySem PySem.Spec PyProof.Rows L2
section
variable {G : Gm} {call : CF} {xn : Str → List Str} {X : Cx} {W : WX} {E : Ent} {np : Nat} {lp : Nat → Option Addr} {C : Addr → Prop} {ad : Nat → Addr} {F H F' H' : Hp} {σ σ' : L2.St} {ρ ρ' : Ro} {m a b c : ME} {e x y z : Expr}
/-- a comprehension, with a reading that serves stores too -/
theorem rd_lc {elt : ME} {t : Tg} {it : MI} {cd : MC} {own : List Nat} (xo : XOk G call xn X) (h : chk X.N (.lc elt t it cd own) X.env.scope e = true) : ∃ te : TE, PE X e te ∧ RdE G call xn X (.lc elt t it cd own) te ∧
    ∀ (i : Nat) (y : Str) (py spos : Pos), X.N[i]? = some y → X.env.scope.names.lookup y = some .local → swapsWith e (some (.Name y py)) spos.line X.env = pure true → PS X (.Assign [.Name y py] e spos) (tAsg te (gName i)) := by
  unfold chk at h
  split at h
  · rename_i x g i f s hx
    obtain ⟨p, rfl⟩ := eLc1_inv hx
    simp only [Bool.and_eq_true, decide_eq_true_eq] at h
    obtain ⟨⟨⟨⟨⟨⟨⟨⟨hb, ho⟩, hin⟩, hpi⟩, htg⟩, hg⟩, hi⟩, hc⟩, he⟩ := h
    have bok := blkOk_by hb
    have hin' : ∀ k, inT t k → k ∈ own := by
      intro k hk
      cases t with
      | nm j => have hk : k = j := hk; subst hk; simpa using hin
      | two j l =>
        rw [Bool.and_eq_true] at hin
        rcases (show k = j ∨ k = l from hk) with hk | hk
        · subst hk; simpa using hin.1
        · subst hk; simpa using hin.2
    have gi := goodI it X i xo hi
    have ge : ∀ (s0 : Shared) (H0 : Hp) (C0 : Addr) (cl : List (Str × Addr)) (fp : List Addr), SE G call xn (X.blk s0 H0 s (compEnvC s cl C0 X.env) fp) elt x := fun s0 H0 C0 cl fp => (good elt (X.blk s0 H0 s (compEnvC s cl C0 X.env) fp) x xo.blk he).1.1
    have gc : ∀ (c : ME) (ce : Expr), cd = .one c → f = [ce] → ∀ (s0 : Shared) (H0 : Hp) (C0 : Addr) (cl : List (Str × Addr)) (fp : List Addr), ST G call xn (X.blk s0 H0 s (compEnvC s cl C0 X.env) fp) c ce := goodC cd X s f xo hc
    have hifs := ifs_of hc
    have pg : ∀ (s0 : Shared) (H0 : Hp) (C0 : Addr) (cl : List (Str × Addr)) (fp : List Addr), PG (X.blk s0 H0 s (compEnvC s cl C0 X.env) fp) g (gT X.K t) := fun s0 H0 C0 cl fp => pg_TB xo.calm xo.nd hg
    have pt : ∀ (s0 : Shared) (H0 : Hp) (C0 : Addr) (cl : List (Str × Addr)) (fp : List Addr), PTs (X.blk s0 H0 s (compEnvC s cl C0 X.env) fp) f (ttC X s cd f) := fun s0 H0 C0 cl fp => by
      cases cd with
      | yes => have hifs : f = [] := hifs; subst hifs; exact pts_nil
      | one c =>
        obtain ⟨ce, rfl⟩ := (show ∃ ce, f = [ce] from hifs)
        exact pts_one ⟨fun pins s1 σ H Q I hw => hw s0 H0 C0 cl fp pins s1 I⟩
    have pe : ∀ (s0 : Shared) (H0 : Hp) (C0 : Addr) (cl : List (Str × Addr)) (fp : List Addr), PE (X.blk s0 H0 s (compEnvC s cl C0 X.env) fp) x (teB X s x) := fun s0 H0 C0 cl fp => ⟨fun pins s1 σ H Q I hw => hw s0 H0 C0 cl fp pins s1 I⟩
    have PX := pe_lc (pos := p) xo.calm xo.nd (pi_wi (X := X) (tg := g) (e := i)) bok pg pt pe (fold_plain hpi)
    rw [ho] at PX
    refine ⟨_, PX, ⟨fun W C ad σ ρ F H tk en => lc_sd (tgE := g) gi (okTg_ofB htg hg) hin' hifs gc ge tk en⟩, fun k y py spos hy hl hsw => ?_⟩
    have QX := ps_setLc (i := k) (py := py) (spos := spos) xo.calm xo.nd hy hl hsw (pi_wi (X := X) (tg := g) (e := i)) bok pg pt pe (fold_plain hpi)
    rw [ho] at QX
    exact QX
  · cases h
/-- whether a store of a comprehension's list is exchanged with its end -/
def swB (sc : Scope) (y : Str) (py : Pos) (e : Expr) : Bool := match e with
  | .ListComp _ _ s p => decide (sc.names.lookup y = some .local) && py.line == p.line && !(s.names.any fun (n, k) => n == y && (k == .local || k == .cell))
  | _ => false
def noSD : Expr → Bool | .SetComp _ _ _ _ => false | .DictComp _ _ _ _ _ => false | _ => true
theorem swB_ok {y : Str} {py : Pos} {l : Nat} (hk : X.env.scope.kind = .function) (hs : noSD e = true) : swapsWith e (some (.Name y py)) l X.env = pure (swB X.env.scope y py e) := by
  cases e with
  | SetComp => cases hs
  | DictComp => cases hs
  | ListComp el gs s p =>
    have hb : X.env.blockKind = .function := by unfold Env.blockKind; rw [hk]; rfl
    unfold swapsWith swB
    simp only [hb, Expr.pos]
    have e1 : (X.env.kindOf y == some .local) = decide (X.env.scope.names.lookup y = some .local) := by
      unfold Env.kindOf
      by_cases z : X.env.scope.names.lookup y = some .local
      · rw [z]; rfl
      · rw [decide_eq_false z]
        exact beq_eq_false_iff_ne.mpr z
    rw [e1]
    rfl
  | _ => rfl
/-- the value of a store -/
def chkV (N : List Str) (m : ME) (sc : Scope) (e : Expr) : Bool := chk N m sc e && (notLC e || (match m with | .lc _ _ _ _ _ => true | _ => false))
theorem set_any {i : Nat} {tg : Expr} {p : Pos} (xo : XOk G call xn X) (hk : X.env.scope.kind = .function) (hf : ∀ x, X.fn x = true) (hn : chkN X.N i X.env.scope true tg = true) (h : chkV X.N m X.env.scope e = true) :
    ∃ te : TE, RdE G call xn X m te ∧ PS X (.Assign [tg] e p) (tAsg te (gName i)) := by
  unfold chkN at hn
  split at hn
  · rename_i y hy
    obtain ⟨py, rfl⟩ := eName_inv hy
    simp only [Bool.and_eq_true, decide_eq_true_eq, Bool.true_or, and_true] at hn
    unfold chkV at h
    rw [Bool.and_eq_true, Bool.or_eq_true] at h
    obtain ⟨h1, h2⟩ := h
    rcases h2 with h2 | h2
    · exact ⟨_, .we (good m X e xo h1).1.1, ps_set xo.nd hn.1 (loc_ok hn.2) pe_we (swaps_no h2) (.inl (hf y))⟩
    · cases m with
      | lc elt t it cd own =>
        obtain ⟨te, p1, p2, p3⟩ := rd_lc xo h1
        have hs : noSD e = true := by
          unfold chk at h1
          split at h1
          · rename_i hx
            obtain ⟨q, rfl⟩ := eLc1_inv hx
            rfl
          · cases h1
        have sw := swB_ok (X := X) (y := y) (py := py) (l := p.line) hk hs
        cases hb : swB X.env.scope y py e with
        | false => rw [hb] at sw; exact ⟨te, p2, ps_set xo.nd hn.1 (loc_ok hn.2) p1 sw (.inl (hf y))⟩
        | true =>
          rw [hb] at sw
          refine ⟨te, p2, p3 i y py p hn.1 ?_ sw⟩
          unfold swB at hb
          split at hb
          · simp only [Bool.and_eq_true, decide_eq_true_eq] at hb; exact hb.1.1
          · cases hb
      | _ => cases h2
  · cases hn
/-! ### a, b = x, y -/
def foldB (a b : Expr) : Bool := [a, b].all (foldedForSure 8) || [a, b].all (constantsAlone 8)
theorem swst {y1 y2 : Str} {p1 p2 pt pt2 : Pos} {kt k2 : Nat} {a b : Expr} (hk : X.env.scope.kind = .function) (h1 : X.env.scope.names.lookup y1 = some .local) (h2 : X.env.scope.names.lookup y2 = some .local) (hl : (p1.line == p2.line) = true) (hne : y1 ≠ y2)
    (ha : plainE a = true) (hb : plainE b = true) (hf : foldB a b = false) :
    swappedStores [.Tuple [.Name y1 p1, .Name y2 p2] kt pt] (.Tuple [a, b] k2 pt2) X.env = pure (some [y1, y2]) := by
  have hbk : X.env.blockKind = .function := by unfold Env.blockKind; rw [hk]; rfl
  have k1 : X.env.kindOf y1 = some .local := h1
  have k2' : X.env.kindOf y2 = some .local := h2
  unfold foldB at hf
  rw [Bool.or_eq_false_iff] at hf
  have hl' : p2.line = p1.line := (beq_iff_eq.mp hl).symm
  have hes : ([y1, y2] : List Str).eraseDups.length = 2 := by
    have : (y2 == y1) = false := beq_eq_false_iff_ne.mpr (Ne.symm hne)
    simp [List.eraseDups_cons, List.filter, this]
  unfold swappedStores
  simp [hbk, k1, k2', Expr.pos, hl', hf.1, hf.2, hes]
  intro h
  exfalso
  rcases h with h | h
  · cases a <;> first | (cases ha; done) | (cases h; done)
  · cases b <;> first | (cases hb; done) | (cases h; done)
def eN2 : Expr → Option (Str × Pos × Str × Pos) | .Tuple [.Name x p, .Name y q] _ _ => some (x, p, y, q) | _ => none
def eT2 : Expr → Option (Expr × Expr) | .Tuple [a, b] _ _ => some (a, b) | _ => none
theorem eN2_inv {e : Expr} {x y : Str} {p q : Pos} (h : eN2 e = some (x, p, y, q)) : ∃ k r, e = .Tuple [.Name x p, .Name y q] k r := by
  unfold eN2 at h
  split at h
  · cases h; exact ⟨_, _, rfl⟩
  · cases h
theorem eT2_inv {e a b : Expr} (h : eT2 e = some (a, b)) : ∃ k r, e = .Tuple [a, b] k r := by
  unfold eT2 at h
  split at h
  · cases h; exact ⟨_, _, rfl⟩
  · cases h
theorem ss_par {i j : Nat} {y1 y2 : Str} {p1 p2 pt pt2 p : Pos} {kt k2 : Nat} (xo : XOk G call xn X) (hk : X.env.scope.kind = .function) (hi : X.N[i]? = some y1) (hj : X.N[j]? = some y2) (hij : i ≠ j) (h1 : X.env.scope.names.lookup y1 = some .local) (h2 : X.env.scope.names.lookup y2 = some .local)
    (hl : (p1.line == p2.line) = true) (ha : plainE x = true) (hb : plainE y = true) (hf : foldB x y = false) (ga : SE G call xn X a x) (gb : SE G call xn X b y) :
    SS G call xn X E np lp (.par i j a b) (.Assign [.Tuple [.Name y1 p1, .Name y2 p2] kt pt] (.Tuple [x, y] k2 pt2) p) := by
  have hne : y1 ≠ y2 := fun z => hij (nodup_ix xo.nd hi (z ▸ hj))
  have PX := ps_par (pos := p) xo.calm xo.nd hi hj hij h1 h2 (pa_cons (pe_we (X := X) (e := x)) (pa_cons (pe_we (X := X) (e := y)) pa_nil (star_plain hb)) (star_plain ha)) (swst (pt := pt) (pt2 := pt2) (kt := kt) (k2 := k2) hk h1 h2 hl hne ha hb hf) (sole_no rfl)
  intro W C ad σ ρ F H tk s
  unfold exe
  refine FOk.imp (T := fun D => We X x σ H fun v H1 => We X y σ H1 fun u H2 => ∃ v' w', [v, u] = [v', w'] ∧ D.nx ((σ.set i (some v')).set j (some w')) H2) ?_ fun D q => Ws.of PX q
  refine FOk.fl (T2 := fun v H1 D => We X y σ H1 fun u H2 => ∃ v' w', [v, u] = [v', w'] ∧ D.nx ((σ.set i (some v')).set j (some w')) H2) s (asD_sd (ga W C ad σ ρ F H tk s.env)) fun d ρ1 v F1 H1 le s1 t r => ?_
  refine FOk.fl (T2 := fun u H2 D => ∃ v' w', [v, u] = [v', w'] ∧ D.nx ((σ.set i (some v')).set j (some w')) H2) s1 (asD_sd (gb W C ad σ ρ1 F1 H1 tk s1.env)) fun d2 ρ2 u F2 H2 le2 s2 t2 r2 => ?_
  rw [if_neg hij]
  cases e1 : setD ρ2 i d with
  | none => trivial
  | some ρ3 =>
    show FOk X xn W E np lp F2 (nxO (setD ρ3 j d2)) _
    cases e2 : setD ρ3 j d2 with
    | none => trivial
    | some ρ4 => exact fun D q => ⟨v, u, rfl, q C ad _ F2 H2 Le.refl ((s2.setD e1 (Rep.le t2.le _ _ r)).setD e2 r2)⟩
/-- .. where a name is a cell: by a pair -/
theorem swst_cell {y1 y2 : Str} {p1 p2 pt pt2 : Pos} {kt k2 : Nat} {a b : Expr} (h : X.env.scope.names.lookup y1 = some .cell ∨ X.env.scope.names.lookup y2 = some .cell) :
    swappedStores [.Tuple [.Name y1 p1, .Name y2 p2] kt pt] (.Tuple [a, b] k2 pt2) X.env = pure none := by
  have k : X.env.kindOf y1 ≠ some .local ∨ X.env.kindOf y2 ≠ some .local := by
    rcases h with h | h
    · left; rw [show X.env.kindOf y1 = some .cell from h]; exact fun z => nomatch z
    · right; rw [show X.env.kindOf y2 = some .cell from h]; exact fun z => nomatch z
  unfold swappedStores
  simp [Expr.pos]
  intro _ _ _ hl
  exfalso
  revert hl
  rcases k with k | k
  · simp only [List.filterMap_cons, List.filterMap_nil, k, false_and, if_false]
    split <;> simp
  · simp only [List.filterMap_cons, List.filterMap_nil, k, false_and, if_false]
    split <;> simp
theorem ss_parC {i j : Nat} {y1 y2 : Str} {p1 p2 pt pt2 p : Pos} {kt k2 : Nat} (xo : XOk G call xn X) (hf : ∀ x, X.fn x = true) (hi : X.N[i]? = some y1) (hj : X.N[j]? = some y2) (hij : i ≠ j) (h1 : loc X.env.scope y1 = true) (h2 : loc X.env.scope y2 = true)
    (hcl : X.env.scope.names.lookup y1 = some .cell ∨ X.env.scope.names.lookup y2 = some .cell) (ha : plainE x = true) (hb : plainE y = true) (ga : SE G call xn X a x) (gb : SE G call xn X b y) :
    SS G call xn X E np lp (.par i j a b) (.Assign [.Tuple [.Name y1 p1, .Name y2 p2] kt pt] (.Tuple [x, y] k2 pt2) p) := by
  have PX := ps_asg (pos := p) (pe_tup (x1 := k2) (pos := pt2) (pa_cons (pe_we (X := X) (e := x)) (pa_cons (pe_we (X := X) (e := y)) pa_nil (star_plain hb)) (star_plain ha)))
    (pg_tup (k := kt) (pos := pt) (n := 2) xo.calm (pgs_cons (pg_name (pos := p1) xo.nd hi (loc_ok h1) (.inl (hf y1))) (pgs_cons (pg_name (pos := p2) xo.nd hj (loc_ok h2) (.inl (hf y2))) pgs_nil (by rfl)) (by rfl)) (by rfl) (by rfl)) (sole_no rfl) (swst_cell hcl) (by rfl)
  intro W C ad σ ρ F H tk s
  unfold exe
  refine FOk.imp (T := fun D => We X x σ H fun v H1 => We X y σ H1 fun u H2 => ([v, u] : List V).length ≤ sizeLine ∧ ∀ q, H2 q = none → gTup X.K 2 (gCons (gName i) (gCons (gName j) gNil)) (V.ref q) σ (upd H2 q (.tup [v, u])) fun σ3 H3 => D.nx σ3 H3) ?_ fun D q => Ws.of PX q
  refine FOk.fl (T2 := fun v H1 D => We X y σ H1 fun u H2 => ([v, u] : List V).length ≤ sizeLine ∧ ∀ q, H2 q = none → gTup X.K 2 (gCons (gName i) (gCons (gName j) gNil)) (V.ref q) σ (upd H2 q (.tup [v, u])) fun σ3 H3 => D.nx σ3 H3) s (asD_sd (ga W C ad σ ρ F H tk s.env)) fun d ρ1 v F1 H1 le s1 t r => ?_
  refine FOk.fl (T2 := fun u H2 D => ([v, u] : List V).length ≤ sizeLine ∧ ∀ q, H2 q = none → gTup X.K 2 (gCons (gName i) (gCons (gName j) gNil)) (V.ref q) σ (upd H2 q (.tup [v, u])) fun σ3 H3 => D.nx σ3 H3) s1 (asD_sd (gb W C ad σ ρ1 F1 H1 tk s1.env)) fun d2 ρ2 u F2 H2 le2 s2 t2 r2 => ?_
  rw [if_neg hij]
  cases e1 : setD ρ2 i d with
  | none => trivial
  | some ρ3 =>
    show FOk X xn W E np lp F2 (nxO (setD ρ3 j d2)) _
    cases e2 : setD ρ3 j d2 with
    | none => trivial
    | some ρ4 =>
      intro D q
      refine ⟨by show 2 ≤ sizeLine; rw [sizeLine_eq]; decide, fun q0 n => ?_⟩
      have s3 := s2.next (s2.env.stpF (o := .tup [v, u]) n) (s2.env.frozen n)
      have l3 : Le F2 (upd F2 q0 (.tup [v, u])) := le_upd0 (s2.env.F_none n)
      exact ⟨q0, [v, u], rfl, SqT.of upd_same, rfl, v, [u], rfl, u, [], rfl, rfl, q C ad _ _ _ l3 ((s3.setD e1 (Rep.le l3 _ _ (Rep.le t2.le _ _ r))).setD e2 (Rep.le l3 _ _ r2))⟩
/-! ### r[a], r[b] = r[c], r[d] -/
def eSw : Expr → Option (Expr × Expr × Expr × Expr) | .Tuple [.Subscript r a _, .Subscript r' b _] _ _ => some (r, a, r', b) | _ => none
theorem eSw_inv {e r a r' b : Expr} (h : eSw e = some (r, a, r', b)) : ∃ p q k s, e = .Tuple [.Subscript r a p, .Subscript r' b q] k s := by
  unfold eSw at h
  split at h
  · cases h; exact ⟨_, _, _, _, rfl⟩
  · cases h
theorem swst_none {r a r' b v : Expr} {p q pt : Pos} {k : Nat} : swappedStores [.Tuple [.Subscript r a p, .Subscript r' b q] k pt] v X.env = pure none := by
  unfold swappedStores
  cases v <;> first | rfl | (simp; done) | (simp <;> (repeat' split) <;> rfl)
theorem var_name {i : Nat} {o : Expr} (hv : chk X.N (.var i) X.env.scope o = true) : plainE o = true := plain_of hv
theorem dat_int {i : Nat} {k : Int} (s : StOk X.K E np lp C ad F H σ ρ) (h : datI ρ i = some k) : σ[i]? = some (some (.int k)) := by
  unfold datI at h
  split at h
  · rename_i hh
    cases h
    obtain ⟨v, h1, h2⟩ := s.env.dat i _ hh
    rw [h1, Rep.int.mp h2]
  · cases h
theorem ss_swp {i a b c d : Nat} {r1 e1 r2 e2 r3 e3 r4 e4 : Expr} {p1 p2 p3 p4 pt pt2 p : Pos} {kt k2 : Nat} (xo : XOk G call xn X)
    (h1 : chk X.N (.var i) X.env.scope r1 = true) (h2 : chk X.N (.var i) X.env.scope r2 = true) (h3 : chk X.N (.var i) X.env.scope r3 = true) (h4 : chk X.N (.var i) X.env.scope r4 = true)
    (ka : chk X.N (.var a) X.env.scope e1 = true) (kb : chk X.N (.var b) X.env.scope e2 = true) (kc : chk X.N (.var c) X.env.scope e3 = true) (kd : chk X.N (.var d) X.env.scope e4 = true) :
    SS G call xn X E np lp (.swp i a b c d) (.Assign [.Tuple [.Subscript r1 e1 p1, .Subscript r2 e2 p2] kt pt] (.Tuple [.Subscript r3 e3 p3, .Subscript r4 e4 p4] k2 pt2) p) := by
  have PG1 := pg_sub (pos := p1) (pe_varC h1) (pe_varC ka) (set_list (X := X)) (sub_assign (var_name ka))
  have PG2 := pg_sub (pos := p2) (pe_varC h2) (pe_varC kb) (set_list (X := X)) (sub_assign (var_name kb))
  have PX := ps_asg (pos := p) (pe_tup (x1 := k2) (pos := pt2) (pa_cons (pe_ix (pos := p3) ix_list (pe_varC h3) (pe_varC kc) (ix_plain (var_name kc))) (pa_cons (pe_ix (pos := p4) ix_list (pe_varC h4) (pe_varC kd) (ix_plain (var_name kd))) pa_nil (star_plain rfl)) (star_plain rfl)))
    (pg_tup (k := kt) (pos := pt) (n := 2) xo.calm (pgs_cons PG1 (pgs_cons PG2 pgs_nil (by rfl)) (by rfl)) (by rfl) (by rfl)) (sole_no rfl) swst_none (by rfl)
  intro W C ad σ ρ F H tk s
  unfold exe
  unfold swpR
  cases hc : cellAt ρ i with
  | none => trivial
  | some l =>
    obtain ⟨c1, c2, us, c3, c4⟩ := s.env.cel i l hc
    cases za : datI ρ a with
    | none => trivial
    | some ia =>
      cases zb : datI ρ b with
      | none => simp [nxO]; trivial
      | some ib =>
        cases zc : datI ρ c with
        | none => simp [nxO]; trivial
        | some ic =>
          cases zd : datI ρ d with
          | none => simp [nxO]; trivial
          | some id =>
            simp only [Option.bind_some]
            cases jc : ixN l.length ic with
            | none => trivial
            | some xc =>
              simp only [Option.bind_some]
              cases jd : ixN l.length id with
              | none => trivial
              | some xd =>
                simp only [Option.bind_some]
                cases gc : l[xc]? with
                | none => simp [nxO]; trivial
                | some dx =>
                  cases gd : l[xd]? with
                  | none => simp [nxO]; trivial
                  | some dy =>
                    obtain ⟨vx, v1, v2⟩ := c4.get gc
                    obtain ⟨vy, w1, w2⟩ := c4.get gd
                    show FOk X xn W E np lp F (nxO ((stoR ρ i ia dx).bind fun ρ => stoR ρ i ib dy)) _
                    unfold stoR
                    rw [hc]
                    simp only [Option.bind_some]
                    cases ja : ixN l.length ia with
                    | none => trivial
                    | some xa =>
                      simp only [Option.map_some, Option.bind_some]
                      have hc2 : cellAt (setCell ρ i (l.set xa dx)) i = some (l.set xa dx) := by rw [setCell_get]; simp [hc]
                      rw [hc2]
                      simp only [Option.bind_some, List.length_set]
                      cases jb : ixN l.length ib with
                      | none => trivial
                      | some xb =>
                        intro D q
                        have at1 : atI us ic = some vx := by unfold atI; rw [c4.len, jc]; exact v1
                        have at2 : atI us id = some vy := by unfold atI; rw [c4.len, jd]; exact w1
                        refine Ws.of PX ⟨_, c1, .int ic, dat_int s zc, ad i, us, ic, vx, rfl, rfl, SqL.of c3, at1, _, c1, .int id, dat_int s zd, ad i, us, id, vy, rfl, rfl, SqL.of c3, at2, by show 2 ≤ sizeLine; rw [sizeLine_eq]; decide, fun p n => ?_⟩
                        have s1 := s.next (s.env.stpN (o := .tup [vx, vy]) n) (s.env.fresh n)
                        have s2 := s1.put hc (c4.set xa v2)
                        have s3 := s2.put hc2 ((c4.set xa v2).set xb w2)
                        have np : ad i ≠ p := fun z => by rw [z, n] at c3; cases c3
                        refine ⟨p, [vx, vy], rfl, SqT.of upd_same, rfl, vx, [vy], rfl, _, c1, .int ia, dat_int s za, ad i, us, ia, xa, rfl, rfl, by rw [upd_ne np]; exact c3, by rw [c4.len]; exact ja, vy, [], rfl, _, c1, .int ib, dat_int s zb, ad i, us.set xa vx, ib, xb, rfl, rfl, upd_same, by rw [List.length_set, c4.len]; exact jb, rfl, ?_⟩
                        exact q C ad σ F _ Le.refl s3
/-! ### exceptions -/
/-- what is known of an exception class of the program that is raised and caught -/
structure ExcOk (X : Cx) (xn : Str → List Str) (c : Str) (n : Nat) (C : Addr) : Prop where
  mg : X.mg c = some (.ref C)
  len : (xn c).length = n
  xf : XfC X.K C
  exm : PySem.W.exmOne X.K (.ref C) (.ref C) = some true
  nf : ∀ f ∈ xn c, PySem.W.findIn X.K (.ref C) f = some none
  rz : ∀ (W : WX) (e0 : Expr) (es : List Expr) (ta : TA) (p q r : Pos), Takes X W → PA X (e0 :: es) ta → glb X.env.scope c = true → (e0 :: es).all plainE = true →
    PS X (.Raise (some (.Call (.Name c p) (e0 :: es) [] q)) none r) (fun _ σ H => ta σ H fun vs H1 => vs.length = n ∧ ∀ dd, H1 dd = none → W (.ref C) (some dd) σ (upd H1 dd (.xd ((xn c).zip vs))))
structure SOk (G : Gm) (call : CF) (xn : Str → List Str) (X : Cx) : Prop where
  xo : XOk G call xn X
  kind : X.env.scope.kind = .function
  fn : ∀ x, X.fn x = true
  po : PassesOwn (model X.prog X.w) X.A X.env X.xe
  stk : X.stack = X.env :: X.outer
  frm : X.env.frame = some X.env.locals
  exc : ∀ c n, G.xc c = some n → ∃ C, ExcOk X xn c n C
theorem ss_raise {c : Str} {n : Nat} {Ca : Addr} {ms : MEs} {es : List Expr} {p q r : Pos} (hx : G.xc c = some n) (ok : ExcOk X xn c n Ca) (hg : glb X.env.scope c = true) (hp : (x :: es).all plainE = true) (h : SL G call xn X ms (x :: es)) :
    SS G call xn X E np lp (.raise c ms) (.Raise (some (.Call (.Name c p) (x :: es) [] q)) none r) := by
  intro W C ad σ ρ F H tk s
  unfold exe
  rw [hx]
  refine FOk.imp (T := fun D => Wa X (x :: es) σ H fun vs H1 => vs.length = n ∧ ∀ dd, H1 dd = none → W (.ref Ca) (some dd) σ (upd H1 dd (.xd ((xn c).zip vs)))) ?_ fun D q => Ws.of (ok.rz W x es _ _ _ _ tk pa_wa hg hp) q
  refine FOk.fl (T2 := fun vs H1 D => vs.length = n ∧ ∀ dd, H1 dd = none → W (.ref Ca) (some dd) σ (upd H1 dd (.xd ((xn c).zip vs)))) s (h W C ad σ ρ F H tk s.env) fun ds ρ1 vs F1 H1 le s1 t rr => ?_
  by_cases hl : ds.length = n
  · rw [if_pos hl]
    intro q D
    refine ⟨rr.1.len.trans hl, fun dd nd => ?_⟩
    exact q C ad σ F1 _ _ _ Le.refl (s1.next (s1.env.stpN nd) (s1.env.fresh nd)) ⟨Ca, ok.mg, rfl, .inr ⟨dd, vs, rfl, upd_same, rr.1, by rw [ok.len]; exact hl⟩⟩
  · rw [if_neg hl]; trivial
theorem XOk.tr {pn : List (Addr × Obj)} {xe : Value → Shared → Prop} (xo : XOk G call xn X) : XOk G call xn (X.tr pn xe) :=
  ⟨xo.calm, xo.gd, xo.nd, xo.un, xo.blt, xo.tyn, xo.isi, xo.rng, xo.zip, xo.con, xo.fns, xo.dic⟩
theorem ss_try {c n w1 w2 : Str} {Ca : Addr} {i k : Nat} {p1 p2 p3 p4 p5 p6 p7 p8 p9 p10 : Pos} (so : SOk G call xn X) (ok : ExcOk X xn c 2 Ca) (hx : xn c = [w1, w2]) (hw : w1 ≠ w2) (hg : glb X.env.scope c = true) (hi : X.N[i]? = some n) (hln : X.env.scope.names.lookup n = some .local)
    (hv : vis X.env.scope n = true) (hd1 : (n == ("__debug__" : Str)) = false) (hd2 : (n == ("__classdict__" : Str)) = false)
    (h : ∀ pn xe, SE G call xn (X.tr pn xe) m e) :
    SS G call xn X E np lp (.tryR m c i) (.Try [.Return (some e) p1] [.ExceptHandler (some (.Name c p2)) (some n) [.Return (some (.Tuple [.Attribute (.Name n p3) w1 p4, .Attribute (.Name n p5) w2 p6] k p7)) p8] p9] [] [] p10) := by
  intro W C ad σ ρ F H tk s
  obtain ⟨g1, g2, g3⟩ := glb_ok hg
  let body : List Stmt := [.Return (some e) p1]
  let tb : WX → TS := fun W D σ H => ∀ pn xe, Takes (X.tr pn xe) W → Wss (X.tr pn xe) body D σ H
  have f1 := ok.nf w1 (by rw [hx]; simp)
  have f2 := ok.nf w2 (by rw [hx]; simp)
  have su : ∀ (a : Addr) (oe : Obj) (cls : Value) (d : Option Addr) (pn : List (Addr × Obj)), Zc cls d oe → (∃ vs, oe.data = .fields vs) →
      PSs (X.suite a ((a, oe) :: pn)) [.Return (some (.Tuple [.Attribute (.Name n p3) w1 p4, .Attribute (.Name n p5) w2 p6] k p7)) p8] (tRet (tTup (tCons (tXf a cls d Ca w1 (tVar i)) (tCons (tXf a cls d Ca w2 (tVar i)) tNil)))) := fun a oe cls d pn hz hf =>
    pss_one (ps_ret (pe_tup (pa_cons (pe_xf ok.xf f1 hz hf (pe_var (X := X.suite a ((a, oe) :: pn)) hi (vis_ok hv) hd1 hd2)) (pa_cons (pe_xf ok.xf f2 hz hf (pe_var (X := X.suite a ((a, oe) :: pn)) hi (vis_ok hv) hd1 hd2)) pa_nil (star_plain rfl)) (star_plain rfl))))
  have PX := ps_try_as (pos := p10) (pos' := p9) (np := p2) (body := body) (tb := tb) so.stk so.frm so.xo.nd hi hln (show Names X c (.ref Ca) from ⟨g1, g2, .inl ok.mg⟩) tk (fun W pn xe tk' _ => ⟨fun pins s σ H D I hw => hw pn xe tk' pins s I⟩) su
  unfold exe
  have key : ∀ pn xe (W' : WX), Takes (X.tr pn xe) W' → Sd (X.tr pn xe) xn W' C ad σ F H (asD (ev G call m ρ)) (fun d _ F' _ _ (v : V) => Rep X.K F' d v) (fun Q => We (X.tr pn xe) e σ H Q) := fun pn xe W' tk' => asD_sd (h pn xe W' C ad σ ρ F H tk' s.env)
  by_cases hlt0 : i < ρ.length
  case neg => rw [if_neg hlt0]; trivial
  rw [if_pos hlt0]
  have hlt : i < σ.length := by rw [← s.env.len]; exact hlt0
  cases hA : asD (ev G call m ρ) with
  | no => trivial
  | ok d ρ1 =>
    intro D q
    refine Ws.of PX fun pn xe tk' => Wss.of (pss_one (ps_ret pe_we)) ?_
    have kk := key pn xe _ tk'
    rw [hA] at kk
    exact kk _ fun v F1 H1 s1 e1 r => q C ad v σ F1 H1 s1.le (s.next s1 e1) r
  | ex c' fs ρ1 =>
    show FOk X xn W E np lp F (if c = c' ∧ fs.length = 2 then .rt (.dat (.tup fs)) ρ1 else .no) _
    by_cases hc : c = c' ∧ fs.length = 2
    · rw [if_pos hc]
      obtain ⟨rfl, hl⟩ := hc
      intro D q
      refine Ws.of PX fun pn xe tk' => Wss.of (pss_one (ps_ret pe_we)) ?_
      have kk := key pn xe _ tk'
      rw [hA] at kk
      refine kk (fun F1 H1 cls d s1 e1 xa => ?_) _
      obtain ⟨C', hm, rfl, hr⟩ := xa
      have : C' = Ca := by
        have := ok.mg
        rw [show X.mg c = some (.ref C') from hm] at this
        injection this with this
        injection this
      subst this
      refine ⟨true, ok.exm, fun _ a ha => ?_, fun z => nomatch z⟩
      rcases hr with hr | ⟨dd, vs, rfl, hd, rp, _⟩
      · subst hr; cases hl
      · match fs, hl, rp with
        | [fa, fb], _, rp =>
          have hvs := rp.len
          match vs, hvs, hd, rp with
          | [va, vb], _, hd, rp =>
            rw [hx] at hd
            have lk2 : ([(w1, va), (w2, vb)] : List (Str × V)).lookup w2 = some vb := by
              have : (w2 == w1) = false := beq_eq_false_iff_ne.mpr (Ne.symm hw)
              simp [List.lookup, this]
            refine ⟨_, List.getElem?_set_self hlt, rfl, rfl, dd, _, va, rfl, hd, by simp [List.lookup], _, List.getElem?_set_self hlt, rfl, rfl, dd, _, vb, rfl, hd, lk2, by show 2 ≤ sizeLine; rw [sizeLine_eq]; decide, fun p np => ?_⟩
            have s2 := s.next s1 e1
            refine q C ad (.ref p) σ (upd F1 p (.tup [va, vb])) (upd H1 p (.tup [va, vb])) (Le.trans s1.le (le_upd0 (e1.F_none np))) (s2.next (e1.stpF np) (e1.frozen np)) ?_
            exact Rep.tup.mpr ⟨p, [va, vb], rfl, SqT.of upd_same, Reps.le (le_upd0 (e1.F_none np)) _ _ rp⟩
    · rw [if_neg hc]; trivial
end
end DI
end
section
set_option linter.all false
set_option maxRecDepth 100000
set_option Elab.async false
/-! DI14: every body; a def of the text keeps what its body computes. -/
namespace DI
open PySem PySem.Spec PyProof.Rows L2
def sAsg : Stmt → Option (Expr × Expr) | .Assign [t] v _ => some (t, v) | _ => none
def sRet : Stmt → Option Expr | .Return (some e) _ => some e | _ => none
def sIf : Stmt → Option (Expr × List Stmt × List Stmt) | .If c a b _ => some (c, a, b) | _ => none
def sFor : Stmt → Option (Expr × Expr × List Stmt) | .For t i b [] _ => some (t, i, b) | _ => none
def sAug : Stmt → Option (Expr × Expr) | .AugAssign (.Name x q) .Add e _ => some (.Name x q, e) | _ => none
theorem sAug_inv {s : Stmt} {t e : Expr} (h : sAug s = some (t, e)) : ∃ x q p, t = .Name x q ∧ s = .AugAssign (.Name x q) .Add e p := by
  unfold sAug at h
  split at h
  · cases h; exact ⟨_, _, _, rfl, rfl⟩
  · cases h
def sAugO (o : Op) : Stmt → Option (Expr × Expr) | .AugAssign (.Name x q) op e _ => if op = opOf o then some (.Name x q, e) else none | _ => none
theorem sAugO_inv {o : Op} {s : Stmt} {t e : Expr} (h : sAugO o s = some (t, e)) : ∃ x q p, t = .Name x q ∧ s = .AugAssign (.Name x q) (opOf o) e p := by
  unfold sAugO at h
  split at h
  · split at h
    · rename_i hc
      cases h
      exact ⟨_, _, _, rfl, by rw [hc]⟩
    · cases h
  · cases h
def sAugS (o : Op) : Stmt → Option (Expr × Expr × Expr) | .AugAssign (.Subscript x k _) op e _ => if op = opOf o then some (x, k, e) else none | _ => none
theorem sAugS_inv {o : Op} {s : Stmt} {x k e : Expr} (h : sAugS o s = some (x, k, e)) : ∃ q p, s = .AugAssign (.Subscript x k q) (opOf o) e p := by
  unfold sAugS at h
  split at h
  · split at h
    · rename_i hc
      cases h
      exact ⟨_, _, by rw [hc]⟩
    · cases h
  · cases h
def augOk : Op → Bool | .add => true | .sub => true | _ => false
theorem aug_sub : ∀ m d z, sauO .sub m d = some z → ∃ k, d = .int k ∧ z = (fun i j => i - j) m k := by
  intro m d z h
  cases d <;> first | (cases h; done) | (cases h; exact ⟨_, rfl, rfl⟩)
theorem aug_add : ∀ m d z, sauO .add m d = some z → ∃ k, d = .int k ∧ z = (fun i j => i + j) m k := by
  intro m d z h
  cases d <;> first | (cases h; done) | (cases h; exact ⟨_, rfl, rfl⟩)
def sWhl : Stmt → Option (Expr × List Stmt) | .While z b [] _ => some (z, b) | _ => none
theorem sWhl_inv {s : Stmt} {z : Expr} {b : List Stmt} (h : sWhl s = some (z, b)) : ∃ p, s = .While z b [] p := by
  unfold sWhl at h
  split at h
  · cases h; exact ⟨_, rfl⟩
  · cases h
def sExpr : Stmt → Option Expr | .Expr e _ => some e | _ => none
def sRaise : Stmt → Option (Str × List Expr) | .Raise (some (.Call (.Name c _) es [] _)) none _ => some (c, es) | _ => none
def sTry : Stmt → Option (Expr × Str × Str × Str × Str × Str × Str)
  | .Try [.Return (some e) _] [.ExceptHandler (some (.Name c _)) (some n) [.Return (some (.Tuple [.Attribute (.Name n1 _) w1 _, .Attribute (.Name n2 _) w2 _] _ _)) _] _] [] [] _ => some (e, c, n, n1, w1, n2, w2)
  | _ => none
def eApp : Expr → Option (Expr × Expr) | .Call (.Attribute o m ap) [x] [] cp => if (decide (m = "append") && ap.endLine == cp.line) = true then some (o, x) else none | _ => none
theorem sAsg_inv {s : Stmt} {t v : Expr} (h : sAsg s = some (t, v)) : ∃ p, s = .Assign [t] v p := by
  unfold sAsg at h
  split at h
  · cases h; exact ⟨_, rfl⟩
  · cases h
theorem sRet_inv {s : Stmt} {e : Expr} (h : sRet s = some e) : ∃ p, s = .Return (some e) p := by
  unfold sRet at h
  split at h
  · cases h; exact ⟨_, rfl⟩
  · cases h
theorem sIf_inv {s : Stmt} {c : Expr} {a b : List Stmt} (h : sIf s = some (c, a, b)) : ∃ p, s = .If c a b p := by
  unfold sIf at h
  split at h
  · cases h; exact ⟨_, rfl⟩
  · cases h
theorem sFor_inv {s : Stmt} {t i : Expr} {b : List Stmt} (h : sFor s = some (t, i, b)) : ∃ p, s = .For t i b [] p := by
  unfold sFor at h
  split at h
  · cases h; exact ⟨_, rfl⟩
  · cases h
theorem sExpr_inv {s : Stmt} {e : Expr} (h : sExpr s = some e) : ∃ p, s = .Expr e p := by
  unfold sExpr at h
  split at h
  · cases h; exact ⟨_, rfl⟩
  · cases h
theorem sRaise_inv {s : Stmt} {c : Str} {es : List Expr} (h : sRaise s = some (c, es)) : ∃ p q r, s = .Raise (some (.Call (.Name c p) es [] q)) none r := by
  unfold sRaise at h
  split at h
  · cases h; exact ⟨_, _, _, rfl⟩
  · cases h
theorem sTry_inv {s : Stmt} {e : Expr} {c n n1 w1 n2 w2 : Str} (h : sTry s = some (e, c, n, n1, w1, n2, w2)) : ∃ p1 p2 p3 p4 p5 p6 k p7 p8 p9 p10,
    s = .Try [.Return (some e) p1] [.ExceptHandler (some (.Name c p2)) (some n) [.Return (some (.Tuple [.Attribute (.Name n1 p3) w1 p4, .Attribute (.Name n2 p5) w2 p6] k p7)) p8] p9] [] [] p10 := by
  unfold sTry at h
  split at h
  · cases h; exact ⟨_, _, _, _, _, _, _, _, _, _, _, rfl⟩
  · cases h
theorem eApp_inv {e o x : Expr} (h : eApp e = some (o, x)) : ∃ ap cp, e = .Call (.Attribute o "append" ap) [x] [] cp ∧ (ap.endLine == cp.line) = true := by
  unfold eApp at h
  split at h
  · split at h
    · rename_i hc
      rw [Bool.and_eq_true, decide_eq_true_eq] at hc
      cases h
      obtain ⟨rfl, h2⟩ := hc
      exact ⟨_, _, rfl, h2⟩
    · cases h
  · cases h
section
variable (G : Gm) (xn : Str → List Str) (N : List Str) (np : Nat)
mutual
def chkS : MS → Scope → Stmt → Bool
  | .set i m, sc, s => match sAsg s with | some (t, v) => chkN N i sc true t && chkV N m sc v | none => false
  | .own i m, sc, s => match sAsg s with | some (t, v) => decide (np ≤ i) && chkN N i sc true t && chkV N m sc v | none => false
  | .mv i j, sc, s => match sAsg s with | some (t, v) => decide (np ≤ j) && notLC v && chkN N i sc true t && chk N (.var j) sc v | none => false
  | .par i j a b, sc, s => match sAsg s with
    | some (t, v) => (match eN2 t, eT2 v with
      | some (y1, p1, y2, p2), some (x, y) => decide (N[i]? = some y1) && decide (N[j]? = some y2) && !decide (i = j) && ((decide (sc.names.lookup y1 = some .local) && decide (sc.names.lookup y2 = some .local) &&
          (p1.line == p2.line) && !foldB x y) || (loc sc y1 && loc sc y2 && (decide (sc.names.lookup y1 = some .cell) || decide (sc.names.lookup y2 = some .cell)))) && plainE x && plainE y && chk N a sc x && chk N b sc y
      | _, _ => false)
    | none => false
  | .sto i k m, sc, s => match sAsg s with
    | some (t, v) => (match eSub t with | some (o, ke) => chk N (.var i) sc o && plainE ke && notLC v && chk N m sc v && chk N k sc ke | none => false)
    | none => false
  | .swp i a b c d, sc, s => match sAsg s with
    | some (t, v) => (match eSw t, eSw v with
      | some (r1, e1, r2, e2), some (r3, e3, r4, e4) => chk N (.var i) sc r1 && chk N (.var i) sc r2 && chk N (.var i) sc r3 && chk N (.var i) sc r4 && chk N (.var a) sc e1 && chk N (.var b) sc e2 && chk N (.var c) sc e3 && chk N (.var d) sc e4
      | _, _ => false)
    | none => false
  | .app i m, sc, s => match sExpr s with | some v => (match eApp v with | some (o, x) => chk N (.var i) sc o && plainE x && chk N m sc x | none => false) | none => false
  | .ext i m, sc, s => match sExpr s with | some v => (match eMeth "extend" v with | some (o, x) => chk N (.var i) sc o && plainE x && chk N m sc x | none => false) | none => false
  | .aui i o e, sc, s => match sAugO o s with | some (t, v) => augOk o && chkN N i sc true t && chk N e sc v | none => false
  | .sau i o k e, sc, s => match sAugS o s with | some (x, y, v) => augOk o && chk N (.var i) sc x && plainE y && chk N k sc y && chk N e sc v | none => false
  | .aug i e, sc, s => match sAug s with | some (t, v) => chkN N i sc true t && chk N e sc v | none => false
  | .unp i j e, sc, s => match sAsg s with | some (tg, v) => unpV v && chkG N (.two i j) sc true tg && chk N e sc v | none => false
  | .whl c b, sc, s => match sWhl s with | some (z, bd) => tOk c && chk N c sc z && chkSs b sc bd | none => false
  | .ret m, sc, s => match sRet s with | some e => chk N m sc e | none => false
  | .retv i, sc, s => match sRet s with | some e => decide (np ≤ i) && chk N (.var i) sc e | none => false
  | .ifs c a b, sc, s => match sIf s with | some (z, t1, t2) => tOk c && chk N c sc z && chkSs a sc t1 && chkSs b sc t2 | none => false
  | .for_ t it b, sc, s => match sFor s with | some (tg, ie, bd) => plainE ie && tgI t it && chkI N it sc ie && chkG N t sc true tg && chkSs b sc bd | none => false
  | .expr m, sc, s => match sExpr s with | some e => notLC e && chk N m sc e | none => false
  | .doc, _, s => match sExpr s with | some e => (match eConst e with | some (.str _) => true | _ => false) | none => false
  | .raise c ms, sc, s => (G.xc c).isNone || match sRaise s with | some (g, x :: r) => decide (g = c) && glb sc c && (x :: r).all plainE && chks N ms sc (x :: r) && (G.xc c).isSome | _ => false
  | .tryR m c i, sc, s => match sTry s with
    | some (e, c', n, n1, w1, n2, w2) => decide (c' = c) && decide (n1 = n) && decide (n2 = n) && decide (xn c = [w1, w2]) && !decide (w1 = w2) && glb sc c && decide (N[i]? = some n) && decide (sc.names.lookup n = some .local) && vis sc n && !(n == ("__debug__" : Str)) && !(n == ("__classdict__" : Str)) &&
        chk N m sc e && decide (G.xc c = some 2)
    | none => false
def chkSs : MSs → Scope → List Stmt → Bool
  | .nil, _, l => match l with | [] => true | _ => false
  | .cons m r, sc, l => match l with | s :: ss => chkS m sc s && chkSs r sc ss | [] => false
end
end
section
variable {G : Gm} {call : CF} {xn : Str → List Str} {E : Ent} {np : Nat} {lp : Nat → Option Addr}
mutual
theorem goodS : ∀ (m : MS) (X : Cx) (s : Stmt), SOk G call xn X → chkS G xn X.N np m X.env.scope s = true → SS G call xn X E np lp m s
  | .set i m, X, s, so, h => by
    unfold chkS at h
    split at h
    · rename_i t v hx
      obtain ⟨p, rfl⟩ := sAsg_inv hx
      rw [Bool.and_eq_true] at h
      obtain ⟨te, h1, h2⟩ := set_any (p := p) so.xo so.kind so.fn h.1 h.2
      exact ss_set h1 h2
    · cases h
  | .own i m, X, s, so, h => by
    unfold chkS at h
    split at h
    · rename_i t v hx
      obtain ⟨p, rfl⟩ := sAsg_inv hx
      simp only [Bool.and_eq_true, decide_eq_true_eq] at h
      obtain ⟨te, h1, h2⟩ := set_any (p := p) so.xo so.kind so.fn h.1.2 h.2
      exact ss_own h.1.1 h1 h2
    · cases h
  | .mv i j, X, s, so, h => by
    unfold chkS at h
    split at h
    · rename_i t v hx
      obtain ⟨p, rfl⟩ := sAsg_inv hx
      simp only [Bool.and_eq_true, decide_eq_true_eq] at h
      obtain ⟨⟨⟨h1, h2⟩, h3⟩, h4⟩ := h
      unfold chkN at h3
      split at h3
      · rename_i y hy
        obtain ⟨py, rfl⟩ := eName_inv hy
        simp only [Bool.and_eq_true, decide_eq_true_eq, Bool.true_or, and_true] at h3
        exact ss_mv h1 (ps_set so.xo.nd h3.1 (loc_ok h3.2) (pe_varC h4) (swaps_no h2) (.inl (so.fn y)))
      · cases h3
    · cases h
  | .par i j a b, X, s, so, h => by
    unfold chkS at h
    split at h
    · rename_i t v hx
      obtain ⟨p, rfl⟩ := sAsg_inv hx
      split at h
      · rename_i y1 p1 y2 p2 x y ht hv
        obtain ⟨kt, pt, rfl⟩ := eN2_inv ht
        obtain ⟨k2, pt2, rfl⟩ := eT2_inv hv
        simp only [Bool.and_eq_true, Bool.or_eq_true, decide_eq_true_eq, Bool.not_eq_true', decide_eq_false_iff_not] at h
        obtain ⟨⟨⟨⟨⟨⟨⟨h1, h2⟩, h3⟩, h4⟩, h7⟩, h8⟩, h10⟩, h11⟩ := h
        rcases h4 with ⟨⟨⟨h4, h5⟩, h6⟩, h9⟩ | ⟨⟨h4, h5⟩, h6⟩
        · exact ss_par so.xo so.kind h1 h2 h3 h4 h5 h6 h7 h8 h9 (good a X x so.xo h10).1.1 (good b X y so.xo h11).1.1
        · exact ss_parC so.xo so.fn h1 h2 h3 h4 h5 h6 h7 h8 (good a X x so.xo h10).1.1 (good b X y so.xo h11).1.1
      · cases h
    · cases h
  | .sto i k m, X, s, so, h => by
    unfold chkS at h
    split at h
    · rename_i t v hx
      obtain ⟨p, rfl⟩ := sAsg_inv hx
      split at h
      · rename_i o ke ht
        obtain ⟨p1, rfl⟩ := eSub_inv ht
        simp only [Bool.and_eq_true] at h
        obtain ⟨⟨⟨⟨h1, h2⟩, h3⟩, h4⟩, h5⟩ := h
        exact ss_sto h1 h2 h3 (good m X v so.xo h4).1.1 (good k X ke so.xo h5).1.1
      · cases h
    · cases h
  | .swp i a b c d, X, s, so, h => by
    unfold chkS at h
    split at h
    · rename_i t v hx
      obtain ⟨p, rfl⟩ := sAsg_inv hx
      split at h
      · rename_i r1 e1 r2 e2 r3 e3 r4 e4 ht hv
        obtain ⟨p1, p2, kt, pt, rfl⟩ := eSw_inv ht
        obtain ⟨p3, p4, k2, pt2, rfl⟩ := eSw_inv hv
        simp only [Bool.and_eq_true] at h
        obtain ⟨⟨⟨⟨⟨⟨⟨h1, h2⟩, h3⟩, h4⟩, h5⟩, h6⟩, h7⟩, h8⟩ := h
        exact ss_swp so.xo h1 h2 h3 h4 h5 h6 h7 h8
      · cases h
    · cases h
  | .app i m, X, s, so, h => by
    unfold chkS at h
    split at h
    · rename_i v hx
      obtain ⟨p, rfl⟩ := sExpr_inv hx
      split at h
      · rename_i o x hv
        obtain ⟨ap, cp, rfl, hl⟩ := eApp_inv hv
        simp only [Bool.and_eq_true] at h
        exact ss_app h.1.1 h.1.2 (good m X x so.xo h.2).1.1 hl
      · cases h
    · cases h
  | .aug i e, X, s, so, h => by
    unfold chkS at h
    split at h
    · rename_i t v hx
      obtain ⟨x, q, p, rfl, rfl⟩ := sAug_inv hx
      rw [Bool.and_eq_true] at h
      obtain ⟨h1, h2⟩ := h
      unfold chkN at h1
      dsimp only [eName] at h1
      simp only [Bool.and_eq_true, decide_eq_true_eq, Bool.or_eq_true, Bool.true_or, and_true] at h1
      exact ss_aug (ps_aug so.xo.nd h1.1 (loc_ok h1.2) pe_we ip_catA (.inl (so.fn x))) (good e X v so.xo h2).1.1
    · cases h
  | .ext i m, X, s, so, h => by
    unfold chkS at h
    split at h
    · rename_i v hx
      obtain ⟨p, rfl⟩ := sExpr_inv hx
      split at h
      · rename_i o x hv
        obtain ⟨ap, cp, rfl, hl⟩ := eMeth_inv hv
        simp only [Bool.and_eq_true] at h
        exact ss_ext h.1.1 h.1.2 (good m X x so.xo h.2).1.1 hl
      · cases h
    · cases h
  | .aui i o e, X, s, so, h => by
    unfold chkS at h
    split at h
    · rename_i t v hx
      obtain ⟨x, q, p, rfl, rfl⟩ := sAugO_inv hx
      simp only [Bool.and_eq_true] at h
      obtain ⟨⟨h0, h1⟩, h2⟩ := h
      unfold chkN at h1
      dsimp only [eName] at h1
      simp only [Bool.and_eq_true, decide_eq_true_eq, Bool.or_eq_true, Bool.true_or, and_true] at h1
      cases o with
      | add => exact ss_aui aug_add (ps_aug so.xo.nd h1.1 (loc_ok h1.2) pe_we ip_add (.inl (so.fn x))) (good e X v so.xo h2).1.1
      | sub => exact ss_aui aug_sub (ps_aug so.xo.nd h1.1 (loc_ok h1.2) pe_we ip_sub (.inl (so.fn x))) (good e X v so.xo h2).1.1
      | _ => cases h0
    · cases h
  | .sau i o k e, X, s, so, h => by
    unfold chkS at h
    split at h
    · rename_i x y v hx
      obtain ⟨q, p, rfl⟩ := sAugS_inv hx
      simp only [Bool.and_eq_true] at h
      obtain ⟨⟨⟨⟨h0, h1⟩, h2⟩, h3⟩, h4⟩ := h
      cases o with
      | add => exact ss_sau aug_add ip_add h1 h2 (good e X v so.xo h4).1.1 (good k X y so.xo h3).1.1
      | sub => exact ss_sau aug_sub ip_sub h1 h2 (good e X v so.xo h4).1.1 (good k X y so.xo h3).1.1
      | _ => cases h0
    · cases h
  | .unp i j e, X, s, so, h => by
    unfold chkS at h
    split at h
    · rename_i tg v hx
      obtain ⟨p, rfl⟩ := sAsg_inv hx
      simp only [Bool.and_eq_true] at h
      obtain ⟨⟨h1, h2⟩, h3⟩ := h
      exact ss_unp h1 (pg_T so.xo.calm so.xo.nd (fun _ => so.fn) h2) (tup_of h2) (good e X _ so.xo h3).1.1
    · cases h
  | .whl c b, X, s, so, h => by
    unfold chkS at h
    split at h
    · rename_i z bd hx
      obtain ⟨p, rfl⟩ := sWhl_inv hx
      simp only [Bool.and_eq_true] at h
      obtain ⟨⟨h1, h2⟩, h3⟩ := h
      exact ss_whl so.po ((good c X z so.xo h2).1.2 h1) (goodSs b X bd so h3)
    · cases h
  | .ret m, X, s, so, h => by
    unfold chkS at h
    split at h
    · rename_i e hx
      obtain ⟨p, rfl⟩ := sRet_inv hx
      exact ss_ret (good m X e so.xo h).1.1
    · cases h
  | .retv i, X, s, so, h => by
    unfold chkS at h
    split at h
    · rename_i e hx
      obtain ⟨p, rfl⟩ := sRet_inv hx
      rw [Bool.and_eq_true, decide_eq_true_eq] at h
      exact ss_retv h.1 h.2
    · cases h
  | .ifs c a b, X, s, so, h => by
    unfold chkS at h
    split at h
    · rename_i z t1 t2 hx
      obtain ⟨p, rfl⟩ := sIf_inv hx
      simp only [Bool.and_eq_true] at h
      obtain ⟨⟨⟨h1, h2⟩, h3⟩, h4⟩ := h
      exact ss_ifs ((good c X z so.xo h2).1.2 h1) (goodSs a X t1 so h3) (goodSs b X t2 so h4)
    · cases h
  | .for_ t it b, X, s, so, h => by
    unfold chkS at h
    split at h
    · rename_i tg ie bd hx
      obtain ⟨p, rfl⟩ := sFor_inv hx
      simp only [Bool.and_eq_true] at h
      obtain ⟨⟨⟨⟨h1, h0⟩, h2⟩, h3⟩, h4⟩ := h
      exact ss_for so.xo.calm so.po h1 (goodI it X ie so.xo h2) (okTg_of h0 h3) (pg_T so.xo.calm so.xo.nd (fun _ => so.fn) h3) (goodSs b X bd so h4)
    · cases h
  | .expr m, X, s, so, h => by
    unfold chkS at h
    split at h
    · rename_i e hx
      obtain ⟨p, rfl⟩ := sExpr_inv hx
      rw [Bool.and_eq_true] at h
      exact ss_expr h.1 (good m X e so.xo h.2).1.1
    · cases h
  | .doc, X, s, so, h => by
    unfold chkS at h
    split at h
    · rename_i e hx
      obtain ⟨p, rfl⟩ := sExpr_inv hx
      split at h
      · rename_i x hc
        obtain ⟨j, p', rfl⟩ := eConst_inv hc
        exact ss_doc
      · cases h
    · cases h
  | .raise c ms, X, s, so, h => by
    by_cases hn : G.xc c = none
    · intro W C ad σ ρ F H tk st
      unfold exe
      rw [hn]
      trivial
    unfold chkS at h
    have h0 : (G.xc c).isNone = false := by cases q : G.xc c <;> simp_all
    rw [h0, Bool.false_or] at h
    split at h
    · rename_i g x r hx
      obtain ⟨p, q, w, rfl⟩ := sRaise_inv hx
      simp only [Bool.and_eq_true, decide_eq_true_eq] at h
      obtain ⟨⟨⟨⟨rfl, h2⟩, h3⟩, h4⟩, h5⟩ := h
      obtain ⟨n, hn⟩ := Option.isSome_iff_exists.mp h5
      obtain ⟨C, ok⟩ := so.exc _ n hn
      exact ss_raise hn ok h2 h3 (goodL ms X (x :: r) so.xo h4)
    · cases h
  | .tryR m c i, X, s, so, h => by
    unfold chkS at h
    split at h
    · rename_i e c' n n1 w1 n2 w2 hx
      obtain ⟨p1, p2, p3, p4, p5, p6, k, p7, p8, p9, p10, rfl⟩ := sTry_inv hx
      simp only [Bool.and_eq_true, decide_eq_true_eq, Bool.not_eq_true', decide_eq_false_iff_not] at h
      obtain ⟨⟨⟨⟨⟨⟨⟨⟨⟨⟨⟨⟨rfl, rfl⟩, rfl⟩, h4⟩, h5⟩, h6⟩, h7⟩, h8⟩, h9⟩, h10⟩, h11⟩, h12⟩, h13⟩ := h
      obtain ⟨C, ok⟩ := so.exc _ 2 h13
      exact ss_try so ok h4 h5 h6 h7 h8 h9 h10 h11 fun pn xe => (good m (X.tr pn xe) e so.xo.tr h12).1.1
    · cases h
theorem goodSs : ∀ (m : MSs) (X : Cx) (s : List Stmt), SOk G call xn X → chkSs G xn X.N np m X.env.scope s = true → SSs G call xn X E np lp m s
  | .nil, X, [], so, h => ss_nil
  | .nil, X, _ :: _, so, h => by unfold chkSs at h; cases h
  | .cons m r, X, [], so, h => by unfold chkSs at h; cases h
  | .cons m r, X, s :: ss, so, h => by
    unfold chkSs at h
    rw [Bool.and_eq_true] at h
    exact ss_cons (goodS m X s so h.1) (goodSs r X ss so h.2)
end
end
end DI
end
section
set_option linter.all false
set_option maxRecDepth 100000
set_option Elab.async false
/-! DI15: the defs of a table keep what they compute. -/
namespace DI
open PySem PySem.Spec PyProof.Rows L2
/-- where the lent lists stand -/
def lentAd : List Ag → List V → Nat → Option Addr
  | .len _ :: _, .ref a :: _, 0 => some a
  | _ :: r, _ :: q, i + 1 => lentAd r q i
  | _, _, _ => none
section
variable {K : PySem.W.Frag} {F H F' H' : Hp}
theorem lentAd_lt : ∀ {ags : List Ag} {vs : List V} {i : Nat} {a : Addr}, lentAd ags vs i = some a → i < ags.length
  | [], vs, i, a, h => by cases vs <;> cases i <;> simp [lentAd] at h
  | g :: r, [], i, a, h => by cases g <;> cases i <;> simp [lentAd] at h
  | g :: r, v :: q, 0, a, h => by simp
  | g :: r, v :: q, i + 1, a, h => by
    have : lentAd r q i = some a := by cases g <;> simpa [lentAd] using h
    have := lentAd_lt this
    simp; omega
theorem lentAd_mem : ∀ {ags : List Ag} {vs : List V} {as : List Addr} {i : Nat} {a : Addr}, AgsOk K F H ags vs as → lentAd ags vs i = some a → a ∈ as
  | [], vs, as, i, a, h, e => by cases vs <;> cases i <;> simp [lentAd] at e
  | .dat d :: r, vs, as, i, a, h, e => by
    obtain ⟨v, q, rfl, _, h2⟩ := h
    cases i with
    | zero => simp [lentAd] at e
    | succ i => exact lentAd_mem h2 (by simpa [lentAd] using e)
  | .len l :: r, vs, as, i, a, h, e => by
    obtain ⟨p, q, b, ws, rfl, rfl, _, _, h2⟩ := h
    cases i with
    | zero => simp only [lentAd, Option.some.injEq] at e; subst e; exact List.mem_cons_self
    | succ i => exact List.mem_cons_of_mem _ (lentAd_mem h2 (by simpa [lentAd] using e))
theorem lentAd_inj : ∀ {ags : List Ag} {vs : List V} {as : List Addr} {i j : Nat} {a : Addr}, AgsOk K F H ags vs as → as.Nodup → lentAd ags vs i = some a → lentAd ags vs j = some a → i = j
  | [], vs, as, i, j, a, h, nd, e, f => by cases vs <;> cases i <;> simp [lentAd] at e
  | .dat d :: r, vs, as, i, j, a, h, nd, e, f => by
    obtain ⟨v, q, rfl, _, h2⟩ := h
    cases i with
    | zero => simp [lentAd] at e
    | succ i =>
      cases j with
      | zero => simp [lentAd] at f
      | succ j => exact congrArg (· + 1) (lentAd_inj h2 nd (show lentAd r q i = some a by simpa [lentAd] using e) (show lentAd r q j = some a by simpa [lentAd] using f))
  | .len l :: r, vs, as, i, j, a, h, nd, e, f => by
    obtain ⟨p, q, b, ws, rfl, rfl, _, _, h2⟩ := h
    have nd' := List.nodup_cons.mp nd
    cases i with
    | zero =>
      simp only [lentAd, Option.some.injEq] at e
      subst e
      cases j with
      | zero => rfl
      | succ j => exact absurd (lentAd_mem h2 (show lentAd r q j = some p by simpa [lentAd] using f)) nd'.1
    | succ i =>
      have e' : lentAd r q i = some a := by simpa [lentAd] using e
      cases j with
      | zero =>
        simp only [lentAd, Option.some.injEq] at f
        subst f
        exact absurd (lentAd_mem h2 e') nd'.1
      | succ j => rw [lentAd_inj h2 nd'.2 e' (show lentAd r q j = some a by simpa [lentAd] using f)]
/-- an argument's slot -/
theorem arg_at : ∀ {ags : List Ag} {vs : List V} {as : List Addr} {i : Nat} {s : Sl}, AgsOk K F H ags vs as → (ags.map agSl)[i]? = some s →
    (∃ d v, s = .dat d ∧ vs[i]? = some v ∧ Rep K F d v) ∨ ∃ l a ws, s = .lent l ∧ vs[i]? = some (.ref a) ∧ lentAd ags vs i = some a ∧ H a = some (.lst ws) ∧ Reps K F l ws
  | [], vs, as, i, s, h, e => by simp at e
  | .dat d :: r, vs, as, i, s, h, e => by
    obtain ⟨v, q, rfl, h1, h2⟩ := h
    cases i with
    | zero => simp [agSl] at e; subst e; exact .inl ⟨d, v, rfl, by simp, h1⟩
    | succ i =>
      rcases arg_at (i := i) h2 (by simpa using e) with ⟨d', v', e1, e2, e3⟩ | ⟨l, a, ws, e1, e2, e3, e4⟩
      · exact .inl ⟨d', v', e1, by simpa using e2, e3⟩
      · exact .inr ⟨l, a, ws, e1, by simpa using e2, by simpa [lentAd] using e3, e4⟩
  | .len l :: r, vs, as, i, s, h, e => by
    obtain ⟨p, q, b, ws, rfl, rfl, h1, h3, h2⟩ := h
    cases i with
    | zero => simp [agSl] at e; subst e; exact .inr ⟨l, p, ws, rfl, by simp, by simp [lentAd], h1, h3⟩
    | succ i =>
      rcases arg_at (i := i) h2 (by simpa using e) with ⟨d', v', e1, e2, e3⟩ | ⟨l, a, ws, e1, e2, e3, e4⟩
      · exact .inl ⟨d', v', e1, by simpa using e2, e3⟩
      · exact .inr ⟨l, a, ws, e1, by simpa using e2, by simpa [lentAd] using e3, e4⟩
/-- what is lent has come back -/
theorem agBack_ok {ad : Nat → Addr} {ρ : Ro} (le : Le F F') (hc : ∀ (i : Nat) (l : List D), ρ[i]? = some (.lent l) → ∃ ws, H' (ad i) = some (.lst ws) ∧ Reps K F' l ws) :
    ∀ {ags : List Ag} {vs : List V} {as : List Addr} {ρs : Ro} {q : List Ag} (k : Nat), AgsOk K F H ags vs as → (∀ (i : Nat) (s : Sl), ρs[i]? = some s → ρ[k + i]? = some s) → (∀ i a, lentAd ags vs i = some a → ad (k + i) = a) → agBack ags ρs = some q →
      AgsOk K F' H' q vs as ∧ same ags q
  | [], vs, as, ρs, q, k, h, hs, hl, e => by
    unfold agBack at e
    cases e
    exact ⟨h, trivial⟩
  | .dat d :: r, vs, as, [], q, k, h, hs, hl, e => by unfold agBack at e; cases e
  | .dat d :: r, vs, as, s :: ρs, q, k, h, hs, hl, e => by
    obtain ⟨v, t, rfl, h1, h2⟩ := h
    unfold agBack at e
    cases e1 : agBack r ρs with
    | none => rw [e1] at e; cases e
    | some q' =>
      rw [e1] at e; cases e
      obtain ⟨a1, a2⟩ := agBack_ok le hc (k + 1) h2 (fun i s' hi => by have := hs (i + 1) s' (by simpa using hi); rwa [show k + (i + 1) = k + 1 + i by omega] at this)
        (fun i a hi => by have := hl (i + 1) a (by simpa [lentAd] using hi); rwa [show k + (i + 1) = k + 1 + i by omega] at this) e1
      exact ⟨⟨v, t, rfl, Rep.le le d v h1, a1⟩, a2⟩
  | .len l :: r, vs, as, [], q, k, h, hs, hl, e => by unfold agBack at e; cases e
  | .len l :: r, vs, as, s :: ρs, q, k, h, hs, hl, e => by
    obtain ⟨p, t, b, ws, rfl, rfl, h1, h3, h2⟩ := h
    cases s with
    | lent l' =>
      unfold agBack at e
      cases e1 : agBack r ρs with
      | none => rw [e1] at e; cases e
      | some q' =>
        rw [e1] at e; cases e
        obtain ⟨a1, a2⟩ := agBack_ok le hc (k + 1) h2 (fun i s' hi => by have := hs (i + 1) s' (by simpa using hi); rwa [show k + (i + 1) = k + 1 + i by omega] at this)
          (fun i a hi => by have := hl (i + 1) a (by simpa [lentAd] using hi); rwa [show k + (i + 1) = k + 1 + i by omega] at this) e1
        obtain ⟨us, u1, u2⟩ := hc k l' (by have := hs 0 _ (by simp : ((Sl.lent l') :: ρs)[0]? = some (Sl.lent l')); simpa using this)
        have hk : ad k = p := by have := hl 0 p (by simp [lentAd]); simpa using this
        rw [hk] at u1
        exact ⟨⟨p, t, b, us, rfl, rfl, u1, u2, a1⟩, a2⟩
    | no => simp [agBack] at e
    | dat d => simp [agBack] at e
    | own l' => simp [agBack] at e
end
/-- what is known of a def of the table -/
structure DefF (G : Gm) (xn : Str → List Str) (K : PySem.W.Frag) (mg : Str → Option Value) (f : Str) (F : Fi) (x qual : Str) (params : Arguments) (body : List Stmt) (scope : Scope) (fa : Addr) (fd : FuncData) (N ps : List Str) : Prop where
  fun_ : FunD K x qual params body scope [] [] fa fd
  sc : FnScope N ps scope
  np : ps.length = F.np
  nl : N.length = F.np + F.nl
  chk : chkSs G xn N F.np F.body scope body = true
  mg : mg f = some (.ref fa)
  bd : Binds K fd ps []
/-- what is known of the module -/
structure ModF (G : Gm) (xn : Str → List Str) (P : Program) (w : World) (K : PySem.W.Frag) (mg : Str → Option Value) : Prop where
  defs : ∀ f F, G.fn f = some F → ∃ x qual params body scope fa fd N ps, DefF G xn K mg f F x qual params body scope fa fd N ps
  blt : ∀ b : Bl, mg (blName b) = none
  tyn : ∀ t : Ty, mg (tyName t) = none
  isi : mg "isinstance" = none
  rng : mg "range" = none
  zip : mg "zip" = none
  con : ∀ n d, G.con n = some d → ∃ u v, mg n = some u ∧ RelV v u ∧ Rep K (fun _ => none) d v
  dic : ∀ d tb, G.dic d = some tb → DicOk P w K mg d tb
  exc : ∀ c n, G.xc c = some n → ∃ C, ∀ X : Cx, X.prog = P → X.w = w → X.K = K → X.mg = mg → X.calm = true → Room 5 X.A → X.N.Nodup → ExcOk X xn c n C
section
variable {G : Gm} {xn : Str → List Str} {P : Program} {w : World} {K : PySem.W.Frag} {mg : Str → Option Value} {base : Heap}
/-- the defs keep their promises, at each depth -/
def AllOk (G : Gm) (xn : Str → List Str) (P : Program) (w : World) (K : PySem.W.Frag) (mg : Str → Option Value) (base : Heap) (n : Nat) : Prop :=
  ∀ f F x qual params body scope fa fd N ps, G.fn f = some F → DefF G xn K mg f F x qual params body scope fa fd N ps → FnG P w K mg base (L2.CX P w) (n + 5) fa fd ps (spOf K mg xn (callF G n f) ps.length)
theorem callF_len {n : Nat} {f : Str} {F : Fi} (hF : G.fn f = some F) {as : List Ag} (h : callF G n f as ≠ .no) : as.length = F.np := by
  cases n with
  | zero => exact absurd rfl h
  | succ n =>
    unfold callF at h
    rw [hF] at h
    dsimp only at h
    split at h
    · assumption
    · exact absurd rfl h
theorem allOk (M : ModF G xn P w K mg) : ∀ n, AllOk G xn P w K mg base n
  | 0 => by
    intro f F x qual params body scope fa fd N ps hF df
    refine ⟨fun vs H Q E ⟨_, _, _, h, _⟩ => h, fun A outer s H args us vs Q E gd hr he hb hv hsp => ?_⟩
    obtain ⟨_, _, _, _, _, _, _, _, h⟩ := hsp
    exact (show False from h).elim
  | n + 1 => by
    intro f F x qual params body scope fa fd N ps hF df
    have ih := allOk M n
    refine okG (k := n + 5) df.fun_ df.sc (fun vs H Q E ⟨_, _, _, h, _⟩ => h) fun cdv A outer s H vs Q E gd hr hsp => ?_
    obtain ⟨ags, as, F0, hlen, hags, nd, le, hoff, hm⟩ := hsp
    generalize hX : cxOf (L2.CX P w) P w K mg base N qual scope fa cdv A outer s H E = X at *
    have xo : XOk G (callF G n) xn X := by
      subst hX
      refine ⟨rfl, gd, df.sc.nd, ?_, M.blt, M.tyn, M.isi, M.rng, M.zip, M.con, fun g hg => ?_, M.dic⟩
      · have := hr.un
        show (A.deeper _).units + 200 < cLine
        omega
      · obtain ⟨Fg, hFg⟩ := Option.isSome_iff_exists.mp hg
        obtain ⟨x', q', p', b', s', fa', fd', N', ps', dg⟩ := M.defs g Fg hFg
        exact ⟨n + 5, fa', fd', ps', ih g Fg x' q' p' b' s' fa' fd' N' ps' hFg dg, fun as h => (callF_len hFg h).trans dg.np.symm, hr, dg.mg, dg.fun_.kp, dg.bd⟩
    have so : SOk G (callF G n) xn X := by
      refine ⟨xo, ?_, ?_, ?_, ?_, ?_, fun c m hc => ?_⟩
      · subst hX; exact df.sc.kind
      · subst hX; exact fun _ => rfl
      · subst hX; exact passes_of rfl
      · subst hX; rfl
      · subst hX; rfl
      · obtain ⟨C, hC⟩ := M.exc c m hc
        refine ⟨C, hC X ?_ ?_ ?_ ?_ ?_ ?_ ?_⟩
        · subst hX; rfl
        · subst hX; rfl
        · subst hX; rfl
        · subst hX; rfl
        · subst hX; rfl
        · subst hX; exact hr.mono (by omega)
        · subst hX; exact df.sc.nd
    have hal : ags.length = F.np := by rw [(ags_len hags).1, hlen, df.np]
    refine ⟨Wss X body, pss_wss, ?_⟩
    intro pins s' I
    -- an address where nothing stands
    have hp0 : H s'.heap.objs.size = none := I.hok.fresh (Nat.le_refl _)
    generalize s'.heap.objs.size = p0 at hp0
    let lp := lentAd ags vs
    let ad : Nat → Addr := fun i => (lp i).getD p0
    let ρ0 : Ro := ags.map agSl ++ List.replicate F.nl .no
    let σ0 : L2.St := L2.start N vs
    let En : Ent := ⟨F0, H, as⟩
    have hvl : vs.length = F.np := by rw [hlen, df.np]
    have slotA : ∀ {i : Nat} {s : Sl}, ρ0[i]? = some s → s ≠ .no → (ags.map agSl)[i]? = some s := fun {i s} h hs => by
      by_cases hi : i < (ags.map agSl).length
      · rwa [List.getElem?_append_left hi] at h
      · rw [List.getElem?_append_right (by omega)] at h
        rw [List.getElem?_replicate] at h
        split at h
        · cases h; exact absurd rfl hs
        · cases h
    have sig : ∀ {i : Nat} {v : V}, vs[i]? = some v → σ0[i]? = some (some v) := fun {i v} h => by
      show (L2.start N vs)[i]? = _
      unfold L2.start
      have hi := (List.getElem?_eq_some_iff.mp h).1
      rw [List.getElem?_append_left (by simpa using hi), List.getElem?_map, h]; rfl
    have celA : ∀ {i : Nat} {l : List D}, cellAt ρ0 i = some l → ∃ a ws, vs[i]? = some (.ref a) ∧ lp i = some a ∧ H a = some (.lst ws) ∧ Reps K F0 l ws := fun {i l} h => by
      unfold cellAt at h
      cases e : ρ0[i]? with
      | none => rw [e] at h; cases h
      | some t =>
        cases t with
        | no => rw [e] at h; cases h
        | dat d => rw [e] at h; cases h
        | own l' =>
          rcases arg_at hags (slotA e (fun z => nomatch z)) with ⟨_, _, z, _⟩ | ⟨_, _, _, z, _⟩ <;> cases z
        | lent l' =>
          rw [e] at h; cases h
          rcases arg_at hags (slotA e (fun z => nomatch z)) with ⟨_, _, z, _⟩ | ⟨l', a, ws, z, h1, h2, h3, h4⟩
          · cases z
          · cases z; exact ⟨a, ws, h1, h2, h3, h4⟩
    have adA : ∀ {i : Nat} {a : Addr}, lp i = some a → ad i = a := fun {i a} h => by show (lp i).getD p0 = a; rw [h]; rfl
    have env : EnvOk K (· ∈ as) ad F0 H σ0 ρ0 := by
      refine ⟨?_, fun i d h => ?_, fun i l h => ?_, fun i j l m h1 h2 he => ?_, le, hoff, (ags_len hags).2⟩
      · show (ags.map agSl ++ List.replicate F.nl Sl.no).length = (L2.start N vs).length
        unfold L2.start
        have := df.nl
        simp only [List.length_append, List.length_map, List.length_replicate]
        omega
      · rcases arg_at hags (slotA h (fun z => nomatch z)) with ⟨d', v, z, h1, h2⟩ | ⟨_, _, _, z, _⟩
        · cases z; exact ⟨v, sig h1, h2⟩
        · cases z
      · obtain ⟨a, ws, h1, h2, h3, h4⟩ := celA h
        rw [adA h2]
        exact ⟨sig h1, lentAd_mem hags h2, ws, h3, h4⟩
      · obtain ⟨a, _, _, h3, _⟩ := celA h1
        obtain ⟨b, _, _, h4, _⟩ := celA h2
        rw [adA h3, adA h4] at he
        subst he
        exact lentAd_inj hags nd h3 h4
    have hKX : X.K = K := by subst hX; rfl
    have hmX : X.mg = mg := by subst hX; rfl
    have hNX : X.N = N := by subst hX; rfl
    have hsX : X.env.scope = scope := by subst hX; rfl
    have st : StOk X.K En F.np lp (· ∈ as) ad F0 H σ0 ρ0 := by
      rw [hKX]
      refine ⟨env, Stp.refl hoff, fun a h => .inl h, fun a h => h, fun i a h => ⟨adA h, by have := lentAd_lt h; omega⟩, fun i hi => ?_, fun a h => ?_⟩
      · have : lp i = none := by
          cases z : lp i with
          | none => rfl
          | some a => have := lentAd_lt z; omega
        show H ((lp i).getD p0) = none
        rw [this]; exact hp0
      · obtain ⟨ws, h⟩ := (ags_len hags).2 a h
        exact ⟨_, h⟩
    have hchk : chkSs G xn X.N F.np F.body X.env.scope body = true := by rw [hNX, hsX]; exact df.chk
    have tk : Takes X (fun cls d _ H' => E cls d H') := by subst hX; exact takes_of rfl rfl rfl rfl
    have fok := goodSs (E := En) (np := F.np) (lp := lp) F.body X body so hchk _ (· ∈ as) ad σ0 ρ0 F0 H tk st
    -- what comes back
    have fin : ∀ {ρ' : Ro} {q : List Ag} {C' : Addr → Prop} {ad' : Nat → Addr} {σ' : L2.St} {F' H' : Hp}, agBack ags ρ' = some q → Le F0 F' → StOk X.K En F.np lp C' ad' F' H' σ' ρ' → AgsOk K F' H' q vs as ∧ same ags q := fun {ρ' q C' ad' σ' F' H'} hq l s => by
      rw [hKX] at s
      refine agBack_ok (ρ := ρ') (ad := ad') l (fun i l' hi => ?_) 0 hags (fun i s' hi => by simpa using hi) (fun i a hi => by simpa using (s.lnt i a hi).1) hq
      obtain ⟨_, _, ws, h3, h4⟩ := s.env.cel i l' (by unfold cellAt; rw [hi])
      exact ⟨ws, h3, h4⟩
    have hcall : callF G (n + 1) f ags = outC ags (exs G (callF G n) F.body ρ0) := by
      rw [callF, hF]
      dsimp only
      rw [if_pos hal]
    rw [hcall] at hm
    cases ho : exs G (callF G n) F.body ρ0 with
    | no => rw [ho] at hm; exact (show False from hm).elim
    | bk ρ' => rw [ho] at hm; exact (show False from hm).elim
    | ct ρ' => rw [ho] at hm; exact (show False from hm).elim
    | nx ρ' =>
      rw [ho] at hm fok
      cases hq : agBack ags ρ' with
      | none => simp only [outC, hq] at hm
      | some q =>
        simp only [outC, hq] at hm
        refine fok _ (fun C' ad' σ' F' H' l s => ?_) pins s' I
        obtain ⟨a1, a2⟩ := fin hq l s
        rw [hKX] at s
        exact hm .non F' H' s.stp s.env.le a2 a1 (show Rep K F' .non .non from Rep.non.mpr rfl)
    | rt r ρ' =>
      rw [ho] at hm fok
      cases hq : agBack ags ρ' with
      | none => simp only [outC, hq] at hm
      | some q =>
        simp only [outC, hq] at hm
        refine fok _ (fun C' ad' v σ' F' H' l s rt => ?_) pins s' I
        obtain ⟨a1, a2⟩ := fin hq l s
        rw [hKX] at s rt
        exact hm v F' H' s.stp s.env.le a2 a1 rt
    | ex c fs ρ' =>
      rw [ho] at hm fok
      simp only [outC] at hm
      refine fok (fun C' ad' σ' F' H' cls d l s xa => ?_) _ pins s' I
      rw [hKX] at s xa
      rw [hmX] at xa
      exact hm F' H' cls d s.stp s.env.le xa
end
end DI
end
section
set_option Elab.async false
set_option linter.all false
set_option maxRecDepth 100000
set_option maxHeartbeats 2000000
/-! DIE: a law's end, where its def promises by FnG. -/
namespace DI
open PySem PySem.Spec PyProof.Rows L2
section
variable {P : Program} {w : World} {K : PySem.W.Frag} {mg mb : Str → Option Value} {CX : CXT} {k : Nat} {fa a : Addr} {fd : FuncData} {x : Str} {sp : Sp} {t : Shared} {vs : List Value} {ns : List Int}
/-- what the judge's call leaves -/
abbrev Done (t : Shared) (r : Result) (t' : Shared) : Prop := r = .ok (.ret (.bool true)) ∧ OldK t.heap t'.heap ∧ t'.os = t.os ∧ AllBare t'.gens
/-- no dict lies under what is tracked -/
theorem hid_ns {h : Heap} {H : Hp} {b : Addr} {m : Str → Option Value} (hA : ∀ c, H c ≠ none → ∃ o : Obj, h.get? c = some o ∧ ∃ u n, o.data = .seq u n) (y : h.Ns b m) : (hidT h H).Ns b m := by
  obtain ⟨o, es, ep, e, d, r⟩ := y
  refine ⟨o, es, ep, hidT_get e ?_, d, r⟩
  cases q : H b with
  | none => rfl
  | some z =>
    obtain ⟨o', e', u, n, d'⟩ := hA b (by rw [q]; exact fun z => nomatch z)
    rw [e'] at e; cases e
    rw [d'] at d; cases d
theorem hid_env {H : Hp} (KX : K.In t.heap) (hns : t.heap.Ns mainGlobals mg) (hb : t.heap.Ns builtinsNs mb) (hbb : ∀ x : Str, x ≠ "__name__" → mb x = bootBuiltins x) (hlim : t.heap.NoLimit) (hg : t.gens = #[])
    (hA : ∀ c, H c ≠ none → K.lookup c = none ∧ ∃ o : Obj, t.heap.get? c = some o ∧ ∃ u n, o.data = .seq u n) (ok : HOk P w H t.heap) :
    K.In (hidT t.heap H) ∧ (hidT t.heap H).Ns mainGlobals mg ∧ Env0 P w K mg (hidT t.heap H) callerA [] t H := by
  have n1 := hid_ns (fun c z => (hA c z).2) hns
  have k1 : K.In (hidT t.heap H) := fun b o e => hidT_get (KX b o e) (by
    cases q : H b with
    | none => rfl
    | some z => rw [(hA b (by rw [q]; exact fun z => nomatch z)).1] at e; cases e)
  obtain ⟨mc, c1, c2⟩ := hlim
  exact ⟨k1, n1, rfl, ⟨k1, n1, ⟨mb, hid_ns (fun c z => (hA c z).2) hb, hbb⟩, ⟨mc, hid_ns (fun c z => (hA c z).2) c1, c2⟩⟩, fun _ _ e => of_hidT e,
    Nat.le_of_eq (hidT_size _ _), trivial, (fun _ z => nomatch z), ok, .of_eq hg⟩
theorem call_hid {H : Hp} (KX : K.In t.heap) (hns : t.heap.Ns mainGlobals mg) (hb : t.heap.Ns builtinsNs mb) (hbb : ∀ x : Str, x ≠ "__name__" → mb x = bootBuiltins x) (hlim : t.heap.NoLimit) (hg : t.gens = #[]) (rm : Room k callerA)
    (F : ∀ base : Heap, K.In base → base.Ns mainGlobals mg → FnG P w K mg base CX k fa fd [x] sp) (bd : ∀ (s : Shared) (u : Value), BindsTo s fd ⟨[u], []⟩ [(x, u)])
    (hCX : ∀ H e s', CX [] H t (fun _ _ _ => False) e s' → False) (hO : Only H) (hS : sp [.ref a] H (fun v _ => v = .bl true) fun _ _ _ => False)
    (hA : ∀ c, H c ≠ none → K.lookup c = none ∧ ∃ o : Obj, t.heap.get? c = some o ∧ ∃ u n, o.data = .seq u n) (ok : HOk P w H t.heap) :
    codeAny (model P w) callerA (.call (.ref fa) ⟨[.ref a], []⟩) (Done t) t := by
  obtain ⟨k1, n1, e0⟩ := hid_env (P := P) (w := w) KX hns hb hbb hlim hg hA ok
  refine codeAny_mono ((F _ k1 n1).go callerA [] t H ⟨[.ref a], []⟩ [.ref a] [.ref a] _ _ rfl rm e0 (bd t (.ref a)) (.cons rfl .nil) hS) fun r t' h => ?_
  match r, h with
  | .error e, h => exact (hCX H e t' h).elim
  | .ok .next, h => exact (show False from h).elim
  | .ok .brk, h => exact (show False from h).elim
  | .ok .cont, h => exact (show False from h).elim
  | .ok (.ret u), ⟨v, H', os, bare, un, ok', rv, q⟩ =>
    cases (show v = .bl true from q)
    cases (show u = Value.bool true from rv)
    refine ⟨rfl, OldK.of_keep fun b o e => ?_, os, bare⟩
    rcases hO b with z | ⟨ob, xs, z⟩
    · exact un.keep b o e z (fun y => nomatch y) (fun y => nomatch y)
    · have e1 := (ok b _ z).1
      rw [e] at e1; cases e1
      exact (ok' b _ (un.frzs b _ _ z)).1
/-- the judge's call -/
theorem law_callG (KX : K.In t.heap) (hns : t.heap.Ns mainGlobals mg) (hb : t.heap.Ns builtinsNs mb) (hbb : ∀ x : Str, x ≠ "__name__" → mb x = bootBuiltins x) (hlim : t.heap.NoLimit) (hg : t.gens = #[]) (rm : Room k callerA)
    (ha : t.heap.get? a = some { cls := .type "list", data := .seq vs.toArray }) (hi : IntsAre vs ns) (hl : ns.length ≤ sizeLine)
    (F : ∀ base : Heap, K.In base → base.Ns mainGlobals mg → FnG P w K mg base CX k fa fd [x] sp) (bd : ∀ (s : Shared) (u : Value), BindsTo s fd ⟨[u], []⟩ [(x, u)])
    (hCX : ∀ H e s', CX [] H t (fun _ _ _ => False) e s' → False) (hsp : ∀ H : Hp, Only H → SqL K H a (ns.map V.int) → sp [.ref a] H (fun v _ => v = .bl true) fun _ _ _ => False) :
    codeAny (model P w) callerA (.call (.ref fa) ⟨[.ref a], []⟩) (Done t) t := by
  have rv := vals_ints hi
  cases hk : K.lookup a with
  | some o =>
    have e := KX a o hk
    rw [ha] at e; cases e
    have hO : Only (fun _ => none) := fun _ => .inl rfl
    exact call_hid (H := fun _ => none) KX hns hb hbb hlim hg rm F bd hCX hO (hsp _ hO (.inr ⟨_, vs.toArray, _, hk, rfl, rfl, rfl, by rw [List.size_toArray, hi.length]; exact hl, by simpa using rv⟩))
      (fun c z => absurd rfl z) fun b u z => nomatch z
  | none =>
    let H : Hp := upd (fun _ => none) a (.frz { cls := .type "list", data := .seq vs.toArray } (.lst (ns.map V.int)))
    have hH : ∀ c z, H c = some z → c = a ∧ z = .frz { cls := .type "list", data := .seq vs.toArray } (.lst (ns.map V.int)) := fun c z e => by
      by_cases hc : c = a
      · subst hc
        have e' : H c = _ := upd_same
        rw [e'] at e; cases e; exact ⟨rfl, rfl⟩
      · have e' : H c = none := upd_ne hc
        rw [e'] at e; cases e
    have hO : Only H := fun c => by
      cases q : H c with
      | none => exact .inl rfl
      | some z => obtain ⟨_, rfl⟩ := hH c z q; exact .inr ⟨_, _, rfl⟩
    refine call_hid (H := H) KX hns hb hbb hlim hg rm F bd hCX hO (hsp _ hO (.inl (.inr ⟨_, upd_same⟩))) (fun c z => ?_) fun c z q => ?_
    · cases q : H c with
      | none => exact absurd q z
      | some y => obtain ⟨rfl, _⟩ := hH c y q; exact ⟨hk, _, ha, _, _, rfl⟩
    · obtain ⟨rfl, rfl⟩ := hH c z q
      exact ⟨ha, by rw [List.length_map]; exact hl, vs, _, rv, ha⟩
end
theorem walk_ofG {l : PySem.W.OpenLaw} {n k : Nat} {q : Program} {loose : List Str} {XP : (Str → Option Value) → Heap → Prop} {YP : World → Heap → Prop} {d : DefRec} {CX : World → CXT} {x : Str}
    (hn : l.most = some n) (hn2 : n ≤ sizeLine) (hdf : d.params.defaults = []) (rm : Room k callerA)
    (F : ∀ (w : World) (mg : Str → Option Value) (fa : Addr) (h : Heap), YP w h → h.Ns mainGlobals mg → mg d.name = some (.ref fa) →
      ∃ (K : PySem.W.Frag) (fd : FuncData) (sp : Sp), K.In h ∧ (∀ (s : Shared) (u : Value), BindsTo s fd ⟨[u], []⟩ [(x, u)]) ∧
        (∀ (H : Hp) (a : Addr) (ns : List Int), ns.length ≤ n → Only H → SqL K H a (ns.map V.int) → sp [.ref a] H (fun v _ => v = .bl true) fun _ _ _ => False) ∧
        ∀ base : Heap, K.In base → base.Ns mainGlobals mg → FnG l.prog w K mg base (CX w) k fa fd [x] sp)
    (hCX : ∀ (w : World) (H : Hp) (s : Shared) (e : Value) (s' : Shared), CX w [] H s (fun _ _ _ => False) e s' → False) :
    PySem.W.WalkO q loose XP YP l.row.toRowW d [] (fun f vs => PySem.call f vs) :=
  Att.attach_call hn hdf fun w s₀ s₁ mg mb fa o pm cd doc a vs ns G Y ho hd hcd hmg hobj hints hlen hg => by
    obtain ⟨K, fd, sp, KX, bd, hsp, hF⟩ := F w mg fa _ Y G.T.g hmg
    exact law_callG KX G.T.g G.T.b G.T.builtins G.T.nolimit hg rm hobj hints (Nat.le_trans hlen hn2) hF bd (fun H e s' => hCX w H s₁ e s') fun H hO hS => hsp H a ns hlen hO hS
end DI
end
section
set_option Elab.async false
set_option linter.all false
set_option maxRecDepth 100000
set_option maxHeartbeats 4000000
/-! The top of a program run in pieces: the kernel runs the plain ones, a proof by wp the one that asks an unknown hash. -/
namespace CH
open PySem PySem.W PySem.Calls PyProof.Rows HandSHeadRun
noncomputable section
/-- a thread run to its end over the tree; each step one that a top may make -/
def runH (st : SharedT → Thread → Option (SharedT × Thread)) (n0 : Nat) : Nat → SharedT → Thread → Option (Flow × SharedT)
  | 0, _, _ => none
  | m + 1, s, t => match stepOk n0 none t with
    | false => none
    | true => match through t with
      | true => (match t.cur with
        | .pure (.done f) => (match s.gens.size with
          | 0 => some (f, s)
          | _ + 1 => none)
        | _ => none)
      | false => match st s t with
        | some (s', t') => frS s' fun s' => runH st n0 m s' t'
        | none => none

/-- what such a run tells of the machine -/
structure Went (p : Program) (w : World) (n0 : Nat) (s : Shared) (t : Thread) (f : Flow) (s' : Shared) : Prop where
  run : ∃ n, runN (denote table) p w n s t = .halted (.done f) s'
  calm : ∀ k s1 t1, runN (denote table) p w k s t = .running s1 t1 → t1.calm = true
  gens : s'.gens = #[]
  life : s'.heap.life = s.heap.life
  os : s'.os = s.os
  kept : ∀ b o, b < n0 → b ≠ mainNs → b ≠ cStatics → s.heap.get? b = some o → s'.heap.get? b = some o

theorem through_split {t : Thread} (h : through t = true) : ∃ f c p, t = ⟨.pure (.done f), c, p, []⟩ := by
  obtain ⟨cur, c, p, st⟩ := t
  cases st with
  | cons a b => simp [through] at h
  | nil =>
    cases cur with
    | pure f =>
      cases f with
      | done f => exact ⟨f, c, p, rfl⟩
      | again c => simp [through] at h
    | _ => simp [through] at h

theorem runN_go {den : Code → Sem Fin} {p : Program} {w : World} {n : Nat} {s s1 : Shared} {t t1 : Thread} (h : step den p w s t = .go s1 t1) :
    runN den p w (n + 1) s t = runN den p w n s1 t1 := by
  simp only [runN, h]

theorem went_of {p : Program} {w : World} {n0 : Nat} : ∀ {m : Nat} {s : SharedT} {t : Thread} {f : Flow} {s' : SharedT},
    runH (stepT (denote treeTable) p w) n0 m s t = some (f, s') → Went p w n0 s.abs t f s'.abs
  | 0, _, _, _, _, h => by cases h
  | m + 1, s, t, f, s', h => by
    unfold runH at h
    cases hk : stepOk n0 none t with
    | false => rw [hk] at h; cases h
    | true =>
      rw [hk] at h
      have hcalm : t.calm = true := (Bool.and_eq_true_iff.mp hk).1
      cases ht : through t with
      | true =>
        rw [ht] at h
        obtain ⟨g, c, q, rfl⟩ := through_split ht
        have h1 : (match s.gens.size with | 0 => some (g, s) | _ + 1 => none) = some (f, s') := h
        cases hs : s.gens.size with
        | succ k => rw [hs] at h1; cases h1
        | zero =>
          rw [hs] at h1
          obtain ⟨rfl, rfl⟩ : g = f ∧ s = s' := by simpa using h1
          have hg : s.abs.gens = #[] := Array.eq_empty_of_size_eq_zero hs
          have hst : step (denote table) p w s.abs ⟨.pure (.done g), c, q, []⟩ = .halt (.done g) s.abs := by
            generalize s.abs = S at hg ⊢
            obtain ⟨hp, gs, dr, tk, ost⟩ := S
            have hg2 : gs = #[] := hg
            subst hg2
            simp [step, finish, leftWithCleanup]
          refine ⟨⟨1, ?_⟩, ?_, hg, rfl, rfl, fun b o _ _ _ e => e⟩
          · simp only [runN, hst]
          · intro k s1 t1 hr
            cases k with
            | zero =>
              have e : Run.running s.abs _ = .running s1 t1 := hr
              injection e with _ e2
              rw [← e2]; exact hcalm
            | succ k =>
              simp only [runN, hst] at hr
              cases hr
      | false =>
        rw [ht] at h
        have h1 : (match stepT (denote treeTable) p w s t with
          | some (s', t') => frS s' fun s' => runH (stepT (denote treeTable) p w) n0 m s' t'
          | none => none) = some (f, s') := h
        cases hs : stepT (denote treeTable) p w s t with
        | none => rw [hs] at h1; cases h1
        | some r =>
          obtain ⟨s2, t2⟩ := r
          rw [hs] at h1
          have h2 : (frS s2 fun s' => runH (stepT (denote treeTable) p w) n0 m s' t2) = some (f, s') := h1
          rw [frS_eq] at h2
          have W := went_of h2
          have hst := stepT_spec hs
          rw [← table_eq_tree] at hst
          obtain ⟨n, hn⟩ := W.run
          have hl := step_life (denote table) p w _ _ _ _ hst
          obtain ⟨_, hk2⟩ := Bool.and_eq_true_iff.mp hk
          refine ⟨⟨n + 1, by rw [runN_go hst]; exact hn⟩, ?_, W.gens, W.life.trans hl, W.os.trans (step_os_same hst (by revert hk2; cases t.cur <;> simp)), ?_⟩
          · intro k s1 t1 hr
            cases k with
            | zero =>
              have e : Run.running s.abs t = .running s1 t1 := hr
              injection e with _ e2
              rw [← e2]; exact hcalm
            | succ k =>
              rw [runN_go hst] at hr
              exact W.calm k s1 t1 hr
          · intro b o b1 b2 b3 e
            refine W.kept b o b1 b2 b3 ?_
            rw [step_heap (denote table) p w _ _ _ _ hst]
            revert hk2
            cases t.cur <;> intro hk2 <;> try exact e
            case update a _ f _ =>
              have ne : b ≠ a := by
                intro z
                subst z
                simp only [Bool.or_eq_true, Nat.ble_eq, beq_iff_eq] at hk2
                rcases hk2 with ((q | q) | q) | q
                · omega
                · exact b2 q
                · exact b3 q
                · cases q
              exact (Heap.get?_update_ne _ _ _ _ ne).trans e
            case alloc x _ => exact Heap.get?_push_of_some x e
end
end CH
end
section
set_option Elab.async false
set_option linter.all false
set_option maxRecDepth 100000
set_option maxHeartbeats 4000000
namespace CH
open PySem PySem.W PySem.Calls PyProof.Rows HandSHeadRun
/-- a frame that hands on what comes -/
def kPass : Result → Sem Fin
  | .ok f => .pure (.done f)
  | .error _ => .unsupported "no"
abbrev fPass (c : Code) (p : Pos) : Frame := .ret kPass none false [] c p []
abbrev bare0 (c : Code) : Ctx := ⟨c, none, none, [], none⟩
abbrev ofTree {α : Type} (m : Sem α) (K : α → Flow) : Sem Fin := m.bind fun a => .pure (.done (K a))

theorem Went.runs {p : Program} {w : World} {n0 : Nat} {s s' : Shared} {t : Sem Fin} {c : Code} {q : Pos} {st : List Frame} {f : Flow} (W : Went p w n0 s ⟨t, c, q, st⟩ f s') :
    Runs (model p w) (bare0 c) q t st s (.ret (.ok f)) s' := by
  obtain ⟨n, hn⟩ := W.run
  obtain ⟨s2, h2, hf⟩ := runN_calm_runNI (denote table) p w hn W.calm
  have e : s2 = s' := Shared.eq_of_forget_eq hf.symm W.gens
  subst e
  exact (halts_iff (M := model p w) (r := .ok f).mp ⟨n, h2⟩).1

theorem wp_of_runs {α : Type} {p : Program} {w : World} {Γ : Ctx} {m : Sem α} {K : α → Flow} {q : Pos} {s s' : Shared} {f : Flow} (R : Runs (model p w) Γ q (ofTree m K) [] s (.ret (.ok f)) s') :
    Sem.wp (model p w) Γ m (fun a _ s1 => K a = f ∧ s1 = s') (fun _ _ _ => False) q s := by
  have z := (Sem.wp_iff_runs (model p w) Γ (ofTree m K) (fun r s1 => r = .ok f ∧ s1 = s') q s).mpr ⟨_, _, R, rfl, rfl⟩
  rw [Sem.wp_bind] at z
  refine Sem.wp_mono _ _ _ (fun a q' s1 h => ?_) (fun e q' s1 h => ?_) _ _ z
  · rw [Sem.wp_pure] at h
    obtain ⟨h1, h2⟩ := (show (Except.ok (K a) : Result) = .ok f ∧ s1 = s' from h)
    exact ⟨by injection h1, h2⟩
  · exact nomatch h.1

theorem piece0 {α : Type} {p : Program} {w : World} {n0 : Nat} {s s' : Shared} {m : Sem α} {K : α → Flow} {c : Code} {q : Pos} {f : Flow} (W : Went p w n0 s ⟨ofTree m K, c, q, []⟩ f s') :
    Sem.wp (model p w) (bare0 c) m (fun a _ s1 => K a = f ∧ s1 = s') (fun _ _ _ => False) q s := wp_of_runs W.runs

theorem runs_pass {M : Model} {t : Sem Fin} {c cF : Code} {q qF : Pos} {s s' : Shared} {f : Flow} (R : Runs M (bare0 c) q t [fPass cF qF] s (.ret (.ok f)) s') :
    Runs M ((bare0 c).over [fPass cF qF]) q t [] s (.ret (.ok f)) s' := by
  cases R with
  | segRet h1 h2 =>
    rename_i r s1
    cases r with
    | ok g =>
      have h3 : Runs M _ qF (.pure (.done g)) [] s1 (.ret (.ok f)) s' := h2
      cases h3
      exact h1
    | error e =>
      have h3 : Runs M _ qF (.unsupported "no") [] s1 (.ret (.ok f)) s' := h2
      cases h3
  | segSuspGen h1 => cases h1
theorem piece1 {α : Type} {p : Program} {w : World} {n0 : Nat} {s s' : Shared} {m : Sem α} {K : α → Flow} {c cF : Code} {q qF : Pos} {f : Flow} (W : Went p w n0 s ⟨ofTree m K, c, q, [fPass cF qF]⟩ f s') :
    Sem.wp (model p w) ((bare0 cF).enter c none qF) m (fun a _ s1 => K a = f ∧ s1 = s') (fun _ _ _ => False) q s := wp_of_runs (runs_pass W.runs)

/-- the thread of a block's start, of a row of statements -/
abbrev startTree (b : List Stmt) (env : Env) : Sem Fin := ofTree (blockStart b env) fun _ => .next
abbrev stmtsTree (l : List Stmt) (env : Env) : Sem Fin := ofTree (execs l env) id
end CH
end
section
set_option Elab.async false
set_option linter.all false
set_option maxRecDepth 100000
set_option maxHeartbeats 4000000
namespace CH
open PySem PySem.W PySem.Calls PyProof.Rows HandSHeadRun

theorem wp_row {M : Model} {Γ : Ctx} {env : Env} {rest : List Stmt} {Q : Flow → Pos → Shared → Prop} {E : Value → Pos → Shared → Prop} : ∀ (l : List Stmt) (q : Pos) (s : Shared),
    Sem.wp M Γ (execs l env) (fun f q' s' => f = .next ∧ Sem.wp M Γ (execs rest env) Q E q' s') E q s → Sem.wp M Γ (execs (l ++ rest) env) Q E q s
  | [], q, s, h => by
    rw [execs_nil, Sem.wp_pure'] at h
    exact h.2
  | x :: l, q, s, h => by
    rw [List.cons_append, execs_cons, Sem.wp_bind']
    rw [execs_cons, Sem.wp_bind'] at h
    refine Sem.wp_mono M Γ _ (fun f q' s' h' => ?_) (fun _ _ _ h' => h') q s h
    cases f with
    | next => exact wp_row l q' s' h'
    | _ =>
      have z := h'
      rw [Sem.wp_pure'] at z
      exact nomatch z.1
theorem wp_one {M : Model} {Γ : Ctx} {env : Env} {x : Stmt} {rest : List Stmt} {Q : Flow → Pos → Shared → Prop} {E : Value → Pos → Shared → Prop} {q : Pos} {s : Shared}
    (h : Sem.wp M Γ (exec x env) (fun f q' s' => f = .next ∧ Sem.wp M Γ (execs rest env) Q E q' s') E q s) : Sem.wp M Γ (execs (x :: rest) env) Q E q s := by
  rw [execs_cons, Sem.wp_bind']
  refine Sem.wp_mono M Γ _ (fun f q' s' h' => ?_) (fun _ _ _ h' => h') q s h
  obtain ⟨rfl, h2⟩ := h'
  exact h2

abbrev cCall : Code := .builtin "claim.caller" {}
abbrev envOf (p : Program) (code : Value) (frame : Addr) : Env := { scope := p.main.scope, locals := mainNs, globals := mainNs, cells := [], code := code, frame := some frame }
/-- the top from its pieces -/
theorem top_wp {p : Program} {w : World} {s0 sa : Shared} {code : Value} {F : Shared → Prop}
    (h1 : Sem.wp (model p w) (bare0 cCall) (moduleCode p.main) (fun v _ s => Flow.ret v = .ret code ∧ s = sa) (fun _ _ _ => False) default s0)
    (h2 : ∀ q, ∃ (frame : Addr) (sb : Shared), Sem.wp (model p w) (bare0 cCall) (newBodyFrame code mainNs mainNs) (fun a _ s => Flow.ret (.ref a) = .ret (.ref frame) ∧ s = sb) (fun _ _ _ => False) q sa ∧
      ∀ q, Sem.wp (model p w) ((bare0 cCall).enter (.body (behindTheImports p) (envOf p code frame)) none q) (blockStart (behindTheImports p) (envOf p code frame))
      (fun _ q' s => Sem.wp (model p w) ((bare0 cCall).enter (.body (behindTheImports p) (envOf p code frame)) none q) (execs (behindTheImports p) (envOf p code frame)) (fun f _ s' => f = .next ∧ F s') (fun _ _ _ => False) q' s) (fun _ _ _ => False) q sb) :
    Sem.wp (model p w) (bare0 cCall) (topStub p).cur (Sem.finPost (model p w) (bare0 cCall) fun r s => r = .ok (.ret .none) ∧ F s) (fun e _ s => (.error e : Result) = .ok (.ret .none) ∧ F s) default s0 := by
  unfold topStub
  dsimp only
  rw [Sem.wp_bind']
  refine Sem.wp_mono _ _ _ (fun v q s h => ?_) (fun _ _ _ h => h.elim) _ _ h1
  obtain ⟨e, rfl⟩ := h
  obtain rfl : v = code := by injection e
  rw [Sem.wp_bind']
  obtain ⟨frame, sb, h2, h3⟩ := h2 q
  refine Sem.wp_mono _ _ _ (fun a q2 s2 h => ?_) (fun _ _ _ h => h.elim) _ _ h2
  obtain ⟨e, rfl⟩ := h
  obtain rfl : a = frame := by injection e with e; injection e
  rw [Sem.wp_bind']
  show Sem.wp _ _ (.call _ none false [] _) _ _ _ _
  rw [Sem.wp_call]
  have body : Sem.wp (model p w) ((bare0 cCall).enter (.body (behindTheImports p) (envOf p v a)) none q2) ((blockStart (behindTheImports p) (envOf p v a)).bind fun _ => ((execs (behindTheImports p) (envOf p v a)).onRaise (leaving (envOf p v a))).bind fun f => (Sem.pure (Fin.done f) : Sem Fin))
      (Sem.finPost (model p w) ((bare0 cCall).enter (.body (behindTheImports p) (envOf p v a)) none q2) fun r s => r = .ok .next ∧ F s) (fun e _ s => (.error e : Result) = .ok .next ∧ F s) q2 s2 := by
    rw [Sem.wp_bind]
    refine Sem.wp_mono _ _ _ (fun _ q3 s3 h => ?_) (fun _ _ _ h => h.elim) _ _ (h3 q2)
    rw [Sem.wp_bind, Sem.wp_onRaise]
    refine Sem.wp_mono _ _ _ (fun f q4 s4 h => ?_) (fun _ _ _ h => h.elim) _ _ h
    obtain ⟨rfl, z⟩ := h
    rw [Sem.wp_pure]
    exact ⟨rfl, z⟩
  obtain ⟨r, s', hr, hR⟩ := (Sem.wp_iff_runs _ _ _ _ _ _).mp body
  obtain ⟨rfl, hF⟩ := hR
  refine ⟨_, _, hr, ?_⟩
  show Sem.wp _ _ (Sem.pure _) _ _ _ _
  rw [Sem.wp_pure]
  show Sem.wp _ _ (Sem.pure _) _ _ _ _
  rw [Sem.wp_pure]
  exact ⟨rfl, hF⟩

theorem last_run {den : Code → Sem Fin} {p : Program} {w : World} {o : Outcome} {s'' : Shared} : ∀ {n : Nat} {s : Shared} {t : Thread}, runN den p w n s t = .halted o s'' →
    ∃ k s1 t1, runN den p w k s t = .running s1 t1 ∧ step den p w s1 t1 = .halt o s''
  | 0, s, t, h => by cases (show Run.running s t = .halted o s'' from h)
  | n + 1, s, t, h => by
    cases hs : step den p w s t with
    | go s2 t2 =>
      rw [runN_go hs] at h
      obtain ⟨k, s1, t1, a, b⟩ := last_run h
      exact ⟨k + 1, s1, t1, by rw [runN_go hs]; exact a, b⟩
    | halt o2 s2 =>
      simp only [runN, hs] at h
      injection h with e1 e2
      subst e1 e2
      exact ⟨0, s, t, rfl, hs⟩
theorem halt_done {den : Code → Sem Fin} {p : Program} {w : World} {f : Flow} {s s' : Shared} {t : Thread} (h : step den p w s t = .halt (.done f) s') : through t = true ∧ s = s' := by
  obtain ⟨heap, gens, drawn, toks, os⟩ := s
  obtain ⟨cur, code, pos, st⟩ := t
  cases cur with
  | pure g =>
    cases g with
    | done g =>
      cases st with
      | nil =>
        simp only [step, finish] at h
        split at h
        · cases h
        · exact ⟨rfl, by injection h⟩
      | cons a b => cases a <;> simp only [step] at h <;> cases h
    | again c =>
      exfalso
      cases st with
      | nil => simp only [step] at h; cases h
      | cons a b =>
        cases a
        · rw [PySem.W.step_again] at h; cases h
        · rw [PySem.W.step_again_gen] at h; cases h
  | raise e =>
    exfalso
    cases st with
    | nil =>
      simp only [step, finish] at h
      split at h <;> cases h
    | cons a b => cases a <;> simp only [step] at h <;> cases h
  | _ =>
    exfalso
    simp only [step, finish] at h
    (repeat' split at h) <;> (first | cases h | (injection h with h1 h2; cases h1))

theorem top_ends {p : Program} {w : World} {s0 : Shared} {F : Shared → Prop} (hr : s0.asleep) (hg : ∀ S, F S → S.gens = #[])
    (h : Sem.wp (model p w) (bare0 cCall) (topStub p).cur (Sem.finPost (model p w) (bare0 cCall) fun r s => r = .ok (.ret .none) ∧ F s) (fun e _ s => (.error e : Result) = .ok (.ret .none) ∧ F s) default s0) :
    ∃ S, (∃ n t, schedN (denote table) p w n (.single s0 (topStub p)) = .running (.single S t) ∧ through t = true) ∧ F S := by
  have h' : Sem.wp (model p w) ⟨cCall, none, none, [], none⟩ (topStub p).cur (Sem.finPost (model p w) ⟨cCall, none, none, [], none⟩ fun r s => (r = .ok (.ret .none) ∧ F s) ∧ leftWithCleanup s.gens = false)
      (fun e _ s => ((.error e : Result) = .ok (.ret .none) ∧ F s) ∧ leftWithCleanup s.gens = false) default s0 := by
    obtain ⟨r, s', a, b, c⟩ := (Sem.wp_iff_runs _ _ _ _ _ _).mp h
    refine (Sem.wp_iff_runs (model p w) _ _ (fun r s => (r = .ok (.ret .none) ∧ F s) ∧ leftWithCleanup s.gens = false) _ _).mpr ⟨r, s', a, ⟨b, c⟩, ?_⟩
    rw [hg _ c]
    simp [leftWithCleanup]
  obtain ⟨n, r, s', hn, er, hF⟩ := (wp_iff_halts (M := model p w) _ _ _ _).mp h'
  subst er
  obtain ⟨s2, hrun, hf, hc⟩ := runNI_real (denote table) p w hn (outcomeOf_ends _)
  have e : s2 = s' := Shared.eq_of_forget_eq hf (hg _ hF)
  subst e
  obtain ⟨k, s1, t1, a, b⟩ := last_run hrun
  obtain ⟨t, e1⟩ := halt_done b
  subst e1
  have ne : ∀ j s3, runN (denote table) p w j s0 (topStub p) ≠ .halted (.unsupported "lifetime:generator-with-cleanup-left-suspended") s3 := by
    intro j s3 hj
    have x := runN_mono (denote table) p w n j s0 _ _ _ hrun
    have y := runN_mono (denote table) p w j n s0 _ _ _ hj
    rw [Nat.add_comm] at y
    have z := x.symm.trans y
    injection z with z1
    cases z1
  refine ⟨s1, ⟨k, t1, ?_, t⟩, hF⟩
  rw [schedN_eq_runN (denote table) p w s0 (topStub p) hr ⟨hc, ne⟩ k]
  exact congrArg Run.lift a
end CH
end
section
set_option Elab.async false
set_option linter.all false
set_option maxRecDepth 100000
set_option maxHeartbeats 4000000
namespace CH
open PySem PySem.W PySem.Calls PyProof.Rows HandSHeadRun
noncomputable section

abbrev bootS (w : World) (ost : OsState) : Shared := ⟨boot_heap w.params, #[], boot_drawn, boot_toks, ost⟩
/-- where the top ends, and what is seen there -/
structure EndsAt (r : OpenRow) (q : Program) (H : Hook) (loose : List PySem.Str) (w : World) (ost : OsState) (S : Shared) : Prop where
  run : ∃ n t, schedN (denote table) r.prog w n (.single (bootS w ost) (topStub r.prog)) = .running (.single S t) ∧ through t = true
  life : S.heap.life = (boot_heap w.params).life
  os : S.os = ost
  kept : ∀ b o, b < (boot_heap w.params).objs.size → b ≠ mainNs → b ≠ cStatics → (boot_heap w.params).get? b = some o → S.heap.get? b = some o
  looks : looksF r.prog (boot_heap w.params) S = true
  seen : openSeen q loose (importedModules r.prog.main.body) (fun s => xlAt q [] s && recOk r.toRowW.records s) true S = openGood q loose
  hook : H.obs S = H.val w

/-- what stands behind the top, for every world -/
theorem behind_all {r : OpenRow} {q : Program} {H : Hook} {loose : List PySem.Str} (e0 : opening r.prog = plainProg r.prog.main.scope.names) (f0 : ∀ s, fenceModules? r.prog s = some s)
    (hch : chainsOk q = true) (go : ∀ w ost, (bootS w ost).asleep → ∃ S, EndsAt r q H loose w ost S) (w : World) :
    (∃ s, AfterRun (opening r.prog) w s) ∧ ∀ s, AfterRun (opening r.prog) w s → ∃ s0, fenceModules? r.prog s = some s0 ∧ s0.gens = #[] ∧ ∃ S, TopRan r.prog w s0 S ∧ S.asleep ∧ S.gens = #[] ∧
      S.heap.isNs mainGlobals = true ∧ Ground q loose [] (fun mg h => XL q [] mg h ∧ RecFacts r.toRowW.records h) w S (S.heap.nsMap mainGlobals) (S.heap.nsMap builtinsNs) S.heap ∧ H.says w S.heap := by
  obtain ⟨⟨h, gs, dr, tk, ost⟩, a, b⟩ := Option.map_eq_some_iff.mp (boot_open (N := 600) e0 rfl f0 w)
  simp only [Prod.mk.injEq] at b
  obtain ⟨rfl, rfl, rfl, rfl⟩ := b
  unfold fencedOpening at a
  obtain ⟨s1, a1, a2⟩ := Option.bind_eq_some_iff.mp a
  rw [← table_eq_tree] at a1
  have A := AfterImport.of_importEnds a1
  refine ⟨⟨s1, A⟩, fun s hs => ?_⟩
  obtain rfl : s = s1 := AfterImport.unique hs A
  have z0 : (bootS w ost).asleep := Shared.asleep_of_life (fence_lifeW a2) A.life
  obtain ⟨S, E⟩ := go w ost z0
  have zS : S.asleep := Shared.asleep_of_life (s := bootS w ost) E.life z0
  have L := E.looks
  unfold looksF at L
  simp only [Bool.and_eq_true] at L
  obtain ⟨⟨⟨L1, L2⟩, L3⟩, L4⟩ := L
  have key := ground_of_open (q := q) (loose := loose) (mods := importedModules r.prog.main.body) (XP := fun mg h => XL q [] mg h ∧ RecFacts r.toRowW.records h) (w := w) (s := S)
    (Xt := fun s => xlAt q [] s && recOk r.toRowW.records s) (g0 := true) (fun s z => ⟨xl_of s (Bool.and_eq_true_iff.mp z).1, recFacts_of (Bool.and_eq_true_iff.mp z).2⟩) hch E.seen
  obtain ⟨G, k0, k1, k2, k3, k4, k5⟩ := key
  have g0 : S.gens.size = 0 := by simpa using k0
  refine ⟨bootS w ost, a2, rfl, S, ⟨E.run, E.life, Shared.rest_eq E.os, ?_, k2, statics_of_ok L1, k3, k4, k5, gens_of_done L3, names_of_bound L2, laid_of_kept L4⟩, zS, Array.eq_empty_of_size_eq_zero g0, k1, G, H.of w S E.hook⟩
  intro b o hb hn
  exact E.kept b o (Heap.lt_size hb) (fun q => hn (Or.inl q)) (fun q => hn (Or.inr (Or.inl q))) hb

/-- the law, from its top's end and the walk of its call -/
theorem holds_all {l : OpenLaw} {q : Program} {H : Hook} {loose : List PySem.Str} {d : DefRec} (hl : l.writes = false) (hmk : l.row.toRowW.claim.makers = [])
    (e0 : opening l.row.prog = plainProg l.row.prog.main.scope.names) (f0 : ∀ s, fenceModules? l.row.prog s = some s)
    (go : ∀ w ost, (bootS w ost).asleep → ∃ S, EndsAt l.row q H loose w ost S)
    (hdef : defOf q l.row.name = some (d, [])) (hp : l.row.prog.theDef l.row.name = some (d.params, d.body, d.scope)) (hk : kwWritten? d.params.kwonlyargs d.params.kw_defaults = some [])
    (k1 : l.row.wellSaid = true) (ok : (chainsOk q && opensWell l.row.prog && (frees l.row.toRowW && l.row.within.isEmpty)) = true) (hb : l.row.prog.bare) (hw : l.row.toRowW.promised)
    (call : WalkO q loose (XL q []) H.says l.row.toRowW d [] fun f vs => PySem.call f vs) : l.row.Holds := by
  simp only [Bool.and_eq_true] at ok
  obtain ⟨⟨hch, o1⟩, hfr, hwi⟩ := ok
  obtain ⟨hsame, hu, ha, hap, hm⟩ := frees_parts hfr
  have hwi2 : l.row.toRowW.claim.within = [] := List.isEmpty_iff.mp hwi
  refine ⟨k1, hw, ⟨hb, o1, hmk⟩, hw.witness, fun w => ⟨(behind_all e0 f0 hch go w).1, fun s hs => ?_⟩⟩
  obtain ⟨s0, hf, hg0, S, hT, hz, hgS, hns, G9, y⟩ := (behind_all e0 f0 hch go w).2 s hs
  have RF := G9.X.2
  have G0 : Ground q loose [] (XL q []) w S (S.heap.nsMap mainGlobals) (S.heap.nsMap builtinsNs) S.heap := ⟨G9.T, G9.B, G9.D, G9.TE, G9.TD, G9.W, G9.X.1, G9.cls, G9.has, G9.apart, G9.once, G9.K⟩
  have G := RF.ground G0
  refine ⟨s0, hf, hg0, S, hT, ?_, RF.1, RF.2.1, ?_⟩
  · intro n hn
    have e : n = l.row.name := by split at hn <;> simp_all
    subst e
    exact pinned_of_view hns G0 hdef hp hk
  refine ClaimW.callFrom_of_specG (c := l.row.toRowW.claim) hz hgS fun args hpre hlay ord hord => ?_
  obtain ⟨⟨vs, S1⟩, hlaid⟩ := Option.isSome_iff_exists.mp (layAllW_isSome (P := w.params) (ord := ord) G.has args l.row.args S (pre_splitW hpre).1)
  have keeps := layAllW_keeps _ _ _ hlaid
  have rest := layAllW_rest _ _ _ hlaid
  obtain ⟨as, c1, c2, c3⟩ := reads_layAllW hord _ _ _ hlaid hlay S1.heap (fun _ _ e => e)
  have L : Laid l.row.records w S S1 args vs as := ⟨⟨ord, hord, hlaid⟩, c1, c2, c3, keeps, rest.1.trans hgS, rest.2.2.1⟩
  have G1 := G.keeps XL.keeps keeps
  have Y1 := H.keeps w _ _ y keeps
  obtain ⟨a, o, pm, cd, doc, dV, kV, h1, h2, h3, h4, h5⟩ := G1.fn hdef
  have W := call w S S1 _ _ G1 Y1 a o pm cd doc dV kV h2 h3 h4 h5 (defOf_name hdef ▸ h1) L.gens args vs as hpre hlay L.reads L.well (L.low G.low)
  have hi := ident_freeW hu ha hap
  have no : ∀ P : Prop, l.row.writes = true → P := fun P q => by
    have q2 : l.writes = true := q
    rw [hl] at q2
    cases q2
  refine ⟨vs, S1, hlaid, wpAny_bind (wpAny_nsGet G1.T.g ?_)⟩
  rw [h1]
  refine wpAny_bind (wpAny_mono W (fun v s' g => ?_) fun e s' g => ?_)
  · have z := g.laid (c := l.row.toRowW.claim) hsame hwi2 hi L
    exact wpAny_pure ⟨_, rfl, z.1, z.2.1, z.2.2, no _⟩
  · have z := g.laid (c := l.row.toRowW.claim) hsame hwi2 hi L
    exact ⟨z.1, z.2.1, z.2.2, no _⟩
end
end CH
end
section
set_option Elab.async false
set_option linter.all false
set_option maxRecDepth 100000
set_option maxHeartbeats 4000000
namespace CH
open PySem PySem.W PySem.Calls PyProof.Rows HandSHeadRun
abbrev kT (P : Program) (w : World) : HeapKind P w (List L2.Key) := tupleKind (L2.mixKind P w)
/-- a new key into a dict of tuple keys: the state behind it, told exactly -/
theorem dictSet_new {P : Program} {w : World} {A : Around} {E : Value → Shared → Prop} {s : Shared} {d a : Addr} {xs : List (List L2.Key × Addr × Value)} {k : List L2.Key} {v : Value} {Q : Unit → Shared → Prop}
    (hu : A.units < cLine) (hkey : (kT P w).is s.heap k a) (hm : s.heap.DictOfH (kT P w) d xs) (hnot : k ∉ xs.map (·.1)) (hsz : xs.length ≤ 1000)
    (h : Q () { s with heap := s.heap.update d (Obj.mapDictKeys (·.push ⟨(kT P w).hash k, .ref a, v⟩)), toks := s.toks + (kT P w).draws k }) :
    wpAny (model P w) A (dictSet d (.ref a) v) Q E s := by
  obtain ⟨o, es, ep, ho, hc, hd, he, his, hn⟩ := hm
  have hz : es.size ≤ sizeLine := by
    have e := size_of_entries he
    rw [sizeLine_eq]; omega
  unfold dictSet
  refine wpAny_holding (wpAny_bind ((kT P w).pyHash hu hkey ?_))
  unfold dictSetHashed
  refine wpAny_holding (wpAny_bind (wpAny_dictFind_heap (s := { s with toks := s.toks + (kT P w).draws k }) hu hkey ho hd he his hn ?_ ?_))
  · intro _
    exact wpAny_bind (wpAny_rule (wpAny_updateDictKeys (s := { s with toks := s.toks + (kT P w).draws k }) ho hd h hz))
  · intro j p hj
    exact absurd (List.mem_map.mpr ⟨(k, p), List.mem_of_getElem? hj, rfl⟩) hnot

def tupO (k1 k2 : PySem.Str) (t : Nat) : Obj := { cls := .type "tuple", data := .seq #[.str k1 t, .str k2 (t + 1)] }
def keyL (k1 k2 : PySem.Str) : List L2.Key := [.inr k1, .inr k2]
def putS (P : Program) (w : World) (d : Addr) (x : PySem.Str × PySem.Str × Addr) (s : Shared) : Shared :=
  { s with heap := (s.heap.push (tupO x.1 x.2.1 s.toks)).update d (Obj.mapDictKeys (·.push ⟨(kT P w).hash (keyL x.1 x.2.1), .ref s.heap.objs.size, .ref x.2.2⟩)), toks := s.toks + 2 + 3 }

/-- an entry as it is written -/
structure IsItem (env : Env) (mg : PySem.Str → Option Value) (p : Sem Value × Sem Value) (x : PySem.Str × PySem.Str × Addr) : Prop where
  key : ∃ j1 p1 j2 p2 n q, p.1 = eval (.Tuple [.Constant (.str x.1) j1 p1, .Constant (.str x.2.1) j2 p2] n q) env
  val : ∃ f q q2, p.2 = (do let v ← eval (.Name f q) env; standAt q2; pure v) ∧ mg f = some (.ref x.2.2) ∧ (f == ("__debug__" : PySem.Str)) = false

theorem key_wp {P : Program} {w : World} {A : Around} {E : Value → Shared → Prop} {s : Shared} {env : Env} {k1 k2 : PySem.Str} {j1 j2 n : Nat} {p1 p2 q : Pos} {Q : Value → Shared → Prop}
    (h : Q (.ref s.heap.objs.size) { s with heap := s.heap.push (tupO k1 k2 s.toks), toks := s.toks + 2 }) :
    wpAny (model P w) A (eval (.Tuple [.Constant (.str k1) j1 p1, .Constant (.str k2) j2 p2] n q) env) Q E s := by
  refine wpAny_Tuple_spliced ?_
  show wpAny _ _ (spliced [(false, eval (.Constant (.str k1) j1 p1) env), (false, eval (.Constant (.str k2) j2 p2) env)]) _ _ _
  refine spliced_cons (Constant_str (spliced_cons (Constant_str (spliced_nil ?_))))
  exact ⟨by rw [sizeLine_eq]; simp, h⟩

theorem is_key {P : Program} {w : World} {h : Heap} {k1 k2 : PySem.Str} {t : Nat} : (kT P w).is (h.push (tupO k1 k2 t)) (keyL k1 k2) h.objs.size :=
  ⟨tupO k1 k2 t, #[.str k1 t, .str k2 (t + 1)], 0, Heap.get?_push_size h rfl, rfl, rfl, .cons (L2.mixKind_str P w k1 t) (.cons (L2.mixKind_str P w k2 (t + 1)) .nil)⟩

theorem loop_wp {P : Program} {w : World} {A : Around} {E : Value → Shared → Prop} {env : Env} {mg : PySem.Str → Option Value} {d : Addr} (hu : A.units < cLine) (hk : env.scope.kind = .module) (hl : env.locals = env.globals) (hg : env.globals = mainNs) (hd : d ≠ mainNs) :
    ∀ (ps : List (Sem Value × Sem Value)) (its : List (PySem.Str × PySem.Str × Addr)) (xs : List (List L2.Key × Addr × Value)) (s : Shared) (Q : PUnit → Shared → Prop), ps.length = its.length → (∀ (i : Nat) (p : Sem Value × Sem Value) (x : PySem.Str × PySem.Str × Addr), ps[i]? = some p → its[i]? = some x → IsItem env mg p x) →
    s.heap.DictOfH (kT P w) d xs → s.heap.Ns mainNs mg → (xs.map (·.1) ++ its.map fun x => keyL x.1 x.2.1).Nodup → xs.length + its.length ≤ 1000 →
    Q PUnit.unit (its.foldl (fun s x => putS P w d x s) s) →
    wpAny (model P w) A (forIn ps PUnit.unit fun (p : Sem Value × Sem Value) (_ : PUnit) => (do
        let kv ← p.1
        let vv ← holding [kv] p.2
        holding [kv, vv] (dictSet d kv vv)
        pure (ForInStep.yield PUnit.unit) : Sem (ForInStep PUnit))) Q E s
  | [], [], xs, s, Q, _, _, _, _, _, _, h => by
    rw [List.forIn_nil]
    exact wpAny_pure h
  | p :: ps, x :: its, xs, s, Q, hlen, hit, hm, hns, hnd, hz, h => by
    have I := hit 0 p x rfl rfl
    obtain ⟨j1, p1, j2, p2, n, q, ek⟩ := I.key
    obtain ⟨f, q1, q2, ev, hf, hdb⟩ := I.val
    rw [List.forIn_cons]
    refine wpAny_bind (wpAny_bind ?_)
    rw [ek]
    refine key_wp ?_
    -- the heap behind the key
    have k1 : ∀ b o, s.heap.get? b = some o → (s.heap.push (tupO x.1 x.2.1 s.toks)).get? b = some o := fun b o e => Heap.get?_push_of_some _ e
    have ns1 : (s.heap.push (tupO x.1 x.2.1 s.toks)).Ns mainNs mg := hns.keeps k1
    refine wpAny_bind (wpAny_holding ?_)
    rw [ev]
    refine wpAny_bind (Name_module hk hl (loadGlobal_global (s := { s with heap := s.heap.push (tupO x.1 x.2.1 s.toks), toks := s.toks + 2 }) (by rw [hg]; exact ns1) hf (wpAny_bind (wpAny_standAt (wpAny_pure ?_)))) hdb)
    have hm1 : (s.heap.push (tupO x.1 x.2.1 s.toks)).DictOfH (kT P w) d xs := by
      obtain ⟨o, es, ep, ho, hc, hdd, he, his, hn⟩ := hm
      refine ⟨o, es, ep, k1 _ _ ho, hc, hdd, he, fun y hy => ?_, hn⟩
      obtain ⟨ob, it, nn, a1, a2, a3, a4⟩ := his y hy
      exact ⟨ob, it, nn, k1 _ _ a1, a2, a3, a4⟩
    have hnot : keyL x.1 x.2.1 ∉ xs.map (·.1) := by
      intro z
      have := (List.nodup_append.mp hnd).2.2 _ z (keyL x.1 x.2.1) (by simp)
      exact this rfl
    refine wpAny_bind (wpAny_holding (dictSet_new (s := { s with heap := s.heap.push (tupO x.1 x.2.1 s.toks), toks := s.toks + 2 }) hu is_key hm1 hnot (by simp only [List.length_cons] at hz; omega) (wpAny_pure ?_)))
    have hm2 := hm1
    obtain ⟨o, es, ep, ho, hc, hdd, he, his, hn⟩ := hm2
    have sb : Heap.SameBut d (s.heap.push (tupO x.1 x.2.1 s.toks)) ((s.heap.push (tupO x.1 x.2.1 s.toks)).update d (Obj.mapDictKeys (·.push ⟨(kT P w).hash (keyL x.1 x.2.1), .ref s.heap.objs.size, .ref x.2.2⟩))) := Heap.SameBut.update ..
    have hm3 : ((s.heap.push (tupO x.1 x.2.1 s.toks)).update d (Obj.mapDictKeys (·.push ⟨(kT P w).hash (keyL x.1 x.2.1), .ref s.heap.objs.size, .ref x.2.2⟩))).DictOfH (kT P w) d (xs ++ [(keyL x.1 x.2.1, s.heap.objs.size, .ref x.2.2)]) := by
      refine ⟨_, _, ep + 1, Heap.get?_update_self _ ho (Obj.isFreed_of_dict (Obj.data_mapDictKeys hdd _)), hc.mapDictKeys _, Obj.data_mapDictKeys hdd _, ?_, ?_, ?_⟩
      · simp [he, entryOfKey]
      · intro y hy
        rcases List.mem_append.mp hy with hy | hy
        · exact (kT P w).keeps (his y hy) ho hdd sb
        · have e : y = _ := List.mem_singleton.mp hy
          subst e
          exact (kT P w).keeps is_key ho hdd sb
      · rw [List.map_append]
        rw [show ((x :: its).map fun x => keyL x.1 x.2.1) = [keyL x.1 x.2.1] ++ its.map (fun x => keyL x.1 x.2.1) from rfl, ← List.append_assoc] at hnd
        exact (List.nodup_append.mp hnd).1
    refine loop_wp hu hk hl hg hd ps its _ (putS P w d x s) Q (by simpa using hlen) (fun i p' x' a b => hit (i + 1) p' x' (by simpa using a) (by simpa using b)) hm3 (ns1.sameBut sb (Ne.symm hd)) ?_ ?_ h
    · rw [List.map_append]
      simpa [List.append_assoc] using hnd
    · simp only [List.length_append, List.length_cons, List.length_nil] at hz ⊢; omega
  | [], _ :: _, _, _, _, h, _, _, _, _, _, _ => by simp at h
  | _ :: _, [], _, _, _, h, _, _, _, _, _, _ => by simp at h
end CH
end
section
set_option Elab.async false
set_option linter.all false
set_option maxRecDepth 100000
set_option maxHeartbeats 2000000
/-! DIH: the facts of a module of defs and tables, read by a Hook; its tables. -/
namespace DI
open PySem PySem.Spec PyProof.Rows L2
/-- what an object names, a dict's keys too -/
def refsM (o : Obj) : List Addr := He.refsD o ++ match o.data with
  | .dict es _ => es.toList.flatMap fun e => He.refV e.key
  | _ => []
def growM (g : Addr → Option Obj) (as : List Addr) : List Addr := (as ++ as.flatMap fun a => match g a with
  | some o => refsM o
  | none => []).eraseDups
def asM (g : Addr → Option Obj) : Nat → List Addr
  | 0 => [mainGlobals]
  | n + 1 => growM g (asM g n)
/-- a table by texts, by tuples of texts -/
def isLit : Value → Str → Bool
  | .str y _, x => decide (y = x)
  | _, _ => false
def areLit : List Value → List Str → Bool
  | [], [] => true
  | v :: vs, x :: xs => isLit v x && areLit vs xs
  | _, _ => false
def entB (K : PySem.W.Frag) (k : Bool × List Str) (f : Str) (e : DictEntry) : Bool :=
  He.eqO (PySem.W.nsIn K mainGlobals f) (some (some e.val)) && (match e.val with | .ref fa => decide (fa = He.ga K f) | _ => false) &&
  (match k.1, e.key with
  | true, .ref p => (match K.lookup p with
    | some ⟨.type c, _, .seq its _, _⟩ => decide (c = "tuple") && areLit its.toList k.2
    | _ => false)
  | false, v => areLit [v] k.2
  | _, _ => false)
def entsB (K : PySem.W.Frag) : List (D × Str) → List DictEntry → Bool
  | [], [] => true
  | (k, f) :: r, e :: es => (match keyD k with | some q => entB K q f e | none => false) && entsB K r es
  | _, _ => false
def tabB (K : PySem.W.Frag) (d : Str) (tb : List (D × Str)) : Bool :=
  He.eqO (PySem.W.nsIn K mainGlobals d) (some (some (.ref (He.ga K d)))) && !(He.ga K d == sysModules) &&
  (match K.lookup (He.ga K d) with
  | some ⟨.type c, none, .dict es _, sl⟩ => (decide (c = "dict") && sl.isEmpty) && entsB K tb es.toList
  | _ => false)
/-- the hashes that stand there -/
def hashIn (K : PySem.W.Frag) (d : Str) : List Int := match K.lookup (He.ga K d) with
  | some ⟨_, _, .dict es _, _⟩ => es.toList.map (·.hash)
  | _ => []
/-- the hashes that are due -/
def hashOf (P : Program) (w : World) (k : D) : Int := match keyD k with
  | some (true, xs) => (CH.kT P w).hash (xs.map Sum.inr)
  | some (false, [x]) => PyData.keyHash w.params x
  | _ => 0
end DI
end
section
set_option Elab.async false
set_option linter.all false
set_option maxRecDepth 100000
set_option maxHeartbeats 2000000
/-! DIT: the tables. -/
namespace DI
open PySem PySem.Spec PyProof.Rows L2
def kindB (b : Bool) (tb : List (D × Str)) : Bool := !tb.isEmpty && tb.all fun x => match keyD x.1 with | some q => q.1 == b | none => false
theorem strsD_some : ∀ {xs : List D} {ys : List Str}, strsD xs = some ys → xs = ys.map D.str
  | [], ys, h => by simp [strsD] at h; subst h; rfl
  | .str x :: r, ys, h => by
    simp only [strsD, Option.map_eq_some_iff] at h
    obtain ⟨zs, h, rfl⟩ := h
    rw [strsD_some h]; rfl
  | .non :: _, _, h => by simp [strsD] at h
  | .bl _ :: _, _, h => by simp [strsD] at h
  | .int _ :: _, _, h => by simp [strsD] at h
  | .tup _ :: _, _, h => by simp [strsD] at h
  | .lst _ :: _, _, h => by simp [strsD] at h
theorem keyD_f {d : D} {xs : List Str} (h : keyD d = some (false, xs)) : ∃ x, d = .str x ∧ xs = [x] := by
  cases d with
  | str x => simp [keyD] at h; exact ⟨x, rfl, h.symm⟩
  | tup ys => simp [keyD] at h
  | _ => simp [keyD] at h
theorem keyD_t {d : D} {xs : List Str} (h : keyD d = some (true, xs)) : d = .tup (xs.map D.str) := by
  cases d with
  | str x => simp [keyD] at h
  | tup ys =>
    simp only [keyD, Option.map_eq_some_iff] at h
    obtain ⟨zs, h, e⟩ := h
    cases e
    rw [strsD_some h]
  | _ => simp [keyD] at h
/-- what a table's query finds is of its kind -/
theorem dLook_kind {b : Bool} {tb : List (D × Str)} {q : Bool × List Str} {o : Option Str} (k : kindB b tb = true) (h : dLook tb q = some o) : q.1 = b := by
  unfold kindB at k
  rw [Bool.and_eq_true] at k
  obtain ⟨k1, k2⟩ := k
  cases tb with
  | nil => cases k1
  | cons x r =>
    obtain ⟨d, f⟩ := x
    have := List.all_eq_true.mp k2 (d, f) (List.mem_cons_self)
    unfold dLook at h
    cases e : keyD d with
    | none => rw [e] at h; cases h
    | some q' =>
      rw [e] at h
      dsimp only at this h
      rw [e] at this
      by_cases hq : q'.1 = q.1
      · rw [← hq]; exact beq_iff_eq.mp this
      · rw [if_neg hq] at h; cases h
section
variable {P : Program} {w : World} {K : PySem.W.Frag}
theorem isLit_eq {v : Value} {x : Str} (h : isLit v x = true) : ∃ t, v = .str x t := by
  cases v with
  | str y t => exact ⟨t, by rw [of_decide_eq_true (show decide (y = x) = true from h)]⟩
  | _ => cases h
theorem areLit_is : ∀ {vs : List Value} {xs : List Str}, areLit vs xs = true → ItemsAre (L2.mixKind P w) (xs.map Sum.inr) vs
  | [], [], _ => .nil
  | v :: vs, x :: xs, h => by
    unfold areLit at h
    rw [Bool.and_eq_true] at h
    obtain ⟨t, rfl⟩ := isLit_eq h.1
    exact .cons (L2.mixKind_str P w x t) (areLit_is h.2)
  | [], _ :: _, h => by cases h
  | _ :: _, [], h => by cases h
/-- an entry's value -/
theorem ent_val {k : Bool × List Str} {f : Str} {e : DictEntry} (h : entB K k f e = true) : e.val = .ref (He.ga K f) ∧ PySem.W.nsIn K mainGlobals f = some (some (.ref (He.ga K f))) := by
  unfold entB at h
  rw [Bool.and_eq_true, Bool.and_eq_true] at h
  obtain ⟨⟨h1, h2⟩, _⟩ := h
  have h1 := He.eqO_ok h1
  split at h2
  · rename_i fa e1
    have := of_decide_eq_true h2
    rw [this] at e1
    rw [e1] at h1
    exact ⟨e1, h1⟩
  · cases h2
theorem ent_txt {x : Str} {f : Str} {e : DictEntry} (h : entB K (false, [x]) f e = true) : ∃ t, e.key = .str x t := by
  unfold entB at h
  rw [Bool.and_eq_true] at h
  have h2 : areLit [e.key] [x] = true := h.2
  unfold areLit at h2
  rw [Bool.and_eq_true] at h2
  exact isLit_eq h2.1
theorem ent_tup {xs : List Str} {f : Str} {e : DictEntry} (h : entB K (true, xs) f e = true) : ∃ p od its n sl, e.key = .ref p ∧ K.lookup p = some ⟨.type "tuple", od, .seq its n, sl⟩ ∧ areLit its.toList xs = true := by
  unfold entB at h
  rw [Bool.and_eq_true] at h
  obtain ⟨_, h2⟩ := h
  cases ek : e.key with
  | ref p =>
    rw [ek] at h2
    have h3 : (match K.lookup p with
      | some ⟨.type c, _, .seq its _, _⟩ => decide (c = "tuple") && areLit its.toList xs
      | _ => false) = true := h2
    split at h3
    · rename_i c od its n sl hl
      rw [Bool.and_eq_true] at h3
      have := of_decide_eq_true h3.1
      subst this
      exact ⟨p, od, its, n, sl, rfl, hl, h3.2⟩
    · cases h3
  | _ => rw [ek] at h2; cases h2
/-! ### by texts -/
theorem txt_tab : ∀ {tb : List (D × Str)} {es : List DictEntry}, entsB K tb es = true → es.map (·.hash) = tb.map (fun x => hashOf P w x.1) → (tb.all fun x => match keyD x.1 with | some q => q.1 == false | none => false) = true →
    PySem.W.KeysLit w.params es ∧ es.any (·.refKey) = false ∧ ∀ z o, dLook tb (false, [z]) = some o →
      (o = none → es.find? (·.key.isStr z) = none) ∧ ∀ f, o = some f → PySem.W.nsIn K mainGlobals f = some (some (.ref (He.ga K f))) ∧ ∃ e, es.find? (·.key.isStr z) = some e ∧ e.val = .ref (He.ga K f)
  | [], [], _, _, _ => ⟨trivial, rfl, fun z o h => by
      have h' : some (none : Option Str) = some o := h
      cases h'
      exact ⟨fun _ => rfl, fun f e => nomatch e⟩⟩
  | (k, f) :: r, e :: es, h, hh, hk => by
    unfold entsB at h
    rw [Bool.and_eq_true] at h
    obtain ⟨h1, h2⟩ := h
    rw [List.all_cons, Bool.and_eq_true] at hk
    obtain ⟨k1, k2⟩ := hk
    rw [List.map_cons, List.map_cons] at hh
    injection hh with hh1 hh2
    obtain ⟨i1, i2, i3⟩ := txt_tab h2 hh2 k2
    cases q : keyD k with
    | none => rw [q] at h1; cases h1
    | some p =>
      obtain ⟨b, xs⟩ := p
      rw [q] at h1
      dsimp only at k1 h1
      rw [q] at k1
      have hb : b = false := beq_iff_eq.mp k1
      subst hb
      obtain ⟨x, rfl, rfl⟩ := keyD_f q
      obtain ⟨t, hx⟩ := ent_txt h1
      have hv := ent_val h1
      refine ⟨⟨⟨x, t, hx, hh1⟩, i1⟩, ?_, fun z o hl => ?_⟩
      · rw [List.any_cons, i2, Bool.or_false]
        unfold DictEntry.refKey
        rw [hx]
      · unfold dLook at hl
        rw [q] at hl
        dsimp only at hl
        rw [if_pos rfl] at hl
        by_cases hz : [x] = [z]
        · rw [if_pos hz] at hl
          cases hl
          cases hz
          refine ⟨fun e => (nomatch e), fun f' e => ?_⟩
          cases e
          refine ⟨hv.2, e, ?_, hv.1⟩
          rw [List.find?_cons, hx]
          have : Value.isStr (.str x t) x = true := by show (x == x) = true; exact beq_self_eq_true x
          rw [this]
        · rw [if_neg hz] at hl
          have hne : Value.isStr e.key z = false := by
            rw [hx]
            show (x == z) = false
            exact beq_eq_false_iff_ne.mpr fun y => hz (by rw [y])
          rw [List.find?_cons, hne]
          exact i3 z o hl
  | [], _ :: _, h, _, _ => by cases h
  | _ :: _, [], h, _, _ => by cases h
/-! ### by tuples of texts -/
theorem tup_tab : ∀ {tb : List (D × Str)} {es : List DictEntry}, entsB K tb es = true → es.map (·.hash) = tb.map (fun x => hashOf P w x.1) → (tb.all fun x => match keyD x.1 with | some q => q.1 == true | none => false) = true →
    ∃ xs : List (List L2.Key × Addr × Value), es = xs.map (entryOfKey (CH.kT P w)) ∧ xs.map (fun x => some (true, x.1)) = tb.map (fun x => (keyD x.1).map fun q => (q.1, q.2.map (Sum.inr : Str → L2.Key))) ∧
      (∀ h : Heap, K.In h → ∀ x ∈ xs, (CH.kT P w).is h x.1 x.2.1) ∧ ∀ z o, dLook tb (true, z) = some o →
      (o = none → valueAt (pairsH xs) (z.map Sum.inr) = none) ∧ ∀ f, o = some f → PySem.W.nsIn K mainGlobals f = some (some (.ref (He.ga K f))) ∧ valueAt (pairsH xs) (z.map Sum.inr) = some (.ref (He.ga K f))
  | [], [], _, _, _ => ⟨[], rfl, rfl, fun _ _ _ z => (nomatch z), fun z o h => by
      have h' : some (none : Option Str) = some o := h
      cases h'
      exact ⟨fun _ => rfl, fun f e => nomatch e⟩⟩
  | (k, f) :: r, e :: es, h, hh, hk => by
    unfold entsB at h
    rw [Bool.and_eq_true] at h
    obtain ⟨h1, h2⟩ := h
    rw [List.all_cons, Bool.and_eq_true] at hk
    obtain ⟨k1, k2⟩ := hk
    rw [List.map_cons, List.map_cons] at hh
    injection hh with hh1 hh2
    obtain ⟨xs, i1, i2, i3, i4⟩ := tup_tab h2 hh2 k2
    cases q : keyD k with
    | none => rw [q] at h1; cases h1
    | some p =>
      obtain ⟨b, ys⟩ := p
      rw [q] at h1
      dsimp only at k1 h1
      rw [q] at k1
      have hb : b = true := beq_iff_eq.mp k1
      subst hb
      obtain ⟨p, od, its, n, sl, hx, hl, ha⟩ := ent_tup h1
      have hv := ent_val h1
      refine ⟨(ys.map Sum.inr, p, e.val) :: xs, ?_, ?_, fun hp KX x hm => ?_, fun z o hlk => ?_⟩
      · rw [List.map_cons, ← i1]
        congr 1
        show e = ⟨_, _, _⟩
        unfold hashOf at hh1
        rw [q] at hh1
        obtain ⟨eh, ek, ev⟩ := e
        dsimp only at hx hh1
        rw [hx, hh1]
      · rw [List.map_cons, List.map_cons, i2, q]; rfl
      · rcases List.mem_cons.mp hm with rfl | hm
        · exact ⟨_, its, n, KX _ _ hl, rfl, rfl, areLit_is ha⟩
        · exact i3 hp KX x hm
      · unfold dLook at hlk
        rw [q] at hlk
        dsimp only at hlk
        rw [if_pos rfl] at hlk
        show (o = none → ((((ys.map Sum.inr, e.val) :: pairsH xs).find? fun kv => decide (kv.1 = z.map Sum.inr)).map (·.2)) = none) ∧ _
        by_cases hz : ys = z
        · rw [if_pos hz] at hlk
          cases hlk
          subst hz
          refine ⟨fun e => (nomatch e), fun f' e' => ?_⟩
          cases e'
          refine ⟨hv.2, ?_⟩
          show ((((ys.map Sum.inr, e.val) :: pairsH xs).find? fun kv => decide (kv.1 = ys.map Sum.inr)).map (·.2)) = _
          rw [List.find?_cons, decide_eq_true rfl]
          exact congrArg some hv.1
        · rw [if_neg hz] at hlk
          have hne : decide ((ys.map Sum.inr : List L2.Key) = z.map Sum.inr) = false := decide_eq_false fun y => hz ((List.map_inj_right fun _ _ q => Sum.inr.inj q).mp y)
          have e0 : (((ys.map Sum.inr, e.val) :: pairsH xs).find? fun kv => decide (kv.1 = z.map Sum.inr)) = (pairsH xs).find? fun kv => decide (kv.1 = z.map Sum.inr) := by rw [List.find?_cons, hne]
          refine ⟨fun e => by rw [e0]; exact (i4 z o hlk).1 e, fun f' e' => ?_⟩
          refine ⟨((i4 z o hlk).2 f' e').1, ?_⟩
          show ((((ys.map Sum.inr, e.val) :: pairsH xs).find? fun kv => decide (kv.1 = z.map Sum.inr)).map (·.2)) = _
          rw [e0]
          exact ((i4 z o hlk).2 f' e').2
  | [], _ :: _, h, _, _ => by cases h
  | _ :: _, [], h, _, _ => by cases h
theorem reps_strs {H : Hp} : ∀ {xs : List Str} {vs : List V}, Reps K H (xs.map D.str) vs → vs = (xs.map (Sum.inr : Str → L2.Key)).map L2.kV
  | [], vs, h => by unfold Reps at h; exact h
  | x :: r, vs, h => by
    rw [List.map_cons] at h
    unfold Reps at h
    obtain ⟨v, q, rfl, h1, h2⟩ := h
    rw [Rep.str.mp h1, reps_strs h2]; rfl
theorem key_is {X : Cx} {pins : List (Addr × Obj)} {σ : L2.St} {H : Hp} {s : Shared} {a : Addr} {vs : List V} {ks : List L2.Key} (I : Inv X pins σ H s) (h : SqT X.K H a vs) (e : vs = ks.map L2.kV) : (CH.kT X.prog X.w).is s.heap ks a := by
  obtain ⟨its, r, tp, _⟩ := I.tuple h
  subst e
  obtain ⟨o, h1, h2, n, h3⟩ := tp
  exact ⟨o, its.toArray, n, h1, h2, h3, by simpa using L2.items_are r⟩
/-- a table of the module -/
theorem dic_ok {mg : Str → Option Value} {h0 : Heap} {b : Bool} {d : Str} {tb : List (D × Str)} (KX : K.In h0) (GX : h0.Ns mainGlobals mg) (t : tabB K d tb = true) (hh : hashIn K d = tb.map fun x => hashOf P w x.1)
    (hk : kindB b tb = true) (nd : (tb.map fun x => keyD x.1).Nodup) : DicOk P w K mg d tb := by
  unfold tabB at t
  rw [Bool.and_eq_true, Bool.and_eq_true] at t
  obtain ⟨⟨t1, t2⟩, t3⟩ := t
  have t1 := He.eqO_ok t1
  have low : (He.ga K d == sysModules) = false := by simpa using t2
  have hkk := (Bool.and_eq_true_iff.mp (show (_ && _) = true from hk)).2
  unfold hashIn at hh
  split at t3
  · rename_i c es n sl hl
    rw [Bool.and_eq_true, Bool.and_eq_true] at t3
    obtain ⟨⟨c1, c3⟩, c2⟩ := t3
    have := of_decide_eq_true c1
    subst this
    have := Array.isEmpty_iff.mp c3
    subst this
    rw [hl] at hh
    dsimp only at hh
    refine ⟨He.ga K d, PySem.W.mg_of KX GX t1, fun X hP hw hK hu H k v o hr hg => ?_⟩
    subst hP hw hK
    unfold dGet at hg
    cases q : keyD k with
    | none => rw [q] at hg; cases hg
    | some p =>
      obtain ⟨b', xs⟩ := p
      rw [q] at hg
      dsimp only at hg
      have hb : b' = b := dLook_kind hk hg
      subst hb
      cases b' with
      | false =>
        obtain ⟨z, rfl, rfl⟩ := keyD_f q
        obtain ⟨i1, i2, i3⟩ := txt_tab (P := X.prog) c2 hh hkk
        have hv := Rep.str.mp hr
        subst hv
        have D0 : KDict X.K X.w (He.ga X.K d) es n := ⟨hl, i1, low⟩
        have hns : ∀ o : Option Str, dLook tb (false, [z]) = some o → PySem.W.nsIn X.K (He.ga X.K d) z = some (o.map fun f => Value.ref (He.ga X.K f)) := fun o ho => by
          obtain ⟨j1, j2⟩ := i3 z o ho
          unfold PySem.W.nsIn
          rw [hl]
          dsimp only
          cases o with
          | none => rw [j1 rfl]; dsimp only; rw [i2]; rfl
          | some f =>
            obtain ⟨_, e, e1, e2⟩ := j2 f rfl
            rw [e1]; dsimp only; rw [e2]; rfl
        refine ⟨fun Q hq => ?_, fun Q hq => ?_, fun f hf => ?_⟩
        · exact rop.of (op_in_kd D0) ⟨z, _, rfl, rfl, hns o hg, by cases o <;> exact hq⟩
        · exact rop.of (op_notIn_kd D0) ⟨z, _, rfl, rfl, hns o hg, by cases o <;> exact hq⟩
        · subst hf
          exact ⟨He.ga X.K f, PySem.W.mg_of KX GX ((i3 z _ hg).2 f rfl).1, fun Q hq => rix.of ix_kdict ⟨_, z, .ref (He.ga X.K f), rfl, rfl, ⟨es, n, _, hl, i1, hns _ hg, rfl⟩, hq⟩⟩
      | true =>
        have hkd := keyD_t q
        subst hkd
        obtain ⟨ys, i1, i2, i3, i4⟩ := tup_tab (P := X.prog) (w := X.w) c2 hh hkk
        obtain ⟨a, vs, rfl, hs, hrs⟩ := Rep.tup.mp hr
        have hvs := reps_strs hrs
        have nd2 : (ys.map (·.1)).Nodup := by
          have e : (ys.map fun x => some (true, x.1)) = (ys.map (·.1)).map fun x => some (true, x) := by rw [List.map_map]; rfl
          have : ((ys.map (·.1)).map fun x => some (true, x)).Nodup := by
            rw [← e, i2]
            have e2 : (tb.map fun x => (keyD x.1).map fun q => (q.1, q.2.map (Sum.inr : Str → L2.Key))) = (tb.map fun x => keyD x.1).map (Option.map fun q => (q.1, q.2.map (Sum.inr : Str → L2.Key))) := by rw [List.map_map]; rfl
            rw [e2]
            refine List.Pairwise.map _ (fun x y hxy z => hxy ?_) nd
            cases x with
            | none => cases y with | none => rfl | some _ => cases z
            | some x => cases y with
              | none => cases z
              | some y =>
                have z := Option.some.inj z
                obtain ⟨z1, z2⟩ := Prod.mk.inj z
                exact congrArg some (Prod.ext z1 ((List.map_inj_right fun _ _ q => Sum.inr.inj q).mp z2))
          exact (List.pairwise_map.mp this).imp fun hxy z => hxy (by rw [z])
        have dk : ∀ s : Shared, X.K.In s.heap → s.heap.DictKeyed (CH.kT X.prog X.w) (He.ga X.K d) (pairsH ys) := fun s KS =>
          ⟨ys, ⟨_, es, n, KS _ _ hl, ⟨rfl, rfl, rfl⟩, rfl, i1, i3 _ KS, nd2⟩, rfl⟩
        have ht : ∀ o : Option Str, dLook tb (true, xs) = some o → (valueAt (pairsH ys) (xs.map Sum.inr)).isSome = o.isSome := fun o ho => by
          obtain ⟨j1, j2⟩ := i4 xs o ho
          cases o with
          | none => rw [j1 rfl]; rfl
          | some f => rw [(j2 f rfl).2]; rfl
        refine ⟨fun Q hq => fun pins s σ vv uu I rv ru => ?_, fun Q hq => fun pins s σ vv uu I rv ru => ?_, fun f hf => ?_⟩
        · cases rv; cases ru
          exact in_keyed (show X.A.units + 1 < cLine by omega) (key_is I hs hvs) low (dk s I.kIn) ⟨.bl _, H, I.tok _, rfl, by rw [ht o hg]; exact hq⟩
        · cases rv; cases ru
          exact notIn_keyed (show X.A.units + 1 < cLine by omega) (key_is I hs hvs) low (dk s I.kIn) ⟨.bl _, H, I.tok _, rfl, by rw [ht o hg]; exact hq⟩
        · subst hf
          obtain ⟨j1, j2⟩ := (i4 xs _ hg).2 f rfl
          refine ⟨He.ga X.K f, PySem.W.mg_of KX GX j1, fun Q hq => fun value slice pins s σ vv uu I rv ru hs2 => ?_⟩
          cases rv; cases ru
          exact tail_any (dk s I.kIn).typeIs slot_dict_getitem.lookup (getItem_keyed (show X.A.units + 1 < cLine by omega) (key_is I hs hvs) (dk s I.kIn) j2 ⟨.ref _, H, I.tok _, rfl, hq⟩) hs2
  · cases t3
end
end DI
end
section
set_option Elab.async false
set_option linter.all false
set_option maxRecDepth 100000
set_option maxHeartbeats 2000000
/-! DIM: the Hook over a module of defs, tables, constants. -/
namespace DI
open PySem PySem.Spec PyProof.Rows L2
abbrev TabM : Type := Str × Bool × List (D × Str)
abbrev AlM : Type := Bool × List He.FnW × List (List Int)
def obsM (chk : PySem.W.Frag → Bool) (fn : List He.DefD) (ts : List TabM) (K : PySem.W.Frag) : AlM := (chk K && fn.all fun d => d.ok K, fn.map fun d => He.fnW K d.at_, ts.map fun t => hashIn K t.1)
def valM (P : Program) (fn : List He.DefD) (ts : List TabM) (w : World) : AlM := (true, fn.map He.DefD.val, ts.map fun t => t.2.2.map fun x => hashOf P w x.1)
def obsMG (n : Nat) (chk : PySem.W.Frag → Bool) (fn : List He.DefD) (ts : List TabM) (g : Addr → Option Obj) : AlM := obsM chk fn ts (He.frG g (asM g n))
def SaysM (P : Program) (chk : PySem.W.Frag → Bool) (fn : List He.DefD) (ts : List TabM) (w : World) (K : PySem.W.Frag) : Prop := obsM chk fn ts K = valM P fn ts w
def hookM (P : Program) (n : Nat) (chk : PySem.W.Frag → Bool) (fn : List He.DefD) (ts : List TabM) : PySem.W.Hook where
  α := AlM
  obs := fun s => obsMG n chk fn ts s.heap.get?
  val := fun w => valM P fn ts w
  says := fun w h => ∃ K : PySem.W.Frag, K.In h ∧ SaysM P chk fn ts w K
  of := fun _ _ e => ⟨_, He.frG_in, e⟩
  keeps := fun _ _ _ ⟨K, hK, c⟩ k => ⟨K, PySem.W.Frag.In.keeps hK k, c⟩
theorem obsMG_eq {P : Program} {n : Nat} {chk : PySem.W.Frag → Bool} {fn : List He.DefD} {ts : List TabM} {g : Addr → Option Obj} {s : Shared} (h : ∀ a, g a = s.heap.get? a) : obsMG n chk fn ts g = (hookM P n chk fn ts).obs s := by
  rw [show g = s.heap.get? from funext h] <;> rfl
section
variable {P : Program} {chk : PySem.W.Frag → Bool} {fn : List He.DefD} {ts : List TabM} {w : World} {K : PySem.W.Frag}
theorem SaysM.look (c : SaysM P chk fn ts w K) : chk K = true := (He.ba (show (chk K && fn.all fun d => d.ok K) = true from congrArg (fun z : AlM => z.1) c)).1
theorem SaysM.def_ (c : SaysM P chk fn ts w K) (i : Nat) {d : He.DefD} (h : fn[i]? = some d) : ∃ fd, FunD K d.name d.qual d.params d.body d.scope (d.dvs K) (d.kws K) (He.fAd K d.at_) fd := by
  have c2 := (He.ba (show (chk K && fn.all fun d => d.ok K) = true from congrArg (fun z : AlM => z.1) c)).2
  have e : fn.map (fun d => He.fnW K d.at_) = fn.map He.DefD.val := congrArg (fun z : AlM => z.2.1) c
  have e2 : (fn.map fun d => He.fnW K d.at_)[i]? = (fn.map He.DefD.val)[i]? := by rw [e]
  rw [List.getElem?_map, List.getElem?_map, h] at e2
  exact He.DefD.funD (Option.some.inj e2) (List.all_eq_true.mp c2 d (List.mem_of_getElem? h))
theorem SaysM.tab (c : SaysM P chk fn ts w K) {t : TabM} (h : t ∈ ts) : hashIn K t.1 = t.2.2.map fun x => hashOf P w x.1 := by
  have e : ts.map (fun t => hashIn K t.1) = ts.map fun t => t.2.2.map fun x => hashOf P w x.1 := congrArg (fun z : AlM => z.2.2) c
  obtain ⟨i, hi, rfl⟩ := List.mem_iff_getElem.mp h
  have e2 : (ts.map fun t => hashIn K t.1)[i]? = (ts.map fun t => t.2.2.map fun x => hashOf P w x.1)[i]? := by rw [e]
  rw [List.getElem?_map, List.getElem?_map, List.getElem?_eq_getElem hi] at e2
  exact Option.some.inj e2
end
/-! ### constants -/
mutual
def repB (K : PySem.W.Frag) : D → Value → Bool
  | .non, .none => true
  | .bl b, .bool c => decide (b = c)
  | .int i, .int j _ => decide (i = j)
  | .str x, .str y _ => decide (x = y)
  | .tup ds, .ref a => (match K.lookup a with
    | some ⟨.type c, _, .seq its _, _⟩ => (decide (c = "tuple") && decide (its.size ≤ LIM)) && repsB K ds its.toList
    | _ => false)
  | _, _ => false
def repsB (K : PySem.W.Frag) : List D → List Value → Bool
  | [], [] => true
  | d :: ds, u :: us => repB K d u && repsB K ds us
  | _, _ => false
end
mutual
theorem repB_ok {K : PySem.W.Frag} {H : Hp} : ∀ {d : D} {u : Value}, repB K d u = true → ∃ v, RelV v u ∧ Rep K H d v
  | .non, u, h => by cases u <;> first | (unfold repB at h; cases h; done) | exact ⟨.non, rfl, Rep.non.mpr rfl⟩
  | .bl b, u, h => by
    cases u with
    | bool c => unfold repB at h; have := of_decide_eq_true h; subst this; exact ⟨.bl b, rfl, Rep.bl.mpr rfl⟩
    | _ => unfold repB at h; cases h
  | .int i, u, h => by
    cases u with
    | int c t => unfold repB at h; have := of_decide_eq_true h; subst this; exact ⟨.int i, ⟨t, rfl⟩, Rep.int.mpr rfl⟩
    | _ => unfold repB at h; cases h
  | .str i, u, h => by
    cases u with
    | str c t => unfold repB at h; have := of_decide_eq_true h; subst this; exact ⟨.str i, ⟨t, rfl⟩, Rep.str.mpr rfl⟩
    | _ => unfold repB at h; cases h
  | .tup ds, u, h => by
    cases u with
    | ref a =>
      unfold repB at h
      split at h
      · rename_i c od its n sl hl
        rw [Bool.and_eq_true, Bool.and_eq_true] at h
        obtain ⟨⟨h1, h2⟩, h3⟩ := h
        have := of_decide_eq_true h1
        subst this
        obtain ⟨vs, r1, r2⟩ := repsB_ok (H := H) h3
        exact ⟨.ref a, rfl, Rep.tup.mpr ⟨a, vs, rfl, .inr ⟨_, its, n, hl, rfl, rfl, Nat.le_trans (of_decide_eq_true h2) lim_line, r1⟩, r2⟩⟩
      · cases h
    | _ => unfold repB at h; cases h
  | .lst ds, u, h => by unfold repB at h; cases h
theorem repsB_ok {K : PySem.W.Frag} {H : Hp} : ∀ {ds : List D} {us : List Value}, repsB K ds us = true → ∃ vs, Vals vs us ∧ Reps K H ds vs
  | [], [], _ => ⟨[], .nil, Reps.nil⟩
  | d :: ds, u :: us, h => by
    unfold repsB at h
    rw [Bool.and_eq_true] at h
    obtain ⟨v, a1, a2⟩ := repB_ok (H := H) h.1
    obtain ⟨vs, b1, b2⟩ := repsB_ok (H := H) h.2
    exact ⟨v :: vs, .cons a1 b1, Reps.cons a2 b2⟩
  | [], _ :: _, h => by unfold repsB at h; cases h
  | _ :: _, [], h => by unfold repsB at h; cases h
end
def conB (K : PySem.W.Frag) (n : Str) (d : D) : Bool := match PySem.W.nsIn K mainGlobals n with
  | some (some u) => repB K d u
  | _ => false
theorem conB_ok {K : PySem.W.Frag} {h : Heap} {mg : Str → Option Value} {n : Str} {d : D} (KX : K.In h) (GX : h.Ns mainGlobals mg) (c : conB K n d = true) : ∃ u v, mg n = some u ∧ RelV v u ∧ Rep K (fun _ => none) d v := by
  unfold conB at c
  split at c
  · rename_i u e
    obtain ⟨v, h1, h2⟩ := repB_ok (H := fun _ => none) c
    exact ⟨u, v, PySem.W.mg_of KX GX e, h1, h2⟩
  · cases c
end DI
end
section
set_option Elab.async false
set_option linter.all false
set_option maxRecDepth 100000
set_option maxHeartbeats 2000000
/-! DIX: an own exception over own classes over ValueError, whose __init__ says super().__init__(word, place) and keeps both. -/
namespace DI
open PySem PySem.Spec PyProof.Rows L2
section
open PySem.W PySem.Calls
variable {prog : Program} {w : World} {A : Around} {E : Value → Shared → Prop} {h : Heap} {g : Array GenState} {d : Drawn} {t : Nat} {os : OsState}
variable {nm q : Str} {C N : Addr} {bs bm : List Value} {hdct : Bool} {sn : List Str} {sub : List Value} {ab : Bool} {col : Option Bool} {dd : Option Addr} {k0 k1 k2 k3 k5 : Option Value}
theorem call_mw {u e t0 : Addr} {rest : List Value} {Q : Value → Shared → Prop}
    (hC : h.get? C = some (excClassObj nm q C N bs bm hdct sn sub ab col dd k0 k1 k2 k3 k5 "ValueError.__new__")) (he : h.get? e = some (HandSPX.excO C t0)) (hu : h.get? u = some (kxs_mw "ValueError.__init__" e)) (hrest : rest.length ≤ sizeLine)
    (hq : ∀ h' t1, (∀ b o, b ≠ e → h.get? b = some o → h'.get? b = some o) → h'.get? e = some (HandSPX.excO C t1) → Q .none ⟨h', g, d, t, os⟩) :
    wpAny (model prog w) A (call (.ref u) rest) Q E ⟨h, g, d, t, os⟩ := by
  refine wpAny_call (codeAny_of_tree ?_)
  show wpAny _ A.in1 (callAny (.ref u) ⟨rest, []⟩) _ _ _
  simp only [callAny]
  refine wpAny_bind (wpAny_load hu ?_)
  simp only [kxs_mw, show (Value.type "method-wrapper" == Value.type "method" || Value.type "method-wrapper" == Value.type "builtin_function_or_method" || Value.type "method-wrapper" == Value.type "method-wrapper") = true by decide, if_true]
  refine W.KFB.if_so (by decide) ?_
  refine wpAny_bind (check_bound_init F.excBase_ValueError.toExcCallFacts hC he rfl ?_)
  refine wpAny_bind (wpAny_pure (wpAny_pure ?_))
  refine ⟨Code.quiet_builtin _ (by decide +kernel), codeAny_builtin F.excBase_ValueError.initEntry ?_⟩
  rw [Around.under_plainId F.excBase_ValueError.init.plain _]
  wp_walk
  refine hq _ h.objs.size (fun b o hb ho => ?_) ?_
  · rw [Heap.get?_update_other _ _ (Ne.symm hb)]
    exact Heap.get?_push_of_some _ ho
  · rw [Heap.get?_update_self _ (Heap.get?_push_of_some _ he) rfl]
    rfl
end
end DI
namespace DI
open PySem PySem.Spec PyProof.Rows L2 NdefX
theorem mcall2 {o e1 e2 : Expr} {name : Str} {apos pos : Pos} {env : Env} (hl : (apos.endLine == pos.line) = true) (h1 : plainE e1 = true) (h2 : plainE e2 = true) :
    eval (.Call (.Attribute o name apos) [e1, e2] [] pos) env = (do
      let ov ← attributeBase o name env (eval o env)
      standAt apos.atName
      let (f, first) ← holding [ov] (getMethod ov name (do return (← importBound o env).getD true))
      callWith pos f first (backTo pos (starEach [e1, e2] env)) []) := by
  show (do
      let ov ← attributeBase o name env (eval o env)
      standAt apos.atName
      methodCall o name apos pos env ov 2 (backTo pos (starEach [e1, e2] env)) []) = _
  rw [star_plain h1, star_plain h2]
  unfold methodCall calleeOf methodCallPos
  rw [show methodCallForm 2 (backTo pos ((false, eval e1 env) :: (false, eval e2 env) :: starEach [] env)) [] = true from rfl, hl]
  rfl
/-- what is known of the class and of its __init__ -/
structure IniF (P : Program) (K : PySem.W.Frag) (C fI cc cda : Addr) (nm qual : Str) (params : Arguments) (body : List Stmt) (scope : Scope) (N ps : List Str) : Prop where
  oex : OexC K C
  lk : ∃ oc od dV kV doc pm an ct osl, K.lookup fI = some ⟨oc, od, .func (PySem.W.ksFn nm qual params body scope dV kV doc pm an (.ref cda) ct cc), osl⟩ ∧
    ∀ (s : Shared) (us : List Value), us.length = ps.length → BindsTo s (PySem.W.ksFn nm qual params body scope dV kV doc pm an (.ref cda) ct cc) ⟨us, []⟩ (ps.zip us)
  cd : PySem.W.codeIn K (.ref cda) qual = true
  sc : NScope N ps ["__class__"] scope
  cell : ∃ cl cld csl, K.lookup cc = some ⟨cl, cld, .cell (some (.ref C)), csl⟩
  code : ∃ ccl cdd vs ccs file tf, K.lookup cda = some ⟨ccl, cdd, .fields vs, ccs⟩ ∧ vs[2]? = some (.str file tf) ∧ ((P.main.file : Str) == file) = true
  sup : PySem.W.ks_superIn K C C "__init__" = some (some (.builtin "ValueError.__init__"))
  any : PySem.W.nsIn K cStatics "thirdparty.any" = some none
  free : PySem.W.nsIn K mainGlobals "super" = some none
  mro : PySem.W.mroIn K C (.ref C) = some true
  sub : PySem.W.subIn K (.ref C) (.type "ValueError") = some true
  ks : scope.names.lookup ("super" : Str) = some .globalImplicit
  top : (P.main.scope.names.lookup ("super" : Str)).isSome = false
  hp : ∃ ar, (params.posonlyargs ++ params.args).head? = some ar ∧ ar.arg = "self"
  iC : PySem.W.findIn K (.ref C) "__init__" = some (some (.ref fI))
  tI : PySem.W.typeIn K (.ref fI) = some (.type "function")
/-- its promise -/
def spIni (C : Addr) (w1 w2 : Str) : Sp := fun vs H Q _ => ∃ (a : Addr) (x y : V), vs = [.ref a, x, y] ∧ H a = some (exo a C none) ∧ ∀ d, H d = none → d ≠ a →
  Q .non (upd (upd (upd H d (exd d [(w1, x)])) a (exo a C (some d))) d (exd d [(w2, y), (w1, x)]))
section
variable {P : Program} {w : World} {K : PySem.W.Frag} {mg : Str → Option Value} {base : Heap} {CX : CXT} {k : Nat} {C fI cc cda : Addr} {nm qual : Str} {params : Arguments} {scope : Scope} {N : List Str}
theorem init_fn {w1 w2 : Str} {p0 p1 p2 p3 p4 p5 p6 p7 p8 p9 pa pb pc pd pe : Pos} {rN : List Str}
    (F : IniF P K C fI cc cda nm qual params
      [.Expr (.Call (.Attribute (.Call (.Name "super" p0) [] [] p1) "__init__" p2) [.Name w1 p3, .Name w2 p4] [] p5) p6,
       .Assign [.Attribute (.Name "self" p7) w1 p8] (.Name w1 p9) pa, .Assign [.Attribute (.Name "self" pb) w2 pc] (.Name w2 pd) pe] scope ("self" :: w1 :: w2 :: rN) ["self", w1, w2])
    (hl : (p2.endLine == p5.line) = true) (hd1 : (w1 == ("__debug__" : Str)) = false) (hd2 : (w2 == ("__debug__" : Str)) = false) (hc1 : (w1 == ("__classdict__" : Str)) = false) (hc2 : (w2 == ("__classdict__" : Str)) = false)
    (n1 : PySem.W.findIn K (.ref C) w1 = some none) (n2 : PySem.W.findIn K (.ref C) w2 = some none) :
    ∃ fd, FnOk P w K mg base CX (k + 1) fI fd ["self", w1, w2] (spIni C w1 w2) ∧ Binds K fd ["self", w1, w2] [] := by
  obtain ⟨oc, od, dV, kV, doc, pm, an, ct, osl, lk, hb0⟩ := F.lk
  refine ⟨_, ⟨fun vs H Q E h => ?_, fun A outer s H args us vs Q E hr e0 hb r hsp => ?_⟩, fun s us _ hl => (by rw [List.append_nil] at hl ⊢; exact hb0 s us hl)⟩
  · obtain ⟨a, x, y, rfl, _⟩ := h; rfl
  obtain ⟨a, x, y, rfl, ea, hq⟩ := hsp
  have KX : K.In s.heap := e0.mod.kin.keeps fun b o e => (e0.bs b o e).1
  have lim : s.heap.NoLimit := e0.mod.nolimit.keeps fun b o e => (e0.bs b o e).1
  have S := F.sc
  obtain ⟨cl, cld, csl, hcell⟩ := F.cell
  obtain ⟨ccl, cdd, cvs, ccs, file, tf, hcode, hvs, hfile⟩ := F.code
  obtain ⟨ar, har, harn⟩ := F.hp
  have hlu : us.length = 3 := r.length.symm
  refine ks_codeAny_call_defAt hr.depth (KX _ _ lk) rfl lim (PySem.W.codeRec_of KX F.cd) rfl hb S.nocell (fun y hy => S.par _ (List.of_mem_zip (show (y.1, y.2) ∈ (["self", w1, w2] : List Str).zip us from hy)).1) (fun h₁ hns kp => ?_) S.co S.gen S.kind
  let NFa : NF := ⟨nm, qual, params, [.Expr (.Call (.Attribute (.Call (.Name "super" p0) [] [] p1) "__init__" p2) [.Name w1 p3, .Name w2 p4] [] p5) p6,
       .Assign [.Attribute (.Name "self" p7) w1 p8] (.Name w1 p9) pa, .Assign [.Attribute (.Name "self" pb) w2 pc] (.Name w2 pd) pe], scope, [("__class__", cc)], cda⟩
  let X := ncx CX P w K mg base ("self" :: w1 :: w2 :: rN) NFa fI A outer s H E
  have Hcc : H cc = none := (e0.bs cc _ (e0.mod.kin _ _ hcell)).2
  have cells : CellsAt NFa.cl ["__class__"] [some (.ref C)] s.heap H := by
    have e1 : ∀ y c, NFa.cl.lookup y = some c → y = "__class__" ∧ c = cc := fun y c h => by
      have h : (match y == ("__class__" : Str) with | true => some cc | false => none) = some c := h
      cases q : y == ("__class__" : Str) with
      | true => rw [q] at h; cases h; exact ⟨beq_iff_eq.mp q, rfl⟩
      | false => rw [q] at h; cases h
    refine ⟨rfl, fun y c h => ?_, fun x y c h1 h2 => ?_, fun i y h => ?_⟩
    · obtain ⟨_, rfl⟩ := e1 y c h
      exact ⟨Hcc, _, _, KX _ _ hcell, rfl⟩
    · rw [(e1 x c h1).1, (e1 y c h2).1]
    · cases i with
      | succ i => simp at h
      | zero =>
        simp at h; subst h
        refine ⟨cc, rfl, fun v hv => ?_⟩
        simp at hv; subst hv
        exact ⟨.ref C, rfl, _, KX _ _ hcell, rfl⟩
  have I : Inv X [] (startF ("self" :: w1 :: w2 :: rN) [.ref a, x, y] [some (.ref C)]) H { s with heap := h₁, toks := s.toks + ((["self", w1, w2] : List Str).zip us).length } := inv_startN S hr.hd e0 rfl r cells hns kp
  let EV := envF NFa fI s.heap.objs.size
  show PySem.wpAt (model P w) (A.deeper EV) (.func NFa.body EV) (execs NFa.body EV) _ _ _
  -- super().__init__(w1, w2)
  have back : ∀ (s' : Shared), Inv X [] (startF ("self" :: w1 :: w2 :: rN) [.ref a, x, y] [some (.ref C)]) H s' →
      wpAny (model P w) (A.deeper EV) (execs [.Assign [.Attribute (.Name "self" p7) w1 p8] (.Name w1 p9) pa, .Assign [.Attribute (.Name "self" pb) w2 pc] (.Name w2 pd) pe] EV)
        (fun f s' => CR CX outer P w H s Q E (.ok (.ret (match f with | .ret v => v | _ => .none))) s') X.xe s' := by
    intro s' I'
    have T : OexC X.K C := F.oex
    have v0 : Vis X.env.scope "self" := .inl (S.par _ (by simp))
    have v1 : Vis X.env.scope w1 := .inl (S.par _ (by simp))
    have v2 : Vis X.env.scope w2 := .inl (S.par _ (by simp))
    have PX := pss_cons (ps_ost (X := X) (f := w1) (p' := p8) (pos := pa) (pe_var (i := 0) (pos := p7) rfl v0) (pe_var (i := 1) (pos := p9) rfl v1 hd1 hc1))
      (pss_one (ps_ost (X := X) (f := w2) (p' := pc) (pos := pe) (pe_var (i := 0) (pos := pb) rfl v0) (pe_var (i := 2) (pos := pd) rfl v2 hd2 hc2)))
    refine wpAny_mono (PX.run [] s' _ H { nx := fun _ H' => Q .non H', rt := Q } I' ?_) (fun fl s'' hs => ?_) fun _ _ z => z
    · refine ⟨x, rfl, .ref a, rfl, a, C, rfl, T, n1, .inl ⟨ea, fun dx nd ne => ?_⟩⟩
      refine ⟨y, rfl, .ref a, rfl, a, C, rfl, T, n2, .inr ⟨dx, [(w1, x)], upd_same, ?_, by simp, ?_⟩⟩
      · rw [upd_ne ne, upd_same]
      · exact hq dx nd ne
    · cases fl with
      | ret u => obtain ⟨v, σ', H', J, rv, q⟩ := hs; exact ⟨v, H', J.os, J.bare, J.base, J.hok, rv, q⟩
      | next => obtain ⟨σ', H', J, q⟩ := hs; exact ⟨V.non, H', J.os, J.bare, J.base, J.hok, rfl, q⟩
      | brk => obtain ⟨_, _, _, q⟩ := hs; exact (show False from q).elim
      | cont => obtain ⟨_, _, _, q⟩ := hs; exact (show False from q).elim
  have g1 : h₁.Ns mainGlobals mg := (e0.mod.glob.keeps fun b o e => (e0.bs b o e).1).keeps kp
  obtain ⟨mb, b1, b2⟩ := e0.mod.blt
  have g2 : h₁.Ns builtinsNs mb := (b1.keeps fun b o e => (e0.bs b o e).1).keeps kp
  obtain ⟨cnm, cq, cN, cbs, cbm, csn, csub, cab, ccol, cdd', ck0, ck1, ck2, ck3, ck5, hC, hbm⟩ := F.oex.cls
  obtain ⟨t1, hea⟩ := exo_at e0.hok ea
  have K1 : K.In h₁ := KX.keeps kp
  obtain ⟨u0, u1, u2, rfl⟩ : ∃ u0 u1 u2, us = [u0, u1, u2] := by
    match us, hlu with
    | [u0, u1, u2], _ => exact ⟨_, _, _, rfl⟩
  cases r with | cons r0 r' =>
  obtain rfl : u0 = Value.ref a := r0
  refine ks_wpAt_execs_cons (ks_wpAt_Expr_any (hi := I.quiet) (ks_wpAt_MethodCall (ks_wpAt_super_base (env := EV) F.ks (S.frk _ (by simp)) (by decide) rfl (kp _ _ (KX _ _ lk)) rfl har rfl (kp _ _ (KX _ _ hcode)) rfl hvs hfile F.top ?_) (mcall2 hl rfl rfl)))
  refine PySem.W.ks_loadName_global S.kind F.ks (Calls.loadGlobal_builtin (env := EV) g1 (PySem.W.mg_none_of e0.mod.kin e0.mod.glob F.free) g2 ((b2 _ (by decide)).trans PyProof.Rows.Boot.«super») ⟨rfl, ?_⟩)
  refine wpAny_loadName_free S.kind (S.frk _ (by simp)) rfl ⟨_, kp _ _ (KX _ _ hcell), rfl⟩ ?_
  rw [harn]
  refine wpAny_loadName_local S.kind (S.par _ (by simp)) hns (v := .ref a) ?_ ?_
  · have ndP : (["self", w1, w2] : List Str).Nodup := by
      have q := S.nd.sublist (List.take_sublist 3 _)
      exact q
    exact zip_look (ps := ["self", w1, w2]) (i := 0) ndP rfl rfl
  refine ks_wpAny_isType_cls (K1 _ _ hC) rfl ⟨rfl, ?_⟩
  refine ks_wpAny_call_super (K1 _ _ hC) rfl (kp _ _ hea) rfl (fun c z => nomatch z) (PySem.W.looks_mroIn K1 F.mro) (fun h' e k => ?_)
  have KP : K.In h' := K1.keeps k
  have hcl : PySem.W.clsIn K C = some { name := cnm, bases := cbs, mro := .ref C :: cbm, ns := cN, qualname := cq, hasDict := true, slotNames := csn, subclasses := csub, abstract := cab, collection := ccol, hasDel := false } := by unfold PySem.W.clsIn; rw [hC] <;> rfl
  have hsup := F.sup
  unfold PySem.W.ks_superIn at hsup
  rw [hcl] at hsup
  have ia : PySem.W.InstAt h' a _ C none := ⟨k _ _ (kp _ _ hea), rfl, rfl, trivial⟩
  refine PySem.W.kxs_getMethod PySem.W.kxs_ValueError e (PySem.W.looks_opaque KP F.any) (l₀ := .ref C :: cbm) ((PySem.W.looks_clsIn KP hcl).andThen .now) rfl KP hsup (ia.type.andThen (PySem.W.looks_subIn KP F.sub)) (PySem.W.ks_ne KP ia hcl) (by decide) ?_
  have kmw : ∀ b o, h₁.get? b = some o → (h'.push (PySem.W.kxs_mw "ValueError.__init__" a)).get? b = some o := fun b o z => Heap.get?_push_of_some _ (k b o z)
  have at1 : (h'.push (PySem.W.kxs_mw "ValueError.__init__" a)).get? h'.objs.size = some (PySem.W.kxs_mw "ValueError.__init__" a) := Heap.get?_push_at rfl rfl
  have I1 : Inv X [] (startF ("self" :: w1 :: w2 :: rN) [.ref a, x, y] [some (.ref C)]) H { s with heap := h'.push (PySem.W.kxs_mw "ValueError.__init__" a), toks := s.toks + ((["self", w1, w2] : List Str).zip [.ref a, u1, u2]).length + 1 } := I.kept kmw
  have szh : h₁.objs.size ≤ h'.objs.size := Nat.le_of_lt (Heap.lt_size e)
  have big : s.heap.objs.size < h'.objs.size := Nat.lt_of_lt_of_le (show s.heap.objs.size < h₁.objs.size from I.lt) szh
  have I2 : Inv X [(h'.objs.size, PySem.W.kxs_mw "ValueError.__init__" a)] (startF ("self" :: w1 :: w2 :: rN) [.ref a, x, y] [some (.ref C)]) H { s with heap := h'.push (PySem.W.kxs_mw "ValueError.__init__" a), toks := s.toks + ((["self", w1, w2] : List Str).zip [.ref a, u1, u2]).length + 1 } := by
    refine I1.pins_of fun p hp => ?_
    obtain rfl := List.mem_singleton.mp hp
    refine ⟨at1, I.hok.fresh szh, Nat.ne_of_gt big, fun hb => ?_, fun v z => nomatch z⟩
    obtain ⟨_, o, ho, _⟩ := e0.funs.mem hb
    exact absurd (Heap.lt_size ho) (Nat.not_lt.mpr (Nat.le_of_lt big))
  show wpAny _ _ (callWith p5 (.ref h'.objs.size) [] (backTo p5 (starEach [.Name w1 p3, .Name w2 p4] EV)) []) _ _ _
  have v1 : Vis X.env.scope w1 := .inl (S.par _ (by simp))
  have v2 : Vis X.env.scope w2 := .inl (S.par _ (by simp))
  have PAx : PA X [.Name w1 p3, .Name w2 p4] (tCons (tVar 1) (tCons (tVar 2) tNil)) := pa_cons (pe_var (i := 1) (pos := p3) rfl v1 hd1 hc1) (pa_cons (pe_var (i := 2) (pos := p4) rfl v2 hd2 hc2) pa_nil (star_plain rfl)) (star_plain rfl)
  have hA := PAx.run p5 _ _ _ H (fun vs H1 => vs.length = 2 ∧ H1 = H) I2 ⟨x, rfl, y, rfl, rfl, rfl⟩
  rw [star_plain (show plainE (.Name w1 p3) = true from rfl)] at hA ⊢
  refine PySem.W.kxs_callWith (i := "ValueError.__init__") (x := a) (by rw [star_plain (show plainE (.Name w2 p4) = true from rfl)]; rfl) (Calls.evalArgs_plain ?_)
  refine thn hA fun vs s2 hh => ?_
  obtain ⟨zs, H1, J, rv, ⟨hl2, rfl⟩⟩ := hh
  have hmw := (J.pin _ (List.mem_append_right _ List.mem_cons_self)).1
  refine ⟨hmw, ?_⟩
  obtain ⟨t2, hea2⟩ := exo_at J.hok ea
  obtain ⟨hp2, gg2, dd2, tt2, oo2⟩ := s2
  refine call_mw (J.kIn _ _ hC) hea2 hmw (by show vs.length ≤ sizeLine; rw [← rv.length, hl2, sizeLine_eq]; decide) fun h3 t3 k3 e3 => ?_
  have J2 := J.write (t' := tt2) (x := a) (e := a) (o := exo a C none) (by rw [ea]; exact True.intro) (.inl rfl) k3 ⟨_, e3⟩ (exo_ok e3)
  have eu : upd H1 a (exo a C none) = H1 := by
    funext b
    by_cases hb : b = a
    · rw [hb, upd_same, ea]
    · rw [upd_ne hb]
  rw [eu] at J2
  exact wpAt_of_wpAny (wpAny_mono (back _ (J2.pins_of fun p hp => nomatch hp)) (fun fl s'' z => z) fun _ _ z => z)
end
end DI
end
section
set_option Elab.async false
set_option linter.all false
set_option maxRecDepth 100000
set_option maxHeartbeats 2000000
/-! DIN: an own exception class raised; its facts read by a Hook. -/
namespace DI
open PySem PySem.Spec PyProof.Rows L2 NdefX
theorem exd_eq {d : Addr} {fs gs : List (Str × V)} (h : ∀ f, fs.lookup f = gs.lookup f) : exd d fs = exd d gs := by
  unfold exd
  refine congrArg HO.ext (funext fun hp => ?_)
  refine propext ⟨fun ⟨m, a, b⟩ => ⟨m, a, fun f => by rw [← h f]; exact b f⟩, fun ⟨m, a, b⟩ => ⟨m, a, fun f => by rw [h f]; exact b f⟩⟩
theorem look2 {w1 w2 : Str} (hw : w1 ≠ w2) (x y : V) (f : Str) : ([(w2, y), (w1, x)] : List (Str × V)).lookup f = ([(w1, x), (w2, y)] : List (Str × V)).lookup f := by
  simp only [lookup_put]
  by_cases h1 : f = w1
  · rw [if_pos h1, if_neg (fun z => hw (h1.symm.trans z))]; simp [h1]
  · rw [if_neg h1, if_neg h1]
theorem wa_mono {X : Cx} {es : List Expr} {σ : L2.St} {H : Hp} {Q Q' : List V → Hp → Prop} (h : Wa X es σ H Q) (i : ∀ vs H1, Q vs H1 → Q' vs H1) : Wa X es σ H Q' := fun pos pins s I =>
  thn (h pos pins s I) fun _ _ ⟨vs, H1, J, r, q⟩ => ⟨vs, H1, J, r, i _ _ q⟩
section
variable {P : Program} {w : World} {K : PySem.W.Frag} {mg : Str → Option Value} {C fI cc cda : Addr} {nm qual c : Str} {params : Arguments} {scope : Scope} {xn : Str → List Str}
theorem excOk_of {w1 w2 : Str} {p0 p1 p2 p3 p4 p5 p6 p7 p8 p9 pa pb pc pd pe : Pos} {rN : List Str}
    (F : IniF P K C fI cc cda nm qual params
      [.Expr (.Call (.Attribute (.Call (.Name "super" p0) [] [] p1) "__init__" p2) [.Name w1 p3, .Name w2 p4] [] p5) p6,
       .Assign [.Attribute (.Name "self" p7) w1 p8] (.Name w1 p9) pa, .Assign [.Attribute (.Name "self" pb) w2 pc] (.Name w2 pd) pe] scope ("self" :: w1 :: w2 :: rN) ["self", w1, w2])
    (hl : (p2.endLine == p5.line) = true) (hd1 : (w1 == ("__debug__" : Str)) = false) (hd2 : (w2 == ("__debug__" : Str)) = false) (hc1 : (w1 == ("__classdict__" : Str)) = false) (hc2 : (w2 == ("__classdict__" : Str)) = false)
    (n1 : PySem.W.findIn K (.ref C) w1 = some none) (n2 : PySem.W.findIn K (.ref C) w2 = some none) (hw : w1 ≠ w2) (hxn : xn c = [w1, w2])
    (xf : XfC K C) (exm : PySem.W.exmOne K (.ref C) (.ref C) = some true) (hm : mg c = some (.ref C)) :
    ∀ X : Cx, X.prog = P → X.w = w → X.K = K → X.mg = mg → X.calm = true → Room 5 X.A → X.N.Nodup → ExcOk X xn c 2 C := by
  intro X e1 e2 e3 e4 calm room nd
  subst e1 e2 e3 e4
  refine ⟨hm, by rw [hxn]; rfl, xf, exm, fun f hf => ?_, fun W e0 es ta p q r tk ha hg hp => ?_⟩
  · rw [hxn] at hf
    rcases List.mem_cons.mp hf with rfl | hf
    · exact n1
    · obtain rfl := List.mem_singleton.mp hf; exact n2
  obtain ⟨g1, g2, g3⟩ := glb_ok hg
  have hp0 : plainE e0 = true ∧ es.all plainE = true := by simpa using hp
  obtain ⟨fd, F1, B⟩ := init_fn (w := X.w) (mg := X.mg) (base := X.base) (CX := fun _ _ _ _ _ _ => False) (k := 3) F hl hd1 hd2 hc1 hc2 n1 n2
  have hpl : ∀ {l : List Expr}, l.all plainE = true → (backTo q (starEach l X.env)).any (·.1) = false := by
    intro l
    induction l with
    | nil => intro _; rfl
    | cons e l ih =>
      intro h
      rw [List.all_cons, Bool.and_eq_true] at h
      rw [star_plain h.1]
      show (false || (backTo q (starEach l X.env)).any (·.1)) = false
      rw [ih h.2]; rfl
  have PM := pmk_oex (X := X) (ds := []) (dvs := []) (p := p) (pos := q) F.oex F.iC F.tI F1 room B .nil (fun _ _ _ _ _ _ _ z => z.elim) g1 hm (pa_wa (X := X) (es := e0 :: es)) g2 (star_plain hp0.1) (hpl hp0.2)
  refine ⟨fun pins s σ H D I h => (ps_raise (pos := r) calm tk PM).run pins s σ H D I (wa_mono (Wa.of ha h) fun vs H1 hh => ?_)⟩
  obtain ⟨hl2, k⟩ := hh
  obtain ⟨x, y, rfl⟩ : ∃ x y, vs = [x, y] := by
    match vs, hl2 with
    | [x, y], _ => exact ⟨_, _, rfl⟩
  refine ⟨by show 2 ≤ 1000; decide, fun a na => ⟨a, x, y, rfl, upd_same, fun d nd ne => ⟨rfl, d, [(w1, x), (w2, y)], ?_, ?_, ?_, ?_⟩⟩⟩
  · rw [upd_ne ne.symm, upd_same]
  · rw [upd_same, exd_eq (look2 hw x y)]
  · rwa [upd_ne ne] at nd
  · have nd1 : H1 d = none := by rwa [upd_ne ne] at nd
    have e5 : upd (del (upd (upd (upd (upd H1 a (exo a C none)) d (exd d [(w1, x)])) a (exo a C (some d))) d (exd d [(w2, y), (w1, x)])) a) d (.xd [(w1, x), (w2, y)]) = upd H1 d (.xd ((xn c).zip [x, y])) := by
      rw [hxn]
      funext b
      by_cases hb : b = d
      · rw [hb, upd_same, upd_same]; rfl
      · rw [upd_ne hb, upd_ne hb]
        by_cases hba : b = a
        · rw [hba, del_same, na]
        · rw [del_ne hba, upd_ne hb, upd_ne hba, upd_ne hb, upd_ne hba]
    rw [e5]
    exact k d nd1
end
end DI
end
section
set_option Elab.async false
set_option linter.all false
set_option maxRecDepth 100000
set_option maxHeartbeats 2000000
/-! DIO: facts of an exception class by a look at the heap; the Hook that reads all. -/
namespace DI
open PySem PySem.Spec PyProof.Rows L2 NdefX
/-! ### the class -/
def clsB (K : PySem.W.Frag) (C : Addr) : Bool := match K.lookup C with
  | some ⟨.type t, _, .cls ⟨_, _, .ref C' :: bm, _, _, hd, _, _, _, _, del⟩, ⟨[_, _, _, _, some (.builtin n), _]⟩⟩ => decide (t = "type") && decide (C' = C) && hd && !del && PySem.HandSPX.refsVE bm && decide (n = "ValueError.__new__")
  | _ => false
theorem clsB_ok {K : PySem.W.Frag} {C : Addr} (h : clsB K C = true) : ∃ nm q N bs bm sn sub ab col dd k0 k1 k2 k3 k5, K.lookup C = some (excClassObj nm q C N bs bm true sn sub ab col dd k0 k1 k2 k3 k5 "ValueError.__new__") ∧ PySem.HandSPX.refsVE bm = true := by
  unfold clsB at h
  split at h
  · rename_i t dd nm bs C' bm ns qn hd sn sub ab col del k0 k1 k2 k3 n k5 hl
    simp only [Bool.and_eq_true, decide_eq_true_eq, Bool.not_eq_true'] at h
    obtain ⟨⟨⟨⟨⟨h1, h2⟩, h3⟩, h4⟩, h5⟩, h6⟩ := h
    subst h1 h2 h3 h4 h6
    exact ⟨nm, qn, ns, bs, bm, sn, sub, ab, col, dd, k0, k1, k2, k3, k5, hl, h5⟩
  · cases h
abbrev IniV : Type := Option (Str × Str × Arguments × FuncBody × Scope × Addr × List Str × Value × Addr)
structure IniD where
  c : Str
  name : Str
  qual : Str
  params : Arguments
  body : List Stmt
  scope : Scope
  w1 : Str
  w2 : Str
def iniA (K : PySem.W.Frag) (c : Str) : Addr := He.ma K (He.ga K c) "__init__"
def iniFd (K : PySem.W.Frag) (c : Str) : Option FuncData := match K.lookup (iniA K c) with
  | some ⟨_, _, .func fd, _⟩ => some fd
  | _ => none
def iniObs (K : PySem.W.Frag) (c : Str) : IniV := (iniFd K c).map fun fd => (fd.name, fd.qualname, fd.params, fd.body, fd.scope, fd.globals, fd.closure.map (·.1), fd.defaults, fd.builtins)
def IniD.val (d : IniD) : IniV := some (d.name, d.qual, d.params, .stmts d.body, d.scope, mainGlobals, ["__class__"], .none, builtinsNs)
def ccA (K : PySem.W.Frag) (c : Str) : Addr := match iniFd K c with
  | some fd => (match fd.closure with | [(_, a)] => a | _ => 0)
  | none => 0
def cdaA (K : PySem.W.Frag) (c : Str) : Addr := match iniFd K c with
  | some fd => (match fd.code with | .ref a => a | _ => 0)
  | none => 0
def isRef : Value → Bool | .ref _ => true | _ => false
def iniB (file : Str) (K : PySem.W.Frag) (d : IniD) : Bool :=
  let C := He.ga K d.c
  clsB K C && (He.eqO (PySem.W.findIn K (.ref C) "__setattr__") (some (some (.builtin "object.__setattr__"))) && (decide (PySem.W.subIn K (.ref C) (.type "BaseException") = some true) && (decide (PySem.W.typeIn K (.ref C) = some (.type "type")) && (PySem.W.keepIn K (.ref C) &&
  (PySem.W.codeIn K (.ref (cdaA K d.c)) d.qual && ((match iniFd K d.c with | some fd => isRef fd.code && decide (fd.closure.length = 1) | none => false) &&
  ((match K.lookup (ccA K d.c) with | some ⟨_, _, .cell (some (.ref D)), _⟩ => decide (D = C) | _ => false) &&
  ((match K.lookup (cdaA K d.c) with | some ⟨_, _, .fields vs, _⟩ => (match (vs[2]? : Option Value) with | some (Value.str f _) => file == f | _ => false) | _ => false) &&
  (decide (PySem.W.ks_superIn K C C "__init__" = some (some (.builtin "ValueError.__init__"))) && (He.eqO (PySem.W.nsIn K cStatics "thirdparty.any") (some none) && (He.eqO (PySem.W.nsIn K mainGlobals "super") (some none) &&
  (decide (PySem.W.mroIn K C (.ref C) = some true) && (decide (PySem.W.subIn K (.ref C) (.type "ValueError") = some true) && (He.eqO (PySem.W.findIn K (.ref C) "__init__") (some (some (.ref (iniA K d.c)))) &&
  (decide (PySem.W.typeIn K (.ref (iniA K d.c)) = some (.type "function")) && (xfB K C && (decide (PySem.W.exmOne K (.ref C) (.ref C) = some true) && (He.eqO (PySem.W.findIn K (.ref C) d.w1) (some none) && (He.eqO (PySem.W.findIn K (.ref C) d.w2) (some none) &&
  He.eqO (PySem.W.nsIn K mainGlobals d.c) (some (some (.ref C))))))))))))))))))))))
section
variable {P : Program} {K : PySem.W.Frag} {d : IniD}
theorem ini_ok {N ps : List Str} (e : iniObs K d.c = d.val) (h : iniB P.main.file K d = true) (sc : NScope N ps ["__class__"] d.scope) (ks : d.scope.names.lookup ("super" : Str) = some .globalImplicit) (top : (P.main.scope.names.lookup ("super" : Str)).isSome = false)
    (hp : ∃ ar, (d.params.posonlyargs ++ d.params.args).head? = some ar ∧ ar.arg = "self")
    (hb : ∀ (kV doc pm : Value) (an : Option Addr) (cdv ct : Value) (cc : Addr) (us : List Value), us.length = ps.length → bindArgs (PySem.W.ksFn d.name d.qual d.params d.body d.scope .none kV doc pm an cdv ct cc) ⟨us, []⟩ = pure (ps.zip us)) :
    IniF P K (He.ga K d.c) (iniA K d.c) (ccA K d.c) (cdaA K d.c) d.name d.qual d.params d.body d.scope N ps ∧ XfC K (He.ga K d.c) ∧ PySem.W.exmOne K (.ref (He.ga K d.c)) (.ref (He.ga K d.c)) = some true ∧
      PySem.W.findIn K (.ref (He.ga K d.c)) d.w1 = some none ∧ PySem.W.findIn K (.ref (He.ga K d.c)) d.w2 = some none ∧ PySem.W.nsIn K mainGlobals d.c = some (some (.ref (He.ga K d.c))) := by
  unfold iniB at h
  dsimp only at h
  simp only [Bool.and_eq_true, decide_eq_true_eq] at h
  obtain ⟨a1, a2, a3, a4, a5, a6, a7, a8, a9, a10, a11, a12, a13, a14, a15, a16, a17, a18, a19, a20, a21⟩ := h
  refine ⟨⟨⟨clsB_ok a1, He.eqO_ok a2, a3, a4, a5⟩, ?_, a6, sc, ?_, ?_, a10, He.eqO_ok a11, He.eqO_ok a12, a13, a14, ks, top, hp, He.eqO_ok a15, a16⟩, xfB_ok a17, a18, He.eqO_ok a19, He.eqO_ok a20, He.eqO_ok a21⟩
  · unfold iniObs at e
    unfold ccA cdaA
    cases q : iniFd K d.c with
    | none => rw [q] at a7; cases a7
    | some fd =>
      rw [q] at a7 e
      dsimp only at a7 ⊢
      rw [Bool.and_eq_true, decide_eq_true_eq] at a7
      have e := Option.some.inj e
      simp only [Prod.mk.injEq] at e
      obtain ⟨e1, e2, e3, e4, e5, e6, e7, e8, e9⟩ := e
      obtain ⟨fn, fq, fp, fb, fs, fg, fc, fdf, fkw, fdoc, fpm, fan, fcode, fct, fbl⟩ := fd
      dsimp only at e1 e2 e3 e4 e5 e6 e7 e8 e9 a7
      subst e1 e2 e3 e4 e5 e6 e8 e9
      obtain ⟨b1, b2⟩ := a7
      match fc, b2, e7 with
      | [(cn, ca)], _, e7 =>
        have hcn : cn = "__class__" := by simpa using e7
        subst hcn
        cases fcode with
        | ref ca2 =>
          unfold iniFd at q
          split at q
          · rename_i oc od fd2 osl hl
            cases q
            exact ⟨oc, od, .none, fkw, fdoc, fpm, fan, fct, osl, hl, fun s us hl => .of_eq (hb fkw fdoc fpm fan (.ref ca2) fct ca us hl)⟩
          · cases q
        | _ => cases b1
  · split at a8
    · rename_i cl cld D csl hl
      have := of_decide_eq_true a8
      subst this
      exact ⟨cl, cld, csl, hl⟩
    · cases a8
  · split at a9
    · rename_i ccl cdd vs ccs hl
      split at a9
      · rename_i f t hv
        exact ⟨ccl, cdd, vs, ccs, f, t, hl, hv, a9⟩
      · cases a9
    · cases a9
end
/-! ### the Hook -/
def refsX (o : Obj) : List Addr := refsM o ++ match o.data with
  | .func fd => fd.closure.map (·.2)
  | _ => []
/-- each address once -/
def ddup : List Addr → Nat → List Addr
  | [], _ => []
  | a :: r, m => if Nat.testBit m a = true then ddup r m else a :: ddup r (m ||| (1 <<< a))
/-- what some of the names stand for (in the order of the namespace) -/
def pickU : List Str → List DictEntry → List Addr
  | x :: xs, e :: es => if isLit e.key x = true then He.refV e.val ++ pickU xs es else pickU (x :: xs) es
  | _, _ => []
def rootX (g : Addr → Option Obj) (U : List Str) : List Addr := cStatics :: (match g mainGlobals with
  | some ⟨_, _, .dict es _, _⟩ => pickU U es.toList
  | _ => [])
def growX (g : Addr → Option Obj) (as : List Addr) : List Addr := ddup (as ++ as.flatMap fun a => match g a with
  | some o => refsX o
  | none => []) 0
def growN (g : Addr → Option Obj) : Nat → List Addr → List Addr
  | 0, as => as
  | n + 1, as => growN g n (growX g as)
def asX (g : Addr → Option Obj) (U : List Str) (n : Nat) : List Addr := mainGlobals :: growN g n (rootX g U)
abbrev AlX : Type := AlM × List IniV
def obsX (chk : PySem.W.Frag → Bool) (fn : List He.DefD) (ts : List TabM) (is : List IniD) (K : PySem.W.Frag) : AlX := (obsM chk fn ts K, is.map fun d => iniObs K d.c)
def valX (P : Program) (fn : List He.DefD) (ts : List TabM) (is : List IniD) (w : World) : AlX := (valM P fn ts w, is.map IniD.val)
def obsXG (n : Nat) (U : List Str) (chk : PySem.W.Frag → Bool) (fn : List He.DefD) (ts : List TabM) (is : List IniD) (g : Addr → Option Obj) : AlX := obsX chk fn ts is (He.frG g (asX g U n))
structure SaysX (P : Program) (chk : PySem.W.Frag → Bool) (fn : List He.DefD) (ts : List TabM) (is : List IniD) (w : World) (K : PySem.W.Frag) : Prop where
  m : SaysM P chk fn ts w K
  i : is.map (fun d => iniObs K d.c) = is.map IniD.val
def hookX (P : Program) (n : Nat) (U : List Str) (chk : PySem.W.Frag → Bool) (fn : List He.DefD) (ts : List TabM) (is : List IniD) : PySem.W.Hook where
  α := AlX
  obs := fun s => obsXG n U chk fn ts is s.heap.get?
  val := fun w => valX P fn ts is w
  says := fun w h => ∃ K : PySem.W.Frag, K.In h ∧ SaysX P chk fn ts is w K
  of := fun _ _ e => ⟨_, He.frG_in, congrArg (fun z : AlX => z.1) e, congrArg (fun z : AlX => z.2) e⟩
  keeps := fun _ _ _ ⟨K, hK, c⟩ k => ⟨K, PySem.W.Frag.In.keeps hK k, c⟩
theorem obsXG_eq {P : Program} {n : Nat} {U : List Str} {chk : PySem.W.Frag → Bool} {fn : List He.DefD} {ts : List TabM} {is : List IniD} {g : Addr → Option Obj} {s : Shared} (h : ∀ a, g a = s.heap.get? a) : obsXG n U chk fn ts is g = (hookX P n U chk fn ts is).obs s := by
  rw [show g = s.heap.get? from funext h] <;> rfl
theorem SaysX.ini {P : Program} {chk : PySem.W.Frag → Bool} {fn : List He.DefD} {ts : List TabM} {is : List IniD} {w : World} {K : PySem.W.Frag} (c : SaysX P chk fn ts is w K) {d : IniD} (h : d ∈ is) : iniObs K d.c = d.val := by
  obtain ⟨i, hi, rfl⟩ := List.mem_iff_getElem.mp h
  have e2 : (is.map fun d => iniObs K d.c)[i]? = (is.map IniD.val)[i]? := by rw [c.i]
  rw [List.getElem?_map, List.getElem?_map, List.getElem?_eq_getElem hi] at e2
  exact Option.some.inj e2
end DI
end
section
set_option Elab.async false
set_option linter.all false
set_option maxRecDepth 100000
set_option maxHeartbeats 2000000
/-! DIF: a law's end where the written part holds no list: the script is read as data. -/
namespace DI
open PySem PySem.Spec PyProof.Rows L2
def noList (K : PySem.W.Frag) : Bool := K.all fun x => match x.2.cls with
  | .type c => !decide (c = "list")
  | _ => true
theorem mem_look : ∀ {l : PySem.W.Frag} {a : Addr} {o : Obj}, List.lookup a l = some o → (a, o) ∈ l
  | [], a, o, h => by cases h
  | (b, p) :: r, a, o, h => by
    rw [List.lookup_cons] at h
    cases q : a == b with
    | true => rw [q] at h; cases h; rw [beq_iff_eq.mp q]; exact List.mem_cons_self
    | false => rw [q] at h; exact List.mem_cons_of_mem _ (mem_look h)
theorem noList_ok {K : PySem.W.Frag} (h : noList K = true) {a : Addr} {o : Obj} (e : K.lookup a = some o) : o.cls ≠ .type "list" := by
  have hm : (a, o) ∈ K := mem_look e
  have := List.all_eq_true.mp h _ hm
  intro z
  rw [z] at this
  revert this
  decide
theorem walk_ofH {l : PySem.W.OpenLaw} {n k : Nat} {q : Program} {loose : List Str} {XP : (Str → Option Value) → Heap → Prop} {YP : World → Heap → Prop} {d : DefRec} {CX : World → CXT} {x : Str}
    (hn : l.most = some n) (hn2 : n ≤ sizeLine) (hdf : d.params.defaults = []) (rm : Room k callerA)
    (F : ∀ (w : World) (mg : Str → Option Value) (fa : Addr) (h : Heap), YP w h → h.Ns mainGlobals mg → mg d.name = some (.ref fa) →
      ∃ (K : PySem.W.Frag) (fd : FuncData) (sp : Sp), K.In h ∧ noList K = true ∧ (∀ (s : Shared) (u : Value), BindsTo s fd ⟨[u], []⟩ [(x, u)]) ∧
        (∀ (H : Hp) (a : Addr) (ns : List Int), ns.length ≤ n → Rd H a (.lst (ns.map V.int)) → sp [.ref a] H (fun v _ => v = .bl true) fun _ _ _ => False) ∧
        ∀ base : Heap, K.In base → base.Ns mainGlobals mg → FnG l.prog w K mg base (CX w) k fa fd [x] sp)
    (hCX : ∀ (w : World) (H : Hp) (s : Shared) (e : Value) (s' : Shared), CX w [] H s (fun _ _ _ => False) e s' → False) :
    PySem.W.WalkO q loose XP YP l.row.toRowW d [] (fun f vs => PySem.call f vs) :=
  Att.attach_call hn hdf fun w s₀ s₁ mg mb fa o pm cd doc a vs ns G Y ho hd hcd hmg hobj hints hlen hg => by
    obtain ⟨K, fd, sp, KX, nl, bd, hsp, hF⟩ := F w mg fa _ Y G.T.g hmg
    have hk : K.lookup a = none := by
      cases e : K.lookup a with
      | none => rfl
      | some ob =>
        have e2 := KX a ob e
        rw [hobj] at e2; cases e2
        exact absurd rfl (noList_ok nl e)
    have rv := vals_ints hints
    let H : Hp := upd (fun _ => none) a (.frz { cls := .type "list", data := .seq vs.toArray } (.lst (ns.map V.int)))
    have hH : ∀ c z, H c = some z → c = a ∧ z = .frz { cls := .type "list", data := .seq vs.toArray } (.lst (ns.map V.int)) := fun c z e => by
      by_cases hc : c = a
      · subst hc
        have e' : H c = _ := upd_same
        rw [e'] at e; cases e; exact ⟨rfl, rfl⟩
      · have e' : H c = none := upd_ne hc
        rw [e'] at e; cases e
    have hO : Only H := fun c => by
      cases q : H c with
      | none => exact .inl rfl
      | some z => obtain ⟨_, rfl⟩ := hH c z q; exact .inr ⟨_, _, rfl⟩
    refine call_hid (H := H) KX G.T.g G.T.b G.T.builtins G.T.nolimit hg rm hF bd (fun H e s' => hCX w H s₁ e s') hO (hsp _ _ _ hlen (.inr ⟨_, upd_same⟩)) (fun c z => ?_) fun c z q => ?_
    · cases q : H c with
      | none => exact absurd q z
      | some y => obtain ⟨rfl, _⟩ := hH c y q; exact ⟨hk, _, hobj, _, _, rfl⟩
    · obtain ⟨rfl, rfl⟩ := hH c z q
      exact ⟨hobj, by rw [List.length_map]; exact Nat.le_trans hlen hn2, vs, _, rv, hobj⟩
theorem reps_ints {K : PySem.W.Frag} {H : Hp} : ∀ ns : List Int, Reps K H (ns.map D.int) (ns.map V.int)
  | [] => Reps.nil
  | n :: r => Reps.cons (Rep.int.mpr rfl) (reps_ints r)
theorem sp_of {K : PySem.W.Frag} {mg : Str → Option Value} {xn : Str → List Str} {call : List Ag → OutC} {H : Hp} {a : Addr} {ns : List Int} (pl : call [.dat (.lst (ns.map D.int))] = .ok (.dat (.bl true)) [.dat (.lst (ns.map D.int))])
    (hS : Rd H a (.lst (ns.map V.int))) : spOf K mg xn call 1 [.ref a] H (fun v _ => v = .bl true) fun _ _ _ => False := by
  refine ⟨[.dat (.lst (ns.map D.int))], [], H, rfl, ⟨_, _, rfl, Rep.lst.mpr ⟨a, _, rfl, hS, reps_ints ns⟩, rfl, rfl⟩, List.nodup_nil, fun _ _ e => e, (fun a h => nomatch h), ?_⟩
  rw [pl]
  intro v F' H' _ _ _ _ r
  exact (Rep.bl (K := K) (F := F') (i := true) (v := v)).mp (show Rep K F' (.bl true) v from r)
end DI
end
section
set_option Elab.async false
set_option linter.all false
set_option maxRecDepth 100000
set_option maxHeartbeats 4000000
namespace CH
open PySem PySem.W PySem.Calls PyProof.Rows HandSHeadRun
theorem display17 (a b c d e f g h i j k l m n o p q : Sem Value × Sem Value) : dictDisplay ([a,b,c,d,e,f,g,h,i,j,k,l,m,n,o,p,q].map fun p => (some p.1, p.2)) = (do let d ← subDict [a,b,c,d,e,f,g,h,i,j,k,l,m,n,o,p,q]; pure (.ref d)) := by
  unfold dictDisplay
  simp [List.map]
def nameHash (w : World) (x : PySem.Str) : Int := if x.cps.isEmpty then 0 else reduceHash (w.params.strHash x.cps)
def storeS (w : World) (x : PySem.Str) (v : Value) (s : Shared) : Shared := { s with heap := s.heap.update mainNs (Obj.putName x (nameHash w x) (.str x s.toks) v), toks := s.toks + 1 }
theorem nsSet_told {P : Program} {w : World} {A : Around} {E : Value → Shared → Prop} {s : Shared} {m : PySem.Str → Option Value} {x : PySem.Str} {v : Value} {Q : Unit → Shared → Prop} (hn : s.heap.Ns mainNs m) (h : Q () (storeS w x v s)) :
    wpAny (model P w) A (nsSet mainNs x v) Q E s := by
  obtain ⟨o, es, ep, ho, hd, hk, _⟩ := hn
  have no : aRefKeyMayBeTheName x es = false := by
    have h0 : es.any (·.refKey) = false := by
      rw [Array.any_eq_false']
      intro e he
      obtain ⟨n, t, z⟩ := hk e he
      simp [DictEntry.refKey, z]
    simp only [aRefKeyMayBeTheName_eq, aRefKeyMayBeTheNameByArray, h0, Bool.and_false]
  unfold nsSet strHash
  refine wpAny_bind (wpAny_bind (wpAny_askSetting (wpAny_pure ?_)))
  refine wpAny_bind (wpAny_bind (wpAny_fresh (wpAny_pure ?_)))
  refine wpAny_bind (wpAny_loadPart (s := { s with toks := s.toks + 1 }) ho ?_)
  rw [hd]
  dsimp only
  rw [no]
  exact wpAny_updatePart (s := { s with toks := s.toks + 1 }) ho h

def itsS (P : Program) (w : World) (its : List (PySem.Str × PySem.Str × Addr)) (s : Shared) : Shared :=
  its.foldl (fun t x => putS P w s.heap.objs.size x t) { s with heap := s.heap.push { cls := .type "dict", data := .dict #[] } }
/-- the dict of 17 tuple keys, stored -/
theorem steps_wp {P : Program} {w : World} {A : Around} {E : Value → Shared → Prop} {env : Env} {mg : PySem.Str → Option Value} {s : Shared} {name : PySem.Str} {np q qs : Pos} {keys : List (Option PySem.Expr)} {values : List PySem.Expr} {its : List (PySem.Str × PySem.Str × Addr)}
    {a b c d e f g h i j k l m n o p r : Sem Value × Sem Value} (hu : A.units < cLine) (hk : env.scope.kind = .module) (hl : env.locals = mainNs) (hg : env.globals = mainNs) (hlo : env.kindOf name = some .local)
    (hshape : (evalEachOpt keys env).zip ((evalEach values env).map fun v => do let x ← v; standAt q; pure x) = [a,b,c,d,e,f,g,h,i,j,k,l,m,n,o,p,r].map fun p => (some p.1, p.2))
    (hlen : its.length = 17) (hit : ∀ (z : Nat) (p' : Sem Value × Sem Value) (x : PySem.Str × PySem.Str × Addr), [a,b,c,d,e,f,g,h,i,j,k,l,m,n,o,p,r][z]? = some p' → its[z]? = some x → IsItem env mg p' x)
    (hns : s.heap.Ns mainNs mg) (hnd : (its.map fun x => keyL x.1 x.2.1).Nodup) (hsw : swapsWith (.Dict keys values q) (some (.Name name np)) qs.line env = pure false) :
    wpAny (model P w) A (exec (.Assign [.Name name np] (.Dict keys values q) qs) env) (fun fl s' => fl = .next ∧ s' = storeS w name (.ref s.heap.objs.size) (itsS P w its s)) E s := by
  have hd : s.heap.objs.size ≠ mainNs := by
    obtain ⟨o, _, _, ho, _⟩ := hns
    exact Nat.ne_of_gt (Heap.lt_size ho)
  refine wpAny_Assign_Name ?_ hsw
  rw [arm_eval_Dict, hshape, display17]
  refine wpAny_bind (wpAny_standAt (wpAny_bind ?_))
  unfold subDict
  refine wpAny_bind (wpAny_alloc (wpAny_bind (wpAny_holding ?_)))
  rw [if_neg (by simp)]
  refine wpAny_bind (wpAny_rule ?_)
  have k0 : ∀ b o, s.heap.get? b = some o → (s.heap.push { cls := .type "dict", data := .dict #[] }).get? b = some o := fun b o e => Heap.get?_push_of_some _ e
  refine wpAny_bind (loop_wp (P := P) (w := w) (mg := mg) (d := s.heap.objs.size) hu hk (hl.trans hg.symm) hg hd _ its [] { s with heap := s.heap.push { cls := .type "dict", data := .dict #[] } } _ (by rw [hlen]; rfl) hit (Heap.DictOfH.new s.heap) (hns.keeps k0) (by simpa using hnd) (by rw [hlen]; decide) ?_)
  refine wpAny_pure (wpAny_pure (wpAny_pure ?_))
  rw [storeName_local hlo (by rw [hk, hl, hg]; rfl), hl]
  -- the namespace behind the loop
  have keep : ∀ (l : List (PySem.Str × PySem.Str × Addr)) (t : Shared) (dd : Addr), dd ≠ mainNs → t.heap.Ns mainNs mg → (l.foldl (fun t x => putS P w dd x t) t).heap.Ns mainNs mg := by
    intro l
    induction l with
    | nil => intro t dd _ ht; exact ht
    | cons x l ih =>
      intro t dd hdd ht
      refine ih _ dd hdd ?_
      exact (ht.keeps fun b o e => Heap.get?_push_of_some _ e).sameBut (Heap.SameBut.update ..) (Ne.symm hdd)
  refine nsSet_told (m := mg) (keep its { s with heap := s.heap.push { cls := .type "dict", data := .dict #[] } } _ hd (hns.keeps k0)) ?_
  exact ⟨rfl, rfl⟩
end CH
end
section
set_option Elab.async false
set_option linter.all false
set_option maxRecDepth 100000
set_option maxHeartbeats 4000000
namespace CH
open PySem PySem.W PySem.Calls PyProof.Rows HandSHeadRun
noncomputable section
/-! ### the exact states over the tree -/
def putT (P : Program) (w : World) (d : Addr) (x : PySem.Str × PySem.Str × Addr) (s : SharedT) : Option SharedT :=
  match ((s.tree.ins s.n (tupO x.1 x.2.1 s.toks)).get s.n).isSome with
  | false => none
  | true => match (s.tree.ins s.n (tupO x.1 x.2.1 s.toks)).get d with
    | none => none
    | some _ => some ⟨(s.tree.ins s.n (tupO x.1 x.2.1 s.toks)).set d (Obj.mapDictKeys (·.push ⟨(kT P w).hash (keyL x.1 x.2.1), .ref s.n, .ref x.2.2⟩)), s.n + 1, s.life, s.gens, s.drawn, s.toks + 2 + 3, s.os⟩
theorem putT_abs {P : Program} {w : World} {d : Addr} {x : PySem.Str × PySem.Str × Addr} {s s' : SharedT} (h : putT P w d x s = some s') : s'.abs = putS P w d x s.abs := by
  unfold putT at h
  cases e : ((s.tree.ins s.n (tupO x.1 x.2.1 s.toks)).get s.n).isSome with
  | false => rw [e] at h; cases h
  | true =>
    rw [e] at h
    cases g : (s.tree.ins s.n (tupO x.1 x.2.1 s.toks)).get d with
    | none => rw [g] at h; cases h
    | some o =>
      rw [g] at h
      have h2 := Option.some.inj h
      subst h2
      unfold SharedT.abs putS
      dsimp only
      rw [absHeap_set g, absHeap_ins e]
      rw [show (absHeap s.tree s.n s.life).objs.size = s.n from absHeap_size _ _ _]
def allT (P : Program) (w : World) (d : Addr) : List (PySem.Str × PySem.Str × Addr) → SharedT → Option SharedT
  | [], s => some s
  | x :: l, s => match putT P w d x s with
    | some s' => frS s' fun s' => allT P w d l s'
    | none => none
theorem allT_abs {P : Program} {w : World} {d : Addr} : ∀ {l : List (PySem.Str × PySem.Str × Addr)} {s s' : SharedT}, allT P w d l s = some s' → s'.abs = l.foldl (fun t x => putS P w d x t) s.abs
  | [], s, s', h => by cases h; rfl
  | x :: l, s, s', h => by
    unfold allT at h
    cases e : putT P w d x s with
    | none => rw [e] at h; cases h
    | some s2 =>
      rw [e] at h
      have h2 : (frS s2 fun s' => allT P w d l s') = some s' := h
      rw [frS_eq] at h2
      rw [allT_abs h2, putT_abs e]
      rfl
def dictT (s : SharedT) : Option SharedT := match ((s.tree.ins s.n { cls := .type "dict", data := .dict #[] }).get s.n).isSome with
  | true => some ⟨s.tree.ins s.n { cls := .type "dict", data := .dict #[] }, s.n + 1, s.life, s.gens, s.drawn, s.toks, s.os⟩
  | false => none
def keepT (w : World) (x : PySem.Str) (v : Value) (s : SharedT) : Option SharedT := match s.tree.get mainNs with
  | some _ => some ⟨s.tree.set mainNs (Obj.putName x (nameHash w x) (.str x s.toks) v), s.n, s.life, s.gens, s.drawn, s.toks + 1, s.os⟩
  | none => none
def stepsT (P : Program) (w : World) (name : PySem.Str) (its : List (PySem.Str × PySem.Str × Addr)) (s : SharedT) : Option SharedT := match dictT s with
  | some s1 => (match allT P w s.n its s1 with
    | some s2 => keepT w name (.ref s.n) s2
    | none => none)
  | none => none
theorem stepsT_abs {P : Program} {w : World} {name : PySem.Str} {its : List (PySem.Str × PySem.Str × Addr)} {s s' : SharedT} (h : stepsT P w name its s = some s') :
    s'.abs = storeS w name (.ref s.abs.heap.objs.size) (itsS P w its s.abs) := by
  unfold stepsT at h
  have hn : s.abs.heap.objs.size = s.n := absHeap_size _ _ _
  cases e1 : dictT s with
  | none => rw [e1] at h; cases h
  | some s1 =>
    rw [e1] at h
    have h1 : (match allT P w s.n its s1 with | some s2 => keepT w name (.ref s.n) s2 | none => none) = some s' := h
    cases e2 : allT P w s.n its s1 with
    | none => rw [e2] at h1; cases h1
    | some s2 =>
      rw [e2] at h1
      have h2 : keepT w name (.ref s.n) s2 = some s' := h1
      have a1 : s1.abs = { s.abs with heap := s.abs.heap.push { cls := .type "dict", data := .dict #[] } } := by
        unfold dictT at e1
        cases e : ((s.tree.ins s.n { cls := .type "dict", data := .dict #[] }).get s.n).isSome with
        | false => rw [e] at e1; cases e1
        | true =>
          rw [e] at e1
          have e3 := Option.some.inj e1
          subst e3
          unfold SharedT.abs
          dsimp only
          rw [absHeap_ins e]
      have a2 := allT_abs e2
      unfold keepT at h2
      cases g : s2.tree.get mainNs with
      | none => rw [g] at h2; cases h2
      | some o =>
        rw [g] at h2
        have h3 := Option.some.inj h2
        subst h3
        unfold itsS storeS
        rw [hn, ← a1, ← a2]
        unfold SharedT.abs
        dsimp only
        rw [absHeap_set g]
/-- old objects through these -/
theorem putS_kept {P : Program} {w : World} {d : Addr} {x : PySem.Str × PySem.Str × Addr} {s : Shared} {b : Addr} {o : Obj} (h : s.heap.get? b = some o) (hb : b ≠ d) : (putS P w d x s).heap.get? b = some o := by
  unfold putS
  exact (Heap.get?_update_ne _ _ _ _ hb).trans (Heap.get?_push_of_some _ h)
theorem fold_kept {P : Program} {w : World} {d : Addr} {b : Addr} {o : Obj} (hb : b ≠ d) : ∀ (l : List (PySem.Str × PySem.Str × Addr)) (s : Shared), s.heap.get? b = some o → (l.foldl (fun t x => putS P w d x t) s).heap.get? b = some o
  | [], _, h => h
  | x :: l, s, h => fold_kept hb l (putS P w d x s) (putS_kept h hb)
theorem steps_kept {P : Program} {w : World} {name : PySem.Str} {its : List (PySem.Str × PySem.Str × Addr)} {s : Shared} {v : Value} {b : Addr} {o : Obj} (h : s.heap.get? b = some o) (hb : b ≠ mainNs) :
    (storeS w name v (itsS P w its s)).heap.get? b = some o := by
  unfold storeS itsS
  refine (Heap.get?_update_ne _ _ _ _ hb).trans (fold_kept (Nat.ne_of_lt (Heap.lt_size h)) its _ ?_)
  exact Heap.get?_push_of_some _ h
theorem fold_rest {P : Program} {w : World} {d : Addr} : ∀ (l : List (PySem.Str × PySem.Str × Addr)) (s : Shared), (l.foldl (fun t x => putS P w d x t) s).heap.life = s.heap.life ∧ (l.foldl (fun t x => putS P w d x t) s).os = s.os
  | [], _ => ⟨rfl, rfl⟩
  | x :: l, s => by
    obtain ⟨a, b⟩ := fold_rest l (putS P w d x s)
    exact ⟨a.trans (by unfold putS; rfl), b.trans rfl⟩
theorem steps_rest {P : Program} {w : World} {name : PySem.Str} {its : List (PySem.Str × PySem.Str × Addr)} {s : Shared} {v : Value} : (storeS w name v (itsS P w its s)).heap.life = s.heap.life ∧ (storeS w name v (itsS P w its s)).os = s.os := by
  obtain ⟨a, b⟩ := fold_rest (P := P) (w := w) (d := s.heap.objs.size) its { s with heap := s.heap.push { cls := .type "dict", data := .dict #[] } }
  exact ⟨a, b⟩

/-! ### the statement, read off the program -/
def itemOf : Option PySem.Expr → PySem.Expr → Option (PySem.Str × PySem.Str × PySem.Str)
  | some (.Tuple [.Constant (.str k1) _ _, .Constant (.str k2) _ _] _ _), .Name f _ => some (k1, k2, f)
  | _, _ => none
theorem itemOf_some {k : Option PySem.Expr} {v : PySem.Expr} {x : PySem.Str × PySem.Str × PySem.Str} (h : itemOf k v = some x) :
    ∃ j1 p1 j2 p2 n q pf, k = some (.Tuple [.Constant (.str x.1) j1 p1, .Constant (.str x.2.1) j2 p2] n q) ∧ v = .Name x.2.2 pf := by
  unfold itemOf at h
  split at h
  · cases h
    exact ⟨_, _, _, _, _, _, _, rfl, rfl⟩
  · cases h
def rowItems : List (Option PySem.Expr) → List PySem.Expr → Option (List (PySem.Str × PySem.Str × PySem.Str))
  | [], [] => some []
  | k :: ks, v :: vs => match itemOf k v with
    | some x => (match rowItems ks vs with
      | some l => some (x :: l)
      | none => none)
    | none => none
  | _, _ => none
theorem rows_of {env : Env} {q : Pos} {mg : PySem.Str → Option Value} {ad : PySem.Str → Addr} : ∀ {ks : List (Option PySem.Expr)} {vs : List PySem.Expr} {l : List (PySem.Str × PySem.Str × PySem.Str)}, rowItems ks vs = some l →
    (∀ x ∈ l, mg x.2.2 = some (.ref (ad x.2.2)) ∧ (x.2.2 == ("__debug__" : PySem.Str)) = false) →
    ∃ ps : List (Sem Value × Sem Value), ps.length = l.length ∧ (evalEachOpt ks env).zip ((evalEach vs env).map fun v => do let x ← v; standAt q; pure x) = ps.map (fun p => (some p.1, p.2)) ∧
      ∀ (i : Nat) (p : Sem Value × Sem Value) (x : PySem.Str × PySem.Str × Addr), ps[i]? = some p → (l.map fun x => (x.1, x.2.1, ad x.2.2))[i]? = some x → IsItem env mg p x
  | [], [], l, h, _ => by
    cases h
    exact ⟨[], rfl, rfl, fun i p x a => by simp at a⟩
  | k :: ks, v :: vs, l, h, hm => by
    unfold rowItems at h
    cases e : itemOf k v with
    | none => rw [e] at h; cases h
    | some x =>
      rw [e] at h
      have h1 : (match rowItems ks vs with | some l => some (x :: l) | none => none) = some l := h
      cases e2 : rowItems ks vs with
      | none => rw [e2] at h1; cases h1
      | some l2 =>
        rw [e2] at h1
        have h3 := Option.some.inj h1
        subst h3
        obtain ⟨ps, a, b, c⟩ := rows_of (q := q) (env := env) (mg := mg) (ad := ad) e2 fun y hy => hm y (List.mem_cons_of_mem _ hy)
        obtain ⟨j1, p1, j2, p2, n, q1, pf, rfl, rfl⟩ := itemOf_some e
        refine ⟨(eval (.Tuple [.Constant (.str x.1) j1 p1, .Constant (.str x.2.1) j2 p2] n q1) env, do let z ← eval (.Name x.2.2 pf) env; standAt q; pure z) :: ps, by simp [a], ?_, ?_⟩
        · show (some (eval _ env) :: evalEachOpt ks env).zip ((_ :: evalEach vs env).map _) = _
          rw [List.map_cons, List.zip_cons_cons, b, List.map_cons]
        · intro i p y hp hy
          cases i with
          | zero =>
            simp only [List.getElem?_cons_zero, Option.some.injEq, List.map_cons] at hp hy
            subst hp hy
            obtain ⟨m1, m2⟩ := hm x List.mem_cons_self
            exact ⟨⟨j1, p1, j2, p2, n, q1, rfl⟩, ⟨x.2.2, pf, q, rfl, m1, m2⟩⟩
          | succ i =>
            simp only [List.getElem?_cons_succ, List.map_cons] at hp hy
            exact c i p y hp hy
  | [], _ :: _, _, h, _ => by cases h
  | _ :: _, [], _, h, _ => by cases h
theorem list17 {α : Type} {l : List α} (h : l.length = 17) : ∃ a b c d e f g h i j k l' m n o p q, l = [a,b,c,d,e,f,g,h,i,j,k,l',m,n,o,p,q] := by
  match l, h with
  | [a,b,c,d,e,f,g,h,i,j,k,l',m,n,o,p,q], _ => exact ⟨a,b,c,d,e,f,g,h,i,j,k,l',m,n,o,p,q,rfl⟩
end
end CH
end
section
set_option Elab.async false
set_option linter.all false
set_option maxRecDepth 100000
set_option maxHeartbeats 4000000
namespace CH
open PySem PySem.W PySem.Calls PyProof.Rows HandSHeadRun
noncomputable section
def kA (s : SharedT) : Frag := He.frG (getT s) [mainGlobals]
def adA (s : SharedT) (f : PySem.Str) : Addr := He.ga (kA s) f
def okA (l : List (PySem.Str × PySem.Str × PySem.Str)) (s : SharedT) : Bool :=
  s.abs.heap.isNs mainGlobals && (l.all fun x => (He.Fa.glo x.2.2).ok (kA s) && !(x.2.2 == ("__debug__" : PySem.Str))) && (l.length == 17 && decide ((l.map fun x => keyL x.1 x.2.1).Nodup))
abbrev bodyC (P : Program) (code : Value) (frame : Addr) : Code := .body (behindTheImports P) (envOf P code frame)
/-- the whole top, in pieces -/
def topF (st : SharedT → Thread → Option (SharedT × Thread)) {α : Type} (fin : SharedT → α) (M : Nat) (P : Program) (w : World) (ost : OsState) (L1 L2 : List Stmt) (name : PySem.Str) (ks : List (Option PySem.Expr)) (vs : List PySem.Expr) (q0 q1 q2 q3 : Pos) : Option (Bool × α) :=
  match putAll (boot_heap w.params).objs.toList .nil 0 with
  | none => none
  | some (t, n) => frNat n fun n0 =>
    match runH st n0 M (bootT w ost (t, n0)) ⟨ofTree (moduleCode P.main) Flow.ret, cCall, default, []⟩ with
    | some (.ret code, sa) => (match runH st n0 M sa ⟨ofTree (newBodyFrame code mainNs mainNs) fun a => Flow.ret (.ref a), cCall, q0, []⟩ with
      | some (.ret (.ref frame), sb) => (match runH st n0 M sb ⟨startTree (behindTheImports P) (envOf P code frame), bodyC P code frame, q1, [fPass cCall q1]⟩ with
        | some (.next, sc) => (match runH st n0 M sc ⟨stmtsTree L1 (envOf P code frame), bodyC P code frame, q2, [fPass cCall q1]⟩ with
          | some (.next, sA) => (match rowItems ks vs with
            | some l => (match stepsT P w name (l.map fun x => (x.1, x.2.1, adA sA x.2.2)) sA with
              | some sB => (match runH st n0 M sB ⟨stmtsTree L2 (envOf P code frame), bodyC P code frame, q3, [fPass cCall q1]⟩ with
                | some (.next, s) => some (okA l sA, fin s)
                | _ => none)
              | none => none)
            | none => none)
          | _ => none)
        | _ => none)
      | _ => none)
    | _ => none
theorem went_q {p : Program} {w : World} {n0 m : Nat} {s s' : SharedT} {t : Thread} {f : Flow} (h : runH (stepT (denote treeTable) p w) n0 m s t = some (f, s')) : Went p w n0 s.abs t f s'.abs := went_of h
theorem units_small (P : Program) (code : Value) (frame : Addr) (q : Pos) : ((bare0 cCall).enter (bodyC P code frame) none q).units < cLine := by
  show (Code.cUnits (bodyC P code frame)) + unitsOf [(cCall, q)] < cLine
  rw [unitsOf_cons, unitsOf_nil]
  show Code.cUnits (.body _ _) + (Code.cUnits (.builtin "claim.caller" {}) + 0) < cLine
  exact of_decide_eq_true (by rfl)

theorem go_of {r : OpenRow} {q : Program} {H : Hook} {loose : List PySem.Str} {ob : SharedT → H.α} {M : Nat} {L1 L2 : List Stmt} {name : PySem.Str} {np qd qs : Pos} {ks : List (Option PySem.Expr)} {vs : List PySem.Expr}
    (hbody : behindTheImports r.prog = L1 ++ .Assign [.Name name np] (.Dict ks vs qd) qs :: L2) (hkind : r.prog.main.scope.kind = .module) (hloc : r.prog.main.scope.names.lookup name = some .local)
    (ho : ∀ s : SharedT, ob s = H.obs s.abs)
    (run : ∀ w ost q0 q1 q2 q3, topF (stepT (denote treeTable) r.prog w) (fun s => (looksF r.prog (boot_heap w.params) s.abs, openSeen q loose (importedModules r.prog.main.body) (fun s => xlAt q [] s && recOk r.toRowW.records s) true s.abs, ob s)) M r.prog w ost L1 L2 name ks vs q0 q1 q2 q3 =
      some (true, true, openGood q loose, H.val w)) (w : World) (ost : OsState) (hz : (bootS w ost).asleep) : ∃ S, EndsAt r q H loose w ost S := by
  -- the boot
  cases e0 : putAll (boot_heap w.params).objs.toList .nil 0 with
  | none =>
    have z := run w ost default default default default
    unfold topF at z
    rw [e0] at z
    cases z
  | some tn =>
  obtain ⟨t, n⟩ := tn
  have eb : (bootT w ost (t, n)).abs = bootS w ost := by
    show (⟨absHeap t n (boot_heap w.params).life, #[], boot_drawn, boot_toks, ost⟩ : Shared) = _
    rw [putAll_heap e0]
  have en : (boot_heap w.params).objs.size = n := by
    have e := putAll_heap e0
    rw [← e]
    exact absHeap_size t n _
  have run2 := run
  unfold topF at run2
  have run3 := fun q0 q1 q2 q3 => run2 w ost q0 q1 q2 q3
  rw [e0] at run3
  simp only [frNat_eq] at run3
  clear run2
  -- the code object
  cases e1 : runH (stepT (denote treeTable) r.prog w) n M (bootT w ost (t, n)) ⟨ofTree (moduleCode r.prog.main) Flow.ret, cCall, default, []⟩ with
  | none =>
    have z := run3 default default default default
    rw [e1] at z
    cases z
  | some x1 =>
  obtain ⟨f1, sa⟩ := x1
  rw [e1] at run3
  cases f1 with
  | next => cases run3 default default default default
  | brk => cases run3 default default default default
  | cont => cases run3 default default default default
  | ret code =>
  have W1 := went_of e1
  rw [eb] at W1
  let F : Shared → Prop := fun S => S.gens = #[] ∧ S.heap.life = (boot_heap w.params).life ∧ S.os = ost ∧
    (∀ b o, b < (boot_heap w.params).objs.size → b ≠ mainNs → b ≠ cStatics → (boot_heap w.params).get? b = some o → S.heap.get? b = some o) ∧ looksF r.prog (boot_heap w.params) S = true ∧
    openSeen q loose (importedModules r.prog.main.body) (fun s => xlAt q [] s && recOk r.toRowW.records s) true S = openGood q loose ∧ H.obs S = H.val w
  have main : Sem.wp (model r.prog w) (bare0 cCall) (topStub r.prog).cur (Sem.finPost (model r.prog w) (bare0 cCall) fun r s => r = .ok (.ret .none) ∧ F s) (fun e _ s => (.error e : Result) = .ok (.ret .none) ∧ F s) default (bootS w ost) := by
    refine top_wp (sa := sa.abs) (code := code) (piece0 W1) fun q0 => ?_
    have run4 := fun q1 q2 q3 => run3 q0 q1 q2 q3
    dsimp only at run4
    cases e2 : runH (stepT (denote treeTable) r.prog w) n M sa ⟨ofTree (newBodyFrame code mainNs mainNs) fun a => Flow.ret (.ref a), cCall, q0, []⟩ with
    | none =>
      have z := run4 default default default
      rw [e2] at z
      cases z
    | some x2 =>
    obtain ⟨f2, sb⟩ := x2
    rw [e2] at run4
    have hf2 : ∃ frame, f2 = .ret (.ref frame) := by
      have z := run4 default default default
      cases f2 with
      | ret v =>
        cases v with
        | ref a => exact ⟨a, rfl⟩
        | _ => cases z
      | _ => cases z
    obtain ⟨frame, rfl⟩ := hf2
    have W2 := went_of e2
    refine ⟨frame, sb.abs, piece0 W2, fun q1 => ?_⟩
    have run5 := fun q2 q3 => run4 q1 q2 q3
    dsimp only at run5
    cases e3 : runH (stepT (denote treeTable) r.prog w) n M sb ⟨startTree (behindTheImports r.prog) (envOf r.prog code frame), bodyC r.prog code frame, q1, [fPass cCall q1]⟩ with
    | none =>
      have z := run5 default default
      rw [e3] at z
      cases z
    | some x3 =>
    obtain ⟨f3, sc⟩ := x3
    rw [e3] at run5
    cases f3 with
    | brk => cases run5 default default
    | cont => cases run5 default default
    | ret v => cases run5 default default
    | next =>
    have W3 := went_of e3
    refine Sem.wp_mono _ _ _ (fun _ q2 s2 h => ?_) (fun _ _ _ h => h) _ _ (piece1 W3)
    obtain ⟨_, rfl⟩ := h
    have run6 := fun q3 => run5 q2 q3
    dsimp only at run6
    cases e4 : runH (stepT (denote treeTable) r.prog w) n M sc ⟨stmtsTree L1 (envOf r.prog code frame), bodyC r.prog code frame, q2, [fPass cCall q1]⟩ with
    | none =>
      have z := run6 default
      rw [e4] at z
      cases z
    | some x4 =>
    obtain ⟨f4, sA⟩ := x4
    rw [e4] at run6
    cases f4 with
    | brk => cases run6 default
    | cont => cases run6 default
    | ret v => cases run6 default
    | next =>
    have W4 := went_of e4
    rw [show execs (behindTheImports r.prog) (envOf r.prog code frame) = execs (L1 ++ .Assign [.Name name np] (.Dict ks vs qd) qs :: L2) (envOf r.prog code frame) by rw [hbody]]
    refine wp_row L1 _ _ (Sem.wp_mono _ _ _ (fun f q3 s3 h => ?_) (fun _ _ _ h => h.elim) _ _ (piece1 (K := id) W4))
    obtain ⟨hf, rfl⟩ := h
    have hf' : f = .next := hf
    subst hf'
    refine ⟨rfl, wp_one ?_⟩
    -- the statement
    cases e5 : rowItems ks vs with
    | none =>
      have z := run6 default
      rw [e5] at z
      cases z
    | some l =>
    rw [e5] at run6
    dsimp only at run6
    cases e6 : stepsT r.prog w name (l.map fun x => (x.1, x.2.1, adA sA x.2.2)) sA with
    | none =>
      have z := run6 default
      rw [e6] at z
      cases z
    | some sB =>
    rw [e6] at run6
    dsimp only at run6
    have hok : okA l sA = true := by
      have z := run6 default
      cases e7 : runH (stepT (denote treeTable) r.prog w) n M sB ⟨stmtsTree L2 (envOf r.prog code frame), bodyC r.prog code frame, default, [fPass cCall q1]⟩ with
      | none => rw [e7] at z; cases z
      | some x7 =>
        obtain ⟨f7, s7⟩ := x7
        rw [e7] at z
        cases f7 with
        | next => exact (Prod.mk.inj (Option.some.inj z)).1
        | _ => cases z
    unfold okA at hok
    simp only [Bool.and_eq_true, beq_iff_eq, List.all_eq_true] at hok
    obtain ⟨⟨o1, o2⟩, o3, o4⟩ := hok
    have hns : sA.abs.heap.Ns mainNs (sA.abs.heap.nsMap mainGlobals) := .of_isNs o1
    have hkA : (kA sA).In sA.abs.heap := by
      have e : getT sA = sA.abs.heap.get? := funext (getT_eq sA)
      unfold kA
      rw [e]
      exact He.frG_in
    obtain ⟨ps, p1, p2, p3⟩ := rows_of (env := envOf r.prog code frame) (q := qd) (mg := sA.abs.heap.nsMap mainGlobals) (ad := adA sA) e5 fun x hx => by
      have z := o2 x hx
      exact ⟨He.glo_ok hkA hns z.1, by simpa using z.2⟩
    rw [o3] at p1
    obtain ⟨a, b, c, d, e, f, g, h, i, j, k, l', m, nn, o, p, qq, rfl⟩ := list17 p1
    have hin : (((bare0 cCall).enter (bodyC r.prog code frame) none q1)).In { handled := none, depth := frameCount ((bare0 cCall).enter (bodyC r.prog code frame) none q1).below + ((bare0 cCall).enter (bodyC r.prog code frame) none q1).code.weight, frames := none, guards := none, units := ((bare0 cCall).enter (bodyC r.prog code frame) none q1).units } :=
      ⟨rfl, Nat.le_refl _, (fun _ z => nomatch z), (fun _ z => nomatch z), Nat.le_refl _⟩
    have S := steps_wp (P := r.prog) (w := w) (A := { handled := none, depth := frameCount ((bare0 cCall).enter (bodyC r.prog code frame) none q1).below + ((bare0 cCall).enter (bodyC r.prog code frame) none q1).code.weight, frames := none, guards := none, units := ((bare0 cCall).enter (bodyC r.prog code frame) none q1).units }) (E := fun _ _ => False)
      (env := envOf r.prog code frame) (mg := sA.abs.heap.nsMap mainGlobals) (s := sA.abs) (name := name) (np := np) (q := qd) (qs := qs) (keys := ks) (values := vs) (its := l.map fun x => (x.1, x.2.1, adA sA x.2.2))
      (units_small r.prog code frame q1) hkind rfl rfl hloc p2 (by rw [List.length_map]; exact o3) p3 hns (by rw [List.map_map]; exact of_decide_eq_true o4) (by rfl)
    refine Sem.wp_mono _ _ _ (fun f8 q8 s8 h8 => ?_) (fun _ _ _ h => h) _ _ (S _ q3 hin)
    obtain ⟨rfl, e8⟩ := h8
    rw [← stepsT_abs e6] at e8
    subst e8
    refine ⟨rfl, ?_⟩
    have z := run6 q8
    cases e7 : runH (stepT (denote treeTable) r.prog w) n M sB ⟨stmtsTree L2 (envOf r.prog code frame), bodyC r.prog code frame, q8, [fPass cCall q1]⟩ with
    | none => rw [e7] at z; cases z
    | some x7 =>
    obtain ⟨f7, s7⟩ := x7
    rw [e7] at z
    cases f7 with
    | brk => cases z
    | cont => cases z
    | ret v => cases z
    | next =>
    have W7 := went_of e7
    refine Sem.wp_mono _ _ _ (fun f9 q9 s9 h9 => ?_) (fun _ _ _ h => h) _ _ (piece1 (K := id) W7)
    obtain ⟨hf9, rfl⟩ := h9
    have hf9' : f9 = .next := hf9
    subst hf9'
    have z2 := (Prod.mk.inj (Option.some.inj z)).2
    obtain ⟨z3, z4⟩ := Prod.mk.inj z2
    obtain ⟨z5, z6⟩ := Prod.mk.inj z4
    have SR := steps_rest (P := r.prog) (w := w) (name := name) (its := l.map fun x => (x.1, x.2.1, adA sA x.2.2)) (s := sA.abs) (v := .ref sA.abs.heap.objs.size)
    rw [← stepsT_abs e6] at SR
    refine ⟨rfl, W7.gens, W7.life.trans (SR.1.trans (W4.life.trans (W3.life.trans (W2.life.trans W1.life)))), W7.os.trans (SR.2.trans (W4.os.trans (W3.os.trans (W2.os.trans W1.os)))), fun b o b1 b2 b3 eo => ?_, z3, z5, by rw [← ho]; exact z6⟩
    rw [en] at b1
    refine W7.kept b o b1 b2 b3 ?_
    rw [stepsT_abs e6]
    exact steps_kept (W4.kept b o b1 b2 b3 (W3.kept b o b1 b2 b3 (W2.kept b o b1 b2 b3 (W1.kept b o b1 b2 b3 eo)))) b2
  obtain ⟨S, hrun, f1, f2, f3, f4, f5, f6, f7⟩ := top_ends hz (fun S h => h.1) main
  exact ⟨S, ⟨hrun, f2, f3, f4, f5, f6, f7⟩⟩
end
end CH
end
section
set_option Elab.async false
set_option linter.all false
set_option maxRecDepth 100000
set_option maxHeartbeats 4000000
namespace CH
open PySem PySem.W PySem.Calls PyProof.Rows HandSHeadRun
noncomputable section
theorem go_any {r : OpenRow} {q : Program} {H : Hook} {loose : List PySem.Str} {ob : SharedT → H.α} {M : Nat} {L1 L2 : List Stmt} {name : PySem.Str} {np qd qs : Pos} {ks : List (Option PySem.Expr)} {vs : List PySem.Expr}
    (hbody : behindTheImports r.prog = L1 ++ .Assign [.Name name np] (.Dict ks vs qd) qs :: L2) (hkind : r.prog.main.scope.kind = .module) (hloc : r.prog.main.scope.names.lookup name = some .local)
    (ho : ∀ s : SharedT, ob s = H.obs s.abs)
    (run : ∀ w ost q0 q1 q2 q3, topF (stepQ (denQ tabQ) r.prog w) (fun s => (looksF r.prog (boot_heap w.params) s.abs, seenQ q loose (importedModules r.prog.main.body) (fun s => xlAt q [] s && recOk r.toRowW.records s) s.abs, ob s)) M r.prog w ost L1 L2 name ks vs q0 q1 q2 q3 =
      some (true, true, openGood q loose, H.val w)) (w : World) (ost : OsState) (hz : (bootS w ost).asleep) : ∃ S, EndsAt r q H loose w ost S := by
  refine go_of (M := M) hbody hkind hloc ho (fun w ost q0 q1 q2 q3 => ?_) w ost hz
  have z := run w ost q0 q1 q2 q3
  rw [stepQ_eq, denQ_eq, tabQ_eq]
  simp only [seenQ_eq]
  exact z
end
end CH
end
section
set_option linter.all false
set_option maxRecDepth 100000
set_option Elab.async false
namespace TL
open DI
/-- to_chords: value found block a b -/
def b_to_chords : MSs := (.cons (.own 1 (.lis .nil))
  (.cons (.for_ (.nm 2) (.seq (.var 0)) (.cons (.app 1 (.tup (.cons (.bin .mul (.int 2) (.idx (.var 2) (.int 0))) (.cons (.bin .add (.bin .mul (.int 2) (.idx (.var 2) (.neg (.int 1)))) (.int 1)) .nil))))
  (.cons (.ext 1 (.lc (.tup (.cons (.bin .add (.bin .mul (.int 2) (.var 3)) (.int 1)) (.cons (.bin .mul (.int 2) (.var 4)) .nil))) (.two 3 4) (.zip (.var 2) (.slF (.var 2) (.int 1))) .yes [3, 4]))
  .nil)))
  (.cons (.ret (.blt .tuple (.blt .sorted (.var 1))))
  .nil)))
def f_to_chords : Fi := ⟨1, 4, b_to_chords⟩
/-- fault_blocks: value bare points point found order crossed block k j a b -/
def b_fault_blocks : MSs := (.cons (.ifs (.or (.nt (.isi (.var 0) .tuple)) (.or (.cmp .gt (.blt .len (.var 0)) (.glo (PySem.Str.ofString "MOST"))) (.nt (.blt .all (.lc (.call (PySem.Str.ofString "is_row") (.cons (.var 7) .nil)) (.nm 7) (.seq (.var 0)) .yes [7]))))) (.cons (.ret (.glo (PySem.Str.ofString "FORM")))
  .nil) .nil)
  (.cons (.set 1 (.call (PySem.Str.ofString "first_true") (.cons (.lc (.or (.cmp .eq (.blt .len (.var 7)) (.int 0)) (.blt .any (.lc (.cmp .ge (.var 10) (.var 11)) (.two 10 11) (.zip (.var 7) (.slF (.var 7) (.int 1))) .yes [10, 11]))) (.nm 7) (.seq (.var 0)) .yes [7]) .nil)))
  (.cons (.set 2 (.call (PySem.Str.ofString "points_of") (.cons (.var 0) .nil)))
  (.cons (.set 3 (.call (PySem.Str.ofString "first_wrong") (.cons (.var 2) (.cons (.blt .len (.var 2)) .nil))))
  (.cons (.set 4 (.call (PySem.Str.ofString "first_of") (.cons (.lis (.cons (.call (PySem.Str.ofString "fault_at") (.cons (.str (PySem.Str.ofString "block")) (.cons (.var 1) .nil))) (.cons (.call (PySem.Str.ofString "fault_at") (.cons (.str (PySem.Str.ofString "point")) (.cons (.var 3) .nil))) .nil))) .nil)))
  (.cons (.ifs (.notN (.var 4)) (.cons (.ret (.var 4))
  .nil) .nil)
  (.cons (.set 5 (.call (PySem.Str.ofString "first_true") (.cons (.lc (.cmp .gt (.idx (.var 0) (.var 8)) (.idx (.var 0) (.bin .add (.var 8) (.int 1)))) (.nm 8) (.rng1 (.bin .sub (.blt .len (.var 0)) (.int 1))) .yes [8]) .nil)))
  (.cons (.set 6 (.call (PySem.Str.ofString "first_true") (.cons (.lc (.blt .any (.lc (.call (PySem.Str.ofString "cross_blocks") (.cons (.idx (.var 0) (.var 9)) (.cons (.idx (.var 0) (.var 8)) .nil))) (.nm 9) (.rng1 (.var 8)) .yes [9])) (.nm 8) (.rng1 (.blt .len (.var 0))) .yes [8]) .nil)))
  (.cons (.ret (.call (PySem.Str.ofString "first_of") (.cons (.lis (.cons (.call (PySem.Str.ofString "fault_at") (.cons (.str (PySem.Str.ofString "order")) (.cons (.var 5) .nil))) (.cons (.call (PySem.Str.ofString "fault_at") (.cons (.str (PySem.Str.ofString "cross")) (.cons (.var 6) .nil))) .nil))) .nil)))
  .nil)))))))))
def f_fault_blocks : Fi := ⟨1, 11, b_fault_blocks⟩
/-- points_of: value block point -/
def b_points_of : MSs := (.cons (.ret (.lc2 (.var 2) (.nm 1) (.seq (.var 0)) (.nm 2) (.seq (.var 1)) [1, 2] [2]))
  .nil)
def f_points_of : Fi := ⟨1, 2, b_points_of⟩
/-- is_row: value item -/
def b_is_row : MSs := (.cons (.ret (.and (.isi (.var 0) .tuple) (.and (.cmp .le (.blt .len (.var 0)) (.glo (PySem.Str.ofString "MOST"))) (.blt .all (.lc (.call (PySem.Str.ofString "is_from") (.cons (.var 1) (.cons (.int 0) (.cons (.glo (PySem.Str.ofString "MOST")) .nil)))) (.nm 1) (.seq (.var 0)) .yes [1])))))
  .nil)
def f_is_row : Fi := ⟨1, 1, b_is_row⟩
/-- is_from: value low high -/
def b_is_from : MSs := (.cons (.ret (.and (.call (PySem.Str.ofString "is_whole") (.cons (.var 0) .nil)) (.ch .le .le (.var 1) (.var 0) (.var 2))))
  .nil)
def f_is_from : Fi := ⟨3, 0, b_is_from⟩
/-- is_whole: value -/
def b_is_whole : MSs := (.cons (.ret (.and (.isi (.var 0) .int) (.nt (.isi (.var 0) .bool))))
  .nil)
def f_is_whole : Fi := ⟨1, 0, b_is_whole⟩
/-- first_wrong: numbers many number -/
def b_first_wrong : MSs := (.cons (.ret (.call (PySem.Str.ofString "first_true") (.cons (.lc (.cmp .ne (.cnt 0 (.var 2)) (.int 1)) (.nm 2) (.rng1 (.var 1)) .yes [2]) .nil)))
  .nil)
def f_first_wrong : Fi := ⟨2, 1, b_first_wrong⟩
/-- first_true: flags k -/
def b_first_true : MSs := (.cons (.for_ (.nm 1) (.rng1 (.blt .len (.var 0))) (.cons (.ifs (.idx (.var 0) (.var 1)) (.cons (.ret (.var 1))
  .nil) .nil)
  .nil))
  (.cons (.ret .non)
  .nil))
def f_first_true : Fi := ⟨1, 1, b_first_true⟩
/-- first_of: faults fault -/
def b_first_of : MSs := (.cons (.for_ (.nm 1) (.seq (.var 0)) (.cons (.ifs (.notN (.var 1)) (.cons (.ret (.var 1))
  .nil) .nil)
  .nil))
  (.cons (.ret .non)
  .nil))
def f_first_of : Fi := ⟨1, 1, b_first_of⟩
/-- fault_at: word place -/
def b_fault_at : MSs := (.cons (.ret (.ife (.isN (.var 1)) .non (.tup (.cons (.var 0) (.cons (.var 1) .nil)))))
  .nil)
def f_fault_at : Fi := ⟨2, 0, b_fault_at⟩
/-- _law_same: actual due k -/
def b__law_same : MSs := (.cons (.ifs (.or (.isi (.var 1) .tuple) (.isi (.var 1) .list)) (.cons (.ifs (.or (.cmp .ne (.isi (.var 1) .tuple) (.isi (.var 0) .tuple)) (.or (.cmp .ne (.isi (.var 1) .list) (.isi (.var 0) .list)) (.cmp .ne (.blt .len (.var 0)) (.blt .len (.var 1))))) (.cons (.ret (.bl false))
  .nil) .nil)
  (.cons (.ret (.cmp .eq (.blt .len (.lc (.var 2) (.nm 2) (.rng1 (.blt .len (.var 1))) (.one (.nt (.call (PySem.Str.ofString "_law_same") (.cons (.idx (.var 0) (.var 2)) (.cons (.idx (.var 1) (.var 2)) .nil))))) [2])) (.int 0)))
  .nil)) .nil)
  (.cons (.ifs (.isN (.var 1)) (.cons (.ret (.isN (.var 0)))
  .nil) .nil)
  (.cons (.ifs (.or (.isi (.var 1) .bool) (.isi (.var 0) .bool)) (.cons (.ret (.and (.isi (.var 1) .bool) (.and (.isi (.var 0) .bool) (.cmp .eq (.var 0) (.var 1)))))
  .nil) .nil)
  (.cons (.ifs (.isi (.var 1) .int) (.cons (.ret (.and (.isi (.var 0) .int) (.cmp .eq (.var 0) (.var 1))))
  .nil) .nil)
  (.cons (.ret (.and (.isi (.var 0) .str) (.and (.isi (.var 1) .str) (.cmp .eq (.var 0) (.var 1)))))
  .nil)))))
def f__law_same : Fi := ⟨2, 1, b__law_same⟩
/-- _law_pool: script salt cell -/
def b__law_pool : MSs := (.cons (.set 1 (.int 7))
  (.cons (.for_ (.nm 2) (.seq (.slT (.var 0) (.int 63))) (.cons (.set 1 (.bin .mod (.blt .int (.bin .add (.bin .mul (.var 1) (.int 31)) (.var 2))) (.int 1000003)))
  .nil))
  (.cons (.ret (.lis (.cons (.blt .list (.var 0)) (.cons (.int 0) (.cons (.int 0) (.cons (.int 0) (.cons (.var 1) .nil)))))))
  .nil)))
def f__law_pool : Fi := ⟨1, 2, b__law_pool⟩
/-- _law_f_blocks: value bad points block found order crossed k j -/
def b__law_f_blocks : MSs := (.cons (.ifs (.or (.nt (.isi (.var 0) .tuple)) (.or (.cmp .gt (.blt .len (.var 0)) (.int 1000)) (.cmp .gt (.blt .len (.lc (.var 3) (.nm 3) (.seq (.var 0)) (.one (.nt (.call (PySem.Str.ofString "_law_small_row") (.cons (.var 3) .nil)))) [3])) (.int 0)))) (.cons (.ret (.tup (.cons (.str (PySem.Str.ofString "form")) (.cons (.int 0) .nil))))
  .nil) .nil)
  (.cons (.set 1 (.lc (.var 7) (.nm 7) (.rng1 (.blt .len (.var 0))) (.one (.or (.cmp .eq (.idx (.var 0) (.var 7)) (.tup .nil)) (.nt (.call (PySem.Str.ofString "_law_is_up") (.cons (.idx (.var 0) (.var 7)) .nil))))) [7]))
  (.cons (.set 2 (.lis .nil))
  (.cons (.for_ (.nm 3) (.seq (.var 0)) (.cons (.set 2 (.bin .add (.var 2) (.blt .list (.var 3))))
  .nil))
  (.cons (.set 4 (.call (PySem.Str.ofString "_law_first") (.cons (.lis (.cons (.tup (.cons (.str (PySem.Str.ofString "block")) (.cons (.call (PySem.Str.ofString "_law_least") (.cons (.var 1) .nil)) .nil))) (.cons (.tup (.cons (.str (PySem.Str.ofString "point")) (.cons (.call (PySem.Str.ofString "_law_wrong_number") (.cons (.var 2) (.cons (.blt .len (.var 2)) .nil))) .nil))) .nil))) .nil)))
  (.cons (.ifs (.notN (.var 4)) (.cons (.ret (.var 4))
  .nil) .nil)
  (.cons (.set 5 (.lc (.var 7) (.nm 7) (.rng1 (.bin .sub (.blt .len (.var 0)) (.int 1))) (.one (.cmp .gt (.idx (.var 0) (.var 7)) (.idx (.var 0) (.bin .add (.var 7) (.int 1))))) [7]))
  (.cons (.set 6 (.lc (.var 7) (.nm 7) (.rng1 (.blt .len (.var 0))) (.one (.cmp .gt (.blt .len (.lc (.var 8) (.nm 8) (.rng1 (.var 7)) (.one (.call (PySem.Str.ofString "_law_blocks_cross") (.cons (.idx (.var 0) (.var 8)) (.cons (.idx (.var 0) (.var 7)) .nil)))) [8])) (.int 0))) [7]))
  (.cons (.ret (.call (PySem.Str.ofString "_law_first") (.cons (.lis (.cons (.tup (.cons (.str (PySem.Str.ofString "order")) (.cons (.call (PySem.Str.ofString "_law_least") (.cons (.var 5) .nil)) .nil))) (.cons (.tup (.cons (.str (PySem.Str.ofString "cross")) (.cons (.call (PySem.Str.ofString "_law_least") (.cons (.var 6) .nil)) .nil))) .nil))) .nil)))
  .nil)))))))))
def f__law_f_blocks : Fi := ⟨1, 8, b__law_f_blocks⟩
/-- _law_wrong_number: numbers many k one -/
def b__law_wrong_number : MSs := (.cons (.ret (.call (PySem.Str.ofString "_law_least") (.cons (.lc (.var 2) (.nm 2) (.rng1 (.var 1)) (.one (.cmp .ne (.blt .len (.lc (.var 3) (.nm 3) (.seq (.var 0)) (.one (.cmp .eq (.var 3) (.var 2))) [3])) (.int 1))) [2]) .nil)))
  .nil)
def f__law_wrong_number : Fi := ⟨2, 2, b__law_wrong_number⟩
/-- _law_least: items -/
def b__law_least : MSs := (.cons (.ret (.ife (.cmp .ne (.var 0) (.lis .nil)) (.blt .min (.var 0)) .non))
  .nil)
def f__law_least : Fi := ⟨1, 0, b__law_least⟩
/-- _law_small_row: value -/
def b__law_small_row : MSs := (.cons (.ret (.and (.call (PySem.Str.ofString "_law_is_row") (.cons (.var 0) (.cons .non (.cons (.int 0) (.cons (.int 1000) .nil))))) (.cmp .le (.blt .len (.var 0)) (.int 1000))))
  .nil)
def f__law_small_row : Fi := ⟨1, 0, b__law_small_row⟩
/-- _law_is_row: value many low high one -/
def b__law_is_row : MSs := (.cons (.ifs (.or (.nt (.isi (.var 0) .tuple)) (.and (.notN (.var 1)) (.cmp .ne (.blt .len (.var 0)) (.var 1)))) (.cons (.ret (.bl false))
  .nil) .nil)
  (.cons (.ret (.cmp .eq (.blt .len (.lc (.var 4) (.nm 4) (.seq (.var 0)) (.one (.or (.nt (.call (PySem.Str.ofString "_law_is_integer") (.cons (.var 4) .nil))) (.or (.cmp .lt (.var 4) (.var 2)) (.cmp .gt (.var 4) (.var 3))))) [4])) (.int 0)))
  .nil))
def f__law_is_row : Fi := ⟨4, 1, b__law_is_row⟩
/-- _law_is_integer: actual -/
def b__law_is_integer : MSs := (.cons (.ret (.and (.isi (.var 0) .int) (.nt (.isi (.var 0) .bool))))
  .nil)
def f__law_is_integer : Fi := ⟨1, 0, b__law_is_integer⟩
/-- _law_is_up: items k -/
def b__law_is_up : MSs := (.cons (.ret (.cmp .eq (.blt .len (.lc (.var 1) (.nm 1) (.rng2 (.int 1) (.blt .len (.var 0))) (.one (.nt (.cmp .lt (.idx (.var 0) (.bin .sub (.var 1) (.int 1))) (.idx (.var 0) (.var 1))))) [1])) (.int 0)))
  .nil)
def f__law_is_up : Fi := ⟨1, 1, b__law_is_up⟩
/-- _law_first: faults one -/
def b__law_first : MSs := (.cons (.for_ (.nm 1) (.seq (.var 0)) (.cons (.ifs (.notN (.idx (.var 1) (.int 1))) (.cons (.ret (.var 1))
  .nil) .nil)
  .nil))
  (.cons (.ret .non)
  .nil))
def f__law_first : Fi := ⟨1, 1, b__law_first⟩
/-- _law_blocks_cross: one two a b c d -/
def b__law_blocks_cross : MSs := (.cons (.for_ (.nm 2) (.seq (.var 0)) (.cons (.for_ (.nm 3) (.seq (.var 0)) (.cons (.ifs (.and (.cmp .gt (.blt .len (.lc (.var 4) (.nm 4) (.seq (.var 1)) (.one (.ch .lt .lt (.var 2) (.var 4) (.var 3))) [4])) (.int 0)) (.cmp .gt (.blt .len (.lc (.var 5) (.nm 5) (.seq (.var 1)) (.one (.or (.cmp .lt (.var 5) (.var 2)) (.cmp .gt (.var 5) (.var 3)))) [5])) (.int 0))) (.cons (.ret (.bl true))
  .nil) .nil)
  .nil))
  .nil))
  (.cons (.ret (.bl false))
  .nil))
def f__law_blocks_cross : Fi := ⟨2, 4, b__law_blocks_cross⟩
/-- _law_draw: pool many value cell mixed -/
def b__law_draw : MSs := (.cons (.ifs (.and (.cmp .le (.idx (.var 0) (.int 2)) (.int 0)) (.cmp .lt (.idx (.var 0) (.int 1)) (.blt .len (.idx (.var 0) (.int 0))))) (.cons (.set 3 (.idx (.idx (.var 0) (.int 0)) (.idx (.var 0) (.int 1))))
  (.cons (.sto 0 (.int 1) (.bin .add (.idx (.var 0) (.int 1)) (.int 1)))
  (.cons (.sto 0 (.int 2) (.var 3))
  (.cons (.ifs (.cmp .lt (.var 3) (.int 1000000000000000000)) (.cons (.sto 0 (.int 2) (.call (PySem.Str.ofString "_law_spread") (.cons (.var 3) .nil)))
  .nil) .nil)
  .nil)))) .nil)
  (.cons (.sto 0 (.int 3) (.bin .add (.idx (.var 0) (.int 3)) (.int 1)))
  (.cons (.ifs (.cmp .le (.idx (.var 0) (.int 2)) (.int 0)) (.cons (.set 4 (.bin .mod (.blt .int (.bin .add (.bin .add (.bin .mul (.idx (.var 0) (.int 4)) (.int 48271)) (.bin .mul (.idx (.var 0) (.int 3)) (.int 69621))) (.int 1))) (.int 2147483647)))
  (.cons (.set 4 (.bin .mod (.blt .int (.bin .add (.bin .mul (.var 4) (.int 16807)) (.idx (.var 0) (.int 3)))) (.int 2147483629)))
  (.cons (.ret (.bin .mod (.bin .fdiv (.var 4) (.int 5)) (.var 1)))
  .nil))) .nil)
  (.cons (.set 2 (.bin .mod (.blt .int (.idx (.var 0) (.int 2))) (.var 1)))
  (.cons (.sto 0 (.int 2) (.bin .fdiv (.idx (.var 0) (.int 2)) (.var 1)))
  (.cons (.ret (.var 2))
  .nil))))))
def f__law_draw : Fi := ⟨2, 3, b__law_draw⟩
/-- _law_spread: cell mixed total k -/
def b__law_spread : MSs := (.cons (.set 1 (.bin .mod (.blt .int (.var 0)) (.int 2147483647)))
  (.cons (.set 2 (.int 1))
  (.cons (.for_ (.nm 3) (.rng1 (.int 4)) (.cons (.set 1 (.bin .mod (.blt .int (.bin .add (.bin .add (.bin .mul (.var 1) (.int 48271)) (.int 12345)) (.var 3))) (.int 2147483647)))
  (.cons (.set 2 (.bin .add (.bin .mul (.var 2) (.int 2147483647)) (.var 1)))
  .nil)))
  (.cons (.ret (.var 2))
  .nil))))
def f__law_spread : Fi := ⟨1, 3, b__law_spread⟩
/-- _law_chords: value k -/
def b__law_chords : MSs := (.cons (.ret (.blt .tuple (.lc (.tup (.cons (.var 1) (.cons (.call (PySem.Str.ofString "_law_end") (.cons (.var 0) (.cons (.var 1) .nil))) .nil))) (.nm 1) (.rng1 (.blt .len (.var 0))) (.one (.cmp .eq (.idx (.var 0) (.var 1)) (.int 0))) [1])))
  .nil)
def f__law_chords : Fi := ⟨1, 1, b__law_chords⟩
/-- _law_end: value at depth k -/
def b__law_end : MSs := (.cons (.set 2 (.int 0))
  (.cons (.for_ (.nm 3) (.rng2 (.var 1) (.blt .len (.var 0))) (.cons (.set 2 (.bin .sub (.bin .add (.var 2) (.int 1)) (.bin .mul (.int 2) (.idx (.var 0) (.var 3)))))
  (.cons (.ifs (.cmp .eq (.var 2) (.int 0)) (.cons (.ret (.var 3))
  .nil) .nil)
  .nil)))
  (.cons (.ret .non)
  .nil)))
def f__law_end : Fi := ⟨2, 2, b__law_end⟩
/-- carried: road value found k -/
def b_carried : MSs := (.cons (.ifs (.or (.cmp .eq (.blt .len (.var 0)) (.int 0)) (.nt (.blt .all (.lc (.din (PySem.Str.ofString "STEPS") (.slB (.var 0) (.var 3) (.bin .add (.var 3) (.int 2)))) (.nm 3) (.rng1 (.bin .sub (.blt .len (.var 0)) (.int 1))) .yes [3])))) (.cons (.raise (PySem.Str.ofString "NotAllowed") (.cons (.var 0) .nil))
  .nil) .nil)
  (.cons (.expr (.call (PySem.Str.ofString "must_be_family") (.cons (.idx (.var 0) (.int 0)) .nil)))
  (.cons (.expr (.call (PySem.Str.ofString "check") (.cons (.idx (.var 0) (.int 0)) (.cons (.var 1) .nil))))
  (.cons (.own 2 (.lis (.cons (.var 1) .nil)))
  (.cons (.for_ (.nm 3) (.rng1 (.bin .sub (.blt .len (.var 0)) (.int 1))) (.cons (.app 2 (.dcall (PySem.Str.ofString "STEPS") (.slB (.var 0) (.var 3) (.bin .add (.var 3) (.int 2))) (.idx (.var 2) (.neg (.int 1)))))
  .nil))
  (.cons (.retv 2)
  .nil))))))
def f_carried : Fi := ⟨2, 2, b_carried⟩
/-- must_be_family: family -/
def b_must_be_family : MSs := (.cons (.ifs (.dnin (PySem.Str.ofString "FAULTS") (.var 0)) (.cons (.raise (PySem.Str.ofString "NotAllowed") (.cons (.var 0) .nil))
  .nil) .nil)
  .nil)
def f_must_be_family : Fi := ⟨1, 0, b_must_be_family⟩
/-- check: family value found -/
def b_check : MSs := (.cons (.set 2 (.call (PySem.Str.ofString "fault_registry") (.cons (.var 0) (.cons (.var 1) .nil))))
  (.cons (.ifs (.notN (.var 2)) (.cons (.raise (PySem.Str.ofString "BadShape") (.cons (.idx (.var 2) (.int 0)) (.cons (.idx (.var 2) (.int 1)) .nil)))
  .nil) .nil)
  .nil))
def f_check : Fi := ⟨2, 1, b_check⟩
/-- fault_registry: family value -/
def b_fault_registry : MSs := (.cons (.expr (.call (PySem.Str.ofString "must_be_family") (.cons (.var 0) .nil)))
  (.cons (.ret (.dcall (PySem.Str.ofString "FAULTS") (.var 0) (.var 1)))
  .nil))
def f_fault_registry : Fi := ⟨2, 0, b_fault_registry⟩
/-- _law_brackets: pool most many found height left sign -/
def b__law_brackets : MSs := (.cons (.set 2 (.call (PySem.Str.ofString "_law_draw") (.cons (.var 0) (.cons (.bin .add (.var 1) (.int 1)) .nil))))
  (.cons (.set 3 (.tup .nil))
  (.cons (.set 4 (.int 0))
  (.cons (.for_ (.nm 5) (.rngD (.bin .mul (.int 2) (.var 2))) (.cons (.set 6 (.ife (.or (.cmp .eq (.var 4) (.int 0)) (.and (.cmp .lt (.var 4) (.var 5)) (.cmp .lt (.call (PySem.Str.ofString "_law_draw") (.cons (.var 0) (.cons (.int 5) .nil))) (.int 3)))) (.int 0) (.int 1)))
  (.cons (.set 3 (.bin .add (.var 3) (.tup (.cons (.var 6) .nil))))
  (.cons (.set 4 (.bin .sub (.bin .add (.var 4) (.int 1)) (.bin .mul (.int 2) (.var 6))))
  .nil))))
  (.cons (.ret (.var 3))
  .nil)))))
def f__law_brackets : Fi := ⟨2, 5, b__law_brackets⟩
/-- _law_bends: pool sample things found k -/
def b__law_bends : MSs := (.cons (.set 2 (.lis (.cons (.int 0) (.cons (.int 1) (.cons (.int 2) (.cons (.int 3) (.cons (.int 4) (.cons (.int 5) (.cons (.neg (.int 1)) (.cons (.int 1001) (.cons (.tup .nil) (.cons (.tup (.cons (.int 0) .nil)) (.cons (.tup (.cons (.int 1) .nil)) (.cons (.tup (.cons (.int 0) (.cons (.int 1) .nil))) (.cons (.tup (.cons (.int 1) (.cons (.int 0) .nil))) (.cons (.tup (.cons (.int 0) (.cons (.int 3) .nil))) (.cons (.tup (.cons (.int 2) (.cons (.int 0) (.cons (.int 1) .nil)))) (.cons (.tup (.cons (.tup .nil) (.cons (.tup .nil) .nil))) (.cons (.str (PySem.Str.ofString "a")) (.cons .non (.cons (.bl true) .nil)))))))))))))))))))))
  (.cons (.set 3 (.lis (.cons (.blt .list (.var 1)) (.cons (.slF (.var 1) (.int 1)) (.cons (.slT (.var 1) (.neg (.int 1))) (.cons (.bin .add (.var 1) (.slF (.var 1) (.neg (.int 1)))) (.cons (.tup (.cons (.var 1) .nil)) (.cons (.call (PySem.Str.ofString "_law_listed") (.cons (.var 1) (.cons (.int 1) .nil))) (.cons (.call (PySem.Str.ofString "_law_listed") (.cons (.var 1) (.cons (.int 2) .nil))) (.cons (.call (PySem.Str.ofString "_law_booled") (.cons (.var 1) .nil)) (.cons (.tup .nil) .nil)))))))))))
  (.cons (.set 3 (.bin .add (.bin .add (.var 3) (.lc (.call (PySem.Str.ofString "_law_changed") (.cons (.var 0) (.cons (.var 1) (.cons (.var 2) .nil)))) (.nm 4) (.rng1 (.int 14)) .yes [4])) (.lc (.call (PySem.Str.ofString "_law_swapped") (.cons (.var 0) (.cons (.var 1) .nil))) (.nm 4) (.rng1 (.int 9)) .yes [4])))
  (.cons (.ret (.bin .add (.var 3) (.lc (.call (PySem.Str.ofString "_law_bent") (.cons (.var 0) (.cons (.var 1) .nil))) (.nm 4) (.rng1 (.int 7)) .yes [4])))
  .nil))))
def f__law_bends : Fi := ⟨2, 3, b__law_bends⟩
/-- _law_swapped: pool value at other row -/
def b__law_swapped : MSs := (.cons (.ifs (.or (.nt (.isi (.var 1) .tuple)) (.cmp .eq (.blt .len (.var 1)) (.int 0))) (.cons (.ret (.var 1))
  .nil) .nil)
  (.cons (.set 2 (.call (PySem.Str.ofString "_law_draw") (.cons (.var 0) (.cons (.blt .len (.var 1)) .nil))))
  (.cons (.ifs (.and (.isi (.idx (.var 1) (.var 2)) .tuple) (.cmp .gt (.call (PySem.Str.ofString "_law_draw") (.cons (.var 0) (.cons (.int 4) .nil))) (.int 0))) (.cons (.ret (.bin .add (.bin .add (.slT (.var 1) (.var 2)) (.tup (.cons (.call (PySem.Str.ofString "_law_swapped") (.cons (.var 0) (.cons (.idx (.var 1) (.var 2)) .nil))) .nil))) (.slF (.var 1) (.bin .add (.var 2) (.int 1)))))
  .nil) .nil)
  (.cons (.set 3 (.call (PySem.Str.ofString "_law_draw") (.cons (.var 0) (.cons (.blt .len (.var 1)) .nil))))
  (.cons (.own 4 (.blt .list (.var 1)))
  (.cons (.swp 4 2 3 3 2)
  (.cons (.ret (.blt .tuple (.var 4)))
  .nil)))))))
def f__law_swapped : Fi := ⟨2, 3, b__law_swapped⟩
/-- _law_listed: value deep one -/
def b__law_listed : MSs := (.cons (.ifs (.nt (.isi (.var 0) .tuple)) (.cons (.ret (.var 0))
  .nil) .nil)
  (.cons (.ifs (.cmp .eq (.var 1) (.int 0)) (.cons (.ret (.blt .list (.var 0)))
  .nil) .nil)
  (.cons (.ret (.blt .tuple (.lc (.call (PySem.Str.ofString "_law_listed") (.cons (.var 2) (.cons (.bin .sub (.var 1) (.int 1)) .nil))) (.nm 2) (.seq (.var 0)) .yes [2])))
  .nil)))
def f__law_listed : Fi := ⟨2, 1, b__law_listed⟩
/-- _law_changed: pool value things at -/
def b__law_changed : MSs := (.cons (.ifs (.or (.nt (.isi (.var 1) .tuple)) (.or (.cmp .eq (.blt .len (.var 1)) (.int 0)) (.cmp .eq (.call (PySem.Str.ofString "_law_draw") (.cons (.var 0) (.cons (.int 7) .nil))) (.int 0)))) (.cons (.ret (.call (PySem.Str.ofString "_law_pick") (.cons (.var 0) (.cons (.var 2) .nil))))
  .nil) .nil)
  (.cons (.set 3 (.call (PySem.Str.ofString "_law_draw") (.cons (.var 0) (.cons (.blt .len (.var 1)) .nil))))
  (.cons (.ret (.bin .add (.bin .add (.slT (.var 1) (.var 3)) (.tup (.cons (.call (PySem.Str.ofString "_law_changed") (.cons (.var 0) (.cons (.idx (.var 1) (.var 3)) (.cons (.var 2) .nil)))) .nil))) (.slF (.var 1) (.bin .add (.var 3) (.int 1)))))
  .nil)))
def f__law_changed : Fi := ⟨3, 1, b__law_changed⟩
/-- _law_pick: pool items -/
def b__law_pick : MSs := (.cons (.ret (.idx (.var 1) (.call (PySem.Str.ofString "_law_draw") (.cons (.var 0) (.cons (.blt .len (.var 1)) .nil)))))
  .nil)
def f__law_pick : Fi := ⟨2, 0, b__law_pick⟩
/-- _law_booled: value one -/
def b__law_booled : MSs := (.cons (.ifs (.isi (.var 0) .tuple) (.cons (.ret (.blt .tuple (.lc (.call (PySem.Str.ofString "_law_booled") (.cons (.var 1) .nil)) (.nm 1) (.seq (.var 0)) .yes [1])))
  .nil) .nil)
  (.cons (.ret (.ife (.and (.call (PySem.Str.ofString "_law_is_integer") (.cons (.var 0) .nil)) (.isin (.var 0) (.tup (.cons (.int 0) (.cons (.int 1) .nil))))) (.cmp .eq (.var 0) (.int 1)) (.var 0)))
  .nil))
def f__law_booled : Fi := ⟨1, 1, b__law_booled⟩
/-- _law_bent: pool value turn at other items -/
def b__law_bent : MSs := (.cons (.ifs (.and (.isi (.var 1) .tuple) (.and (.cmp .gt (.blt .len (.var 1)) (.int 0)) (.cmp .gt (.call (PySem.Str.ofString "_law_draw") (.cons (.var 0) (.cons (.int 4) .nil))) (.int 0)))) (.cons (.set 3 (.call (PySem.Str.ofString "_law_draw") (.cons (.var 0) (.cons (.blt .len (.var 1)) .nil))))
  (.cons (.ret (.bin .add (.bin .add (.slT (.var 1) (.var 3)) (.tup (.cons (.call (PySem.Str.ofString "_law_bent") (.cons (.var 0) (.cons (.idx (.var 1) (.var 3)) .nil))) .nil))) (.slF (.var 1) (.bin .add (.var 3) (.int 1)))))
  .nil)) .nil)
  (.cons (.set 2 (.call (PySem.Str.ofString "_law_draw") (.cons (.var 0) (.cons (.int 9) .nil))))
  (.cons (.ifs (.cmp .eq (.var 2) (.int 0)) (.cons (.ret (.idx (.tup (.cons (.str (PySem.Str.ofString "x")) (.cons (.bl true) (.cons (.tup .nil) (.cons (.int 0) (.cons (.neg (.int 1)) (.cons .non (.cons (.bl false) (.cons (.lis .nil) (.cons (.str (PySem.Str.ofString "in")) (.cons (.int 1) .nil))))))))))) (.call (PySem.Str.ofString "_law_draw") (.cons (.var 0) (.cons (.int 10) .nil)))))
  .nil) .nil)
  (.cons (.ifs (.call (PySem.Str.ofString "_law_is_integer") (.cons (.var 1) .nil)) (.cons (.ret (.bin .add (.var 1) (.idx (.tup (.cons (.int 1) (.cons (.neg (.int 1)) (.cons (.int 2) (.cons (.int 0) .nil))))) (.call (PySem.Str.ofString "_law_draw") (.cons (.var 0) (.cons (.int 4) .nil))))))
  .nil) .nil)
  (.cons (.ifs (.isi (.var 1) .str) (.cons (.ret (.idx (.tup (.cons (.bin .add (.var 1) (.str (PySem.Str.ofString "a"))) (.cons (.slF (.var 1) (.int 1)) (.cons (.bin .add (.var 1) (.str (PySem.Str.ofString "A"))) (.cons (.bin .add (.var 1) (.str (PySem.Str.ofString " "))) (.cons (.slT (.var 1) (.int 1)) .nil)))))) (.call (PySem.Str.ofString "_law_draw") (.cons (.var 0) (.cons (.int 5) .nil)))))
  .nil) .nil)
  (.cons (.ifs (.or (.nt (.isi (.var 1) .tuple)) (.cmp .eq (.blt .len (.var 1)) (.int 0))) (.cons (.ret (.ife (.cmp .lt (.var 2) (.int 5)) (.tup (.cons (.var 1) (.cons (.int 0) .nil))) (.tup .nil)))
  .nil) .nil)
  (.cons (.set 3 (.call (PySem.Str.ofString "_law_draw") (.cons (.var 0) (.cons (.blt .len (.var 1)) .nil))))
  (.cons (.ifs (.cmp .lt (.var 2) (.int 3)) (.cons (.ret (.bin .add (.slT (.var 1) (.var 3)) (.slF (.var 1) (.bin .add (.var 3) (.int 1)))))
  .nil) .nil)
  (.cons (.ifs (.cmp .lt (.var 2) (.int 5)) (.cons (.ret (.bin .add (.bin .add (.slT (.var 1) (.var 3)) (.tup (.cons (.idx (.var 1) (.var 3)) .nil))) (.slF (.var 1) (.var 3))))
  .nil) .nil)
  (.cons (.ifs (.cmp .eq (.var 2) (.int 5)) (.cons (.ret (.blt .list (.var 1)))
  .nil) .nil)
  (.cons (.set 4 (.call (PySem.Str.ofString "_law_draw") (.cons (.var 0) (.cons (.blt .len (.var 1)) .nil))))
  (.cons (.own 5 (.blt .list (.var 1)))
  (.cons (.sto 5 (.var 3) (.idx (.var 1) (.var 4)))
  (.cons (.sto 5 (.var 4) (.idx (.var 1) (.var 3)))
  (.cons (.ret (.blt .tuple (.var 5)))
  .nil)))))))))))))))
def f__law_bent : Fi := ⟨2, 4, b__law_bent⟩
/-- _law_all: many level k longer word height sign -/
def b__law_all : MSs := (.cons (.set 1 (.lis (.cons (.tup .nil) .nil)))
  (.cons (.for_ (.nm 2) (.rng1 (.bin .mul (.int 2) (.var 0))) (.cons (.own 3 (.lis .nil))
  (.cons (.for_ (.nm 4) (.seq (.var 1)) (.cons (.set 5 (.bin .sub (.bin .mul (.blt .len (.lc (.var 6) (.nm 6) (.seq (.var 4)) (.one (.cmp .eq (.var 6) (.int 0))) [6])) (.int 2)) (.blt .len (.var 4))))
  (.cons (.ifs (.cmp .le (.bin .add (.var 5) (.int 1)) (.bin .sub (.bin .sub (.bin .mul (.int 2) (.var 0)) (.var 2)) (.int 1))) (.cons (.app 3 (.bin .add (.var 4) (.tup (.cons (.int 0) .nil))))
  .nil) .nil)
  (.cons (.ifs (.cmp .gt (.var 5) (.int 0)) (.cons (.app 3 (.bin .add (.var 4) (.tup (.cons (.int 1) .nil))))
  .nil) .nil)
  .nil))))
  (.cons (.mv 1 3)
  .nil))))
  (.cons (.ret (.blt .sorted (.var 1)))
  .nil)))
def f__law_all : Fi := ⟨1, 6, b__law_all⟩
/-- fault_chords: value found crossed k j -/
def b_fault_chords : MSs := (.cons (.set 1 (.call (PySem.Str.ofString "joins_fault") (.cons (.var 0) .nil)))
  (.cons (.ifs (.notN (.var 1)) (.cons (.ret (.var 1))
  .nil) .nil)
  (.cons (.set 2 (.call (PySem.Str.ofString "first_true") (.cons (.lc (.blt .any (.lc (.call (PySem.Str.ofString "cross_cuts") (.cons (.idx (.var 0) (.var 4)) (.cons (.idx (.var 0) (.var 3)) .nil))) (.nm 4) (.rng1 (.var 3)) .yes [4])) (.nm 3) (.rng1 (.blt .len (.var 0))) .yes [3]) .nil)))
  (.cons (.ret (.call (PySem.Str.ofString "fault_at") (.cons (.str (PySem.Str.ofString "cross")) (.cons (.var 2) .nil))))
  .nil))))
def f_fault_chords : Fi := ⟨1, 4, b_fault_chords⟩
/-- joins_fault: value point turned order pair k -/
def b_joins_fault : MSs := (.cons (.ifs (.nt (.call (PySem.Str.ofString "are_pairs") (.cons (.var 0) .nil))) (.cons (.ret (.glo (PySem.Str.ofString "FORM")))
  .nil) .nil)
  (.cons (.set 1 (.call (PySem.Str.ofString "first_wrong") (.cons (.lc2 (.var 1) (.nm 4) (.seq (.var 0)) (.nm 1) (.seq (.var 4)) [4, 1] [1]) (.cons (.bin .mul (.int 2) (.blt .len (.var 0))) .nil))))
  (.cons (.set 2 (.call (PySem.Str.ofString "first_true") (.cons (.lc (.cmp .gt (.idx (.var 4) (.int 0)) (.idx (.var 4) (.int 1))) (.nm 4) (.seq (.var 0)) .yes [4]) .nil)))
  (.cons (.set 3 (.call (PySem.Str.ofString "first_true") (.cons (.lc (.cmp .gt (.idx (.var 0) (.var 5)) (.idx (.var 0) (.bin .add (.var 5) (.int 1)))) (.nm 5) (.rng1 (.bin .sub (.blt .len (.var 0)) (.int 1))) .yes [5]) .nil)))
  (.cons (.ret (.call (PySem.Str.ofString "first_of") (.cons (.lis (.cons (.call (PySem.Str.ofString "fault_at") (.cons (.str (PySem.Str.ofString "point")) (.cons (.var 1) .nil))) (.cons (.call (PySem.Str.ofString "fault_at") (.cons (.str (PySem.Str.ofString "turned")) (.cons (.var 2) .nil))) (.cons (.call (PySem.Str.ofString "fault_at") (.cons (.str (PySem.Str.ofString "order")) (.cons (.var 3) .nil))) .nil)))) .nil)))
  .nil)))))
def f_joins_fault : Fi := ⟨1, 5, b_joins_fault⟩
/-- are_pairs: value item -/
def b_are_pairs : MSs := (.cons (.ifs (.or (.nt (.isi (.var 0) .tuple)) (.cmp .gt (.blt .len (.var 0)) (.glo (PySem.Str.ofString "MOST")))) (.cons (.ret (.bl false))
  .nil) .nil)
  (.cons (.ret (.blt .all (.lc (.and (.call (PySem.Str.ofString "is_row") (.cons (.var 1) .nil)) (.cmp .eq (.blt .len (.var 1)) (.int 2))) (.nm 1) (.seq (.var 0)) .yes [1])))
  .nil))
def f_are_pairs : Fi := ⟨1, 1, b_are_pairs⟩
/-- cross_cuts: one two -/
def b_cross_cuts : MSs := (.cons (.ret (.or (.ch4 .lt .lt .lt (.idx (.var 0) (.int 0)) (.idx (.var 1) (.int 0)) (.idx (.var 0) (.int 1)) (.idx (.var 1) (.int 1))) (.ch4 .lt .lt .lt (.idx (.var 1) (.int 0)) (.idx (.var 0) (.int 0)) (.idx (.var 1) (.int 1)) (.idx (.var 0) (.int 1)))))
  .nil)
def f_cross_cuts : Fi := ⟨2, 0, b_cross_cuts⟩
/-- _law_f_chords: value found -/
def b__law_f_chords : MSs := (.cons (.set 1 (.call (PySem.Str.ofString "_law_joins") (.cons (.var 0) .nil)))
  (.cons (.ret (.ife (.notN (.var 1)) (.var 1) (.call (PySem.Str.ofString "_law_first") (.cons (.lis (.cons (.tup (.cons (.str (PySem.Str.ofString "cross")) (.cons (.call (PySem.Str.ofString "_law_first_cross") (.cons (.var 0) .nil)) .nil))) .nil)) .nil))))
  .nil))
def f__law_f_chords : Fi := ⟨1, 1, b__law_f_chords⟩
/-- _law_joins: value points pair backward order k -/
def b__law_joins : MSs := (.cons (.ifs (.nt (.call (PySem.Str.ofString "_law_pairs_form") (.cons (.var 0) .nil))) (.cons (.ret (.tup (.cons (.str (PySem.Str.ofString "form")) (.cons (.int 0) .nil))))
  .nil) .nil)
  (.cons (.set 1 (.lis .nil))
  (.cons (.for_ (.nm 2) (.seq (.var 0)) (.cons (.set 1 (.bin .add (.var 1) (.blt .list (.var 2))))
  .nil))
  (.cons (.set 3 (.lc (.var 5) (.nm 5) (.rng1 (.blt .len (.var 0))) (.one (.cmp .gt (.idx (.idx (.var 0) (.var 5)) (.int 0)) (.idx (.idx (.var 0) (.var 5)) (.int 1)))) [5]))
  (.cons (.set 4 (.lc (.var 5) (.nm 5) (.rng1 (.bin .sub (.blt .len (.var 0)) (.int 1))) (.one (.cmp .gt (.idx (.var 0) (.var 5)) (.idx (.var 0) (.bin .add (.var 5) (.int 1))))) [5]))
  (.cons (.ret (.call (PySem.Str.ofString "_law_first") (.cons (.lis (.cons (.tup (.cons (.str (PySem.Str.ofString "point")) (.cons (.call (PySem.Str.ofString "_law_wrong_number") (.cons (.var 1) (.cons (.bin .mul (.int 2) (.blt .len (.var 0))) .nil))) .nil))) (.cons (.tup (.cons (.str (PySem.Str.ofString "turned")) (.cons (.call (PySem.Str.ofString "_law_least") (.cons (.var 3) .nil)) .nil))) (.cons (.tup (.cons (.str (PySem.Str.ofString "order")) (.cons (.call (PySem.Str.ofString "_law_least") (.cons (.var 4) .nil)) .nil))) .nil)))) .nil)))
  .nil))))))
def f__law_joins : Fi := ⟨1, 5, b__law_joins⟩
/-- _law_pairs_form: value one -/
def b__law_pairs_form : MSs := (.cons (.ret (.and (.isi (.var 0) .tuple) (.and (.cmp .le (.blt .len (.var 0)) (.int 1000)) (.cmp .eq (.blt .len (.lc (.var 1) (.nm 1) (.seq (.var 0)) (.one (.nt (.call (PySem.Str.ofString "_law_is_row") (.cons (.var 1) (.cons (.int 2) (.cons (.int 0) (.cons (.int 1000) .nil))))))) [1])) (.int 0)))))
  .nil)
def f__law_pairs_form : Fi := ⟨1, 1, b__law_pairs_form⟩
/-- _law_first_cross: pairs found k j -/
def b__law_first_cross : MSs := (.cons (.own 1 (.lis .nil))
  (.cons (.for_ (.nm 2) (.rng1 (.blt .len (.var 0))) (.cons (.ifs (.cmp .gt (.blt .len (.lc (.var 3) (.nm 3) (.rng1 (.var 2)) (.one (.call (PySem.Str.ofString "_law_cross") (.cons (.idx (.var 0) (.var 3)) (.cons (.idx (.var 0) (.var 2)) .nil)))) [3])) (.int 0)) (.cons (.app 1 (.var 2))
  .nil) .nil)
  .nil))
  (.cons (.ret (.call (PySem.Str.ofString "_law_least") (.cons (.var 1) .nil)))
  .nil)))
def f__law_first_cross : Fi := ⟨1, 3, b__law_first_cross⟩
/-- _law_cross: one two -/
def b__law_cross : MSs := (.cons (.ret (.or (.ch4 .lt .lt .lt (.idx (.var 0) (.int 0)) (.idx (.var 1) (.int 0)) (.idx (.var 0) (.int 1)) (.idx (.var 1) (.int 1))) (.ch4 .lt .lt .lt (.idx (.var 1) (.int 0)) (.idx (.var 0) (.int 0)) (.idx (.var 1) (.int 1)) (.idx (.var 0) (.int 1)))))
  .nil)
def f__law_cross : Fi := ⟨2, 0, b__law_cross⟩
/-- chords_to_tables: value a _ b -/
def b_chords_to_tables : MSs := (.cons (.ret (.tup (.cons (.blt .tuple (.lc (.var 1) (.two 1 2) (.seq (.var 0)) .yes [1, 2])) (.cons (.blt .tuple (.blt .sorted (.lc (.var 3) (.two 2 3) (.seq (.var 0)) .yes [2, 3]))) .nil))))
  .nil)
def f_chords_to_tables : Fi := ⟨1, 3, b_chords_to_tables⟩
/-- _law_tables: value -/
def b__law_tables : MSs := (.cons (.ret (.tup (.cons (.blt .tuple (.call (PySem.Str.ofString "_law_opens") (.cons (.var 0) .nil))) (.cons (.blt .tuple (.call (PySem.Str.ofString "_law_shuts") (.cons (.var 0) .nil))) .nil))))
  .nil)
def f__law_tables : Fi := ⟨1, 0, b__law_tables⟩
/-- _law_shuts: value k -/
def b__law_shuts : MSs := (.cons (.ret (.lc (.var 1) (.nm 1) (.rng1 (.blt .len (.var 0))) (.one (.cmp .eq (.idx (.var 0) (.var 1)) (.int 1))) [1]))
  .nil)
def f__law_shuts : Fi := ⟨1, 1, b__law_shuts⟩
/-- _law_opens: value k -/
def b__law_opens : MSs := (.cons (.ret (.lc (.var 1) (.nm 1) (.rng1 (.blt .len (.var 0))) (.one (.cmp .eq (.idx (.var 0) (.var 1)) (.int 0))) [1]))
  .nil)
def f__law_opens : Fi := ⟨1, 1, b__law_opens⟩
/-- to_forks_cuts: value -/
def b_to_forks_cuts : MSs := (.cons (.ret (.call (PySem.Str.ofString "fork_between") (.cons (.idx (.var 0) (.int 1)) (.cons (.int 0) (.cons (.bin .sub (.idx (.var 0) (.int 0)) (.int 1)) .nil)))))
  .nil)
def f_to_forks_cuts : Fi := ⟨1, 0, b_to_forks_cuts⟩
/-- fork_between: cuts first last sides k -/
def b_fork_between : MSs := (.cons (.ifs (.cmp .lt (.bin .sub (.var 2) (.var 1)) (.int 2)) (.cons (.ret (.tup .nil))
  .nil) .nil)
  (.cons (.set 3 (.lc (.var 4) (.nm 4) (.rng2 (.bin .add (.var 1) (.int 1)) (.var 2)) (.one (.and (.call (PySem.Str.ofString "is_side") (.cons (.var 0) (.cons (.var 1) (.cons (.var 4) .nil)))) (.call (PySem.Str.ofString "is_side") (.cons (.var 0) (.cons (.var 4) (.cons (.var 2) .nil)))))) [4]))
  (.cons (.ret (.tup (.cons (.call (PySem.Str.ofString "fork_between") (.cons (.var 0) (.cons (.var 1) (.cons (.idx (.var 3) (.int 0)) .nil)))) (.cons (.call (PySem.Str.ofString "fork_between") (.cons (.var 0) (.cons (.idx (.var 3) (.int 0)) (.cons (.var 2) .nil)))) .nil))))
  .nil)))
def f_fork_between : Fi := ⟨3, 2, b_fork_between⟩
/-- is_side: cuts a b -/
def b_is_side : MSs := (.cons (.ret (.or (.cmp .eq (.var 2) (.bin .add (.var 1) (.int 1))) (.isin (.tup (.cons (.var 1) (.cons (.var 2) .nil))) (.var 0))))
  .nil)
def f_is_side : Fi := ⟨3, 0, b_is_side⟩
/-- fault_cuts: value line order crossed short found many cuts cut k j -/
def b_fault_cuts : MSs := (.cons (.ifs (.or (.nt (.isi (.var 0) .tuple)) (.or (.cmp .ne (.blt .len (.var 0)) (.int 2)) (.or (.nt (.call (PySem.Str.ofString "is_from") (.cons (.idx (.var 0) (.int 0)) (.cons (.int 2) (.cons (.glo (PySem.Str.ofString "MOST")) .nil))))) (.nt (.call (PySem.Str.ofString "are_pairs") (.cons (.idx (.var 0) (.int 1)) .nil)))))) (.cons (.ret (.glo (PySem.Str.ofString "FORM")))
  .nil) .nil)
  (.cons (.unp 6 7 (.var 0))
  (.cons (.set 1 (.call (PySem.Str.ofString "first_true") (.cons (.lc (.nt (.call (PySem.Str.ofString "is_line") (.cons (.var 6) (.cons (.var 8) .nil)))) (.nm 8) (.seq (.var 7)) .yes [8]) .nil)))
  (.cons (.set 2 (.call (PySem.Str.ofString "first_true") (.cons (.lc (.cmp .ge (.idx (.var 7) (.var 9)) (.idx (.var 7) (.bin .add (.var 9) (.int 1)))) (.nm 9) (.rng1 (.bin .sub (.blt .len (.var 7)) (.int 1))) .yes [9]) .nil)))
  (.cons (.set 3 (.call (PySem.Str.ofString "first_true") (.cons (.lc (.blt .any (.lc (.call (PySem.Str.ofString "cross_cuts") (.cons (.idx (.var 7) (.var 10)) (.cons (.idx (.var 7) (.var 9)) .nil))) (.nm 10) (.rng1 (.var 9)) .yes [10])) (.nm 9) (.rng1 (.blt .len (.var 7))) .yes [9]) .nil)))
  (.cons (.set 4 (.ife (.cmp .ne (.blt .len (.var 7)) (.max2 (.int 0) (.bin .sub (.var 6) (.int 3)))) (.blt .len (.var 7)) .non))
  (.cons (.set 5 (.lis (.cons (.call (PySem.Str.ofString "fault_at") (.cons (.str (PySem.Str.ofString "line")) (.cons (.var 1) .nil))) (.cons (.call (PySem.Str.ofString "fault_at") (.cons (.str (PySem.Str.ofString "order")) (.cons (.var 2) .nil))) (.cons (.call (PySem.Str.ofString "fault_at") (.cons (.str (PySem.Str.ofString "cross")) (.cons (.var 3) .nil))) .nil)))))
  (.cons (.ret (.call (PySem.Str.ofString "first_of") (.cons (.bin .add (.var 5) (.lis (.cons (.call (PySem.Str.ofString "fault_at") (.cons (.str (PySem.Str.ofString "many")) (.cons (.var 4) .nil))) .nil))) .nil)))
  .nil))))))))
def f_fault_cuts : Fi := ⟨1, 10, b_fault_cuts⟩
/-- is_line: many cut -/
def b_is_line : MSs := (.cons (.ret (.and (.ch .lt .lt (.bin .add (.idx (.var 1) (.int 0)) (.int 1)) (.idx (.var 1) (.int 1)) (.var 0)) (.cmp .ne (.var 1) (.tup (.cons (.int 0) (.cons (.bin .sub (.var 0) (.int 1)) .nil))))))
  .nil)
def f_is_line : Fi := ⟨2, 0, b_is_line⟩
/-- _law_fork: value end -/
def b__law_fork : MSs := (.cons (.ifs (.cmp .eq (.var 0) (.tup .nil)) (.cons (.ret (.tup .nil))
  .nil) .nil)
  (.cons (.set 1 (.call (PySem.Str.ofString "_law_end") (.cons (.var 0) (.cons (.int 0) .nil))))
  (.cons (.ret (.tup (.cons (.call (PySem.Str.ofString "_law_fork") (.cons (.slB (.var 0) (.int 1) (.var 1)) .nil)) (.cons (.call (PySem.Str.ofString "_law_fork") (.cons (.slF (.var 0) (.bin .add (.var 1) (.int 1))) .nil)) .nil))))
  .nil)))
def f__law_fork : Fi := ⟨1, 1, b__law_fork⟩
/-- _law_f_cuts: value line order short many cuts k -/
def b__law_f_cuts : MSs := (.cons (.ifs (.or (.nt (.isi (.var 0) .tuple)) (.or (.cmp .ne (.blt .len (.var 0)) (.int 2)) (.or (.nt (.call (PySem.Str.ofString "_law_is_number") (.cons (.idx (.var 0) (.int 0)) (.cons (.int 2) (.cons (.int 1000) .nil))))) (.nt (.call (PySem.Str.ofString "_law_pairs_form") (.cons (.idx (.var 0) (.int 1)) .nil)))))) (.cons (.ret (.tup (.cons (.str (PySem.Str.ofString "form")) (.cons (.int 0) .nil))))
  .nil) .nil)
  (.cons (.unp 4 5 (.var 0))
  (.cons (.set 1 (.lc (.var 6) (.nm 6) (.rng1 (.blt .len (.var 5))) (.one (.or (.cmp .lt (.bin .sub (.idx (.idx (.var 5) (.var 6)) (.int 1)) (.idx (.idx (.var 5) (.var 6)) (.int 0))) (.int 2)) (.or (.cmp .ge (.idx (.idx (.var 5) (.var 6)) (.int 1)) (.var 4)) (.cmp .eq (.idx (.var 5) (.var 6)) (.tup (.cons (.int 0) (.cons (.bin .sub (.var 4) (.int 1)) .nil))))))) [6]))
  (.cons (.set 2 (.lc (.var 6) (.nm 6) (.rng1 (.bin .sub (.blt .len (.var 5)) (.int 1))) (.one (.cmp .ge (.idx (.var 5) (.var 6)) (.idx (.var 5) (.bin .add (.var 6) (.int 1))))) [6]))
  (.cons (.set 3 (.ife (.cmp .ne (.blt .len (.var 5)) (.max2 (.int 0) (.bin .sub (.var 4) (.int 3)))) (.blt .len (.var 5)) .non))
  (.cons (.ret (.call (PySem.Str.ofString "_law_first") (.cons (.lis (.cons (.tup (.cons (.str (PySem.Str.ofString "line")) (.cons (.call (PySem.Str.ofString "_law_least") (.cons (.var 1) .nil)) .nil))) (.cons (.tup (.cons (.str (PySem.Str.ofString "order")) (.cons (.call (PySem.Str.ofString "_law_least") (.cons (.var 2) .nil)) .nil))) (.cons (.tup (.cons (.str (PySem.Str.ofString "cross")) (.cons (.call (PySem.Str.ofString "_law_first_cross") (.cons (.var 5) .nil)) .nil))) (.cons (.tup (.cons (.str (PySem.Str.ofString "many")) (.cons (.var 3) .nil))) .nil))))) .nil)))
  .nil))))))
def f__law_f_cuts : Fi := ⟨1, 6, b__law_f_cuts⟩
/-- _law_is_number: value low high -/
def b__law_is_number : MSs := (.cons (.ret (.and (.call (PySem.Str.ofString "_law_is_integer") (.cons (.var 0) .nil)) (.and (.cmp .le (.var 1) (.var 0)) (.cmp .le (.var 0) (.var 2)))))
  .nil)
def f__law_is_number : Fi := ⟨3, 0, b__law_is_number⟩
/-- _law_cuts: value many -/
def b__law_cuts : MSs := (.cons (.set 1 (.bin .add (.bin .fdiv (.blt .len (.var 0)) (.int 2)) (.int 2)))
  (.cons (.ret (.tup (.cons (.var 1) (.cons (.blt .tuple (.blt .sorted (.call (PySem.Str.ofString "_law_lines") (.cons (.call (PySem.Str.ofString "_law_fork") (.cons (.var 0) .nil)) (.cons (.int 0) (.cons (.bin .sub (.var 1) (.int 1)) .nil)))))) .nil))))
  .nil))
def f__law_cuts : Fi := ⟨1, 1, b__law_cuts⟩
/-- _law_lines: fork low high top found side -/
def b__law_lines : MSs := (.cons (.ifs (.cmp .eq (.var 0) (.tup .nil)) (.cons (.ret (.lis .nil))
  .nil) .nil)
  (.cons (.set 3 (.bin .add (.bin .add (.var 1) (.int 1)) (.call (PySem.Str.ofString "_law_fork_size") (.cons (.idx (.var 0) (.int 0)) .nil))))
  (.cons (.set 4 (.bin .add (.call (PySem.Str.ofString "_law_lines") (.cons (.idx (.var 0) (.int 0)) (.cons (.var 1) (.cons (.var 3) .nil)))) (.call (PySem.Str.ofString "_law_lines") (.cons (.idx (.var 0) (.int 1)) (.cons (.var 3) (.cons (.var 2) .nil))))))
  (.cons (.ret (.bin .add (.var 4) (.lc (.var 5) (.nm 5) (.seq (.tup (.cons (.tup (.cons (.var 1) (.cons (.var 3) .nil))) (.cons (.tup (.cons (.var 3) (.cons (.var 2) .nil))) .nil)))) (.one (.cmp .gt (.bin .sub (.idx (.var 5) (.int 1)) (.idx (.var 5) (.int 0))) (.int 1))) [5])))
  .nil))))
def f__law_lines : Fi := ⟨3, 3, b__law_lines⟩
/-- _law_fork_size: fork -/
def b__law_fork_size : MSs := (.cons (.ret (.ife (.cmp .eq (.blt .len (.var 0)) (.int 2)) (.bin .add (.bin .add (.int 1) (.call (PySem.Str.ofString "_law_fork_size") (.cons (.idx (.var 0) (.int 0)) .nil))) (.call (PySem.Str.ofString "_law_fork_size") (.cons (.idx (.var 0) (.int 1)) .nil))) (.int 0)))
  .nil)
def f__law_fork_size : Fi := ⟨1, 0, b__law_fork_size⟩
/-- from_cuts: value many cuts corner cut -/
def b_from_cuts : MSs := (.cons (.unp 1 2 (.var 0))
  (.cons (.ifs (.cmp .eq (.var 1) (.int 2)) (.cons (.ret (.tup (.cons (.int 0) (.cons (.int 0) .nil))))
  .nil) .nil)
  (.cons (.ret (.blt .tuple (.lc (.bin .add (.int 1) (.blt .len (.lc (.var 4) (.nm 4) (.seq (.var 2)) (.one (.isin (.var 3) (.var 4))) [4]))) (.nm 3) (.rng1 (.var 1)) .yes [3])))
  .nil)))
def f_from_cuts : Fi := ⟨1, 4, b_from_cuts⟩
/-- _law_friezes: value many cuts corner cut -/
def b__law_friezes : MSs := (.cons (.unp 1 2 (.call (PySem.Str.ofString "_law_cuts") (.cons (.var 0) .nil)))
  (.cons (.ifs (.cmp .eq (.var 1) (.int 2)) (.cons (.ret (.tup (.cons (.int 0) (.cons (.int 0) .nil))))
  .nil) .nil)
  (.cons (.ret (.blt .tuple (.lc (.bin .add (.int 1) (.blt .len (.lc (.var 4) (.nm 4) (.seq (.var 2)) (.one (.isin (.var 3) (.var 4))) [4]))) (.nm 3) (.rng1 (.var 1)) .yes [3])))
  .nil)))
def f__law_friezes : Fi := ⟨1, 4, b__law_friezes⟩
/-- from_forks_cuts: fork many -/
def b_from_forks_cuts : MSs := (.cons (.set 1 (.bin .add (.call (PySem.Str.ofString "size") (.cons (.var 0) .nil)) (.int 2)))
  (.cons (.ret (.tup (.cons (.var 1) (.cons (.blt .tuple (.blt .sorted (.call (PySem.Str.ofString "lines_of") (.cons (.var 0) (.cons (.int 0) (.cons (.bin .sub (.var 1) (.int 1)) .nil)))))) .nil))))
  .nil))
def f_from_forks_cuts : Fi := ⟨1, 1, b_from_forks_cuts⟩
/-- size: value -/
def b_size : MSs := (.cons (.ret (.ife (.cmp .eq (.blt .len (.var 0)) (.int 2)) (.bin .add (.bin .add (.int 1) (.call (PySem.Str.ofString "size") (.cons (.idx (.var 0) (.int 0)) .nil))) (.call (PySem.Str.ofString "size") (.cons (.idx (.var 0) (.int 1)) .nil))) (.int 0)))
  .nil)
def f_size : Fi := ⟨1, 0, b_size⟩
/-- lines_of: fork first last top found side -/
def b_lines_of : MSs := (.cons (.ifs (.cmp .eq (.blt .len (.var 0)) (.int 0)) (.cons (.ret (.lis .nil))
  .nil) .nil)
  (.cons (.set 3 (.bin .add (.bin .add (.var 1) (.call (PySem.Str.ofString "size") (.cons (.idx (.var 0) (.int 0)) .nil))) (.int 1)))
  (.cons (.set 4 (.lc (.var 5) (.nm 5) (.seq (.tup (.cons (.tup (.cons (.var 1) (.cons (.var 3) .nil))) (.cons (.tup (.cons (.var 3) (.cons (.var 2) .nil))) .nil)))) (.one (.cmp .lt (.bin .add (.idx (.var 5) (.int 0)) (.int 1)) (.idx (.var 5) (.int 1)))) [5]))
  (.cons (.ret (.bin .add (.bin .add (.var 4) (.call (PySem.Str.ofString "lines_of") (.cons (.idx (.var 0) (.int 0)) (.cons (.var 1) (.cons (.var 3) .nil))))) (.call (PySem.Str.ofString "lines_of") (.cons (.idx (.var 0) (.int 1)) (.cons (.var 3) (.cons (.var 2) .nil))))))
  .nil))))
def f_lines_of : Fi := ⟨3, 3, b_lines_of⟩
/-- fault_forks: value -/
def b_fault_forks : MSs := (.cons (.ret (.ife (.call (PySem.Str.ofString "has_form_forks") (.cons (.var 0) (.cons (.glo (PySem.Str.ofString "DEEPEST")) .nil))) .non (.glo (PySem.Str.ofString "FORM"))))
  .nil)
def f_fault_forks : Fi := ⟨1, 0, b_fault_forks⟩
/-- has_form_forks: value deep -/
def b_has_form_forks : MSs := (.cons (.ifs (.or (.nt (.isi (.var 0) .tuple)) (.nin (.blt .len (.var 0)) (.tup (.cons (.int 0) (.cons (.int 2) .nil))))) (.cons (.ret (.bl false))
  .nil) .nil)
  (.cons (.ret (.or (.cmp .eq (.blt .len (.var 0)) (.int 0)) (.and (.cmp .gt (.var 1) (.int 0)) (.and (.call (PySem.Str.ofString "has_form_forks") (.cons (.idx (.var 0) (.int 0)) (.cons (.bin .sub (.var 1) (.int 1)) .nil))) (.call (PySem.Str.ofString "has_form_forks") (.cons (.idx (.var 0) (.int 1)) (.cons (.bin .sub (.var 1) (.int 1)) .nil)))))))
  .nil))
def f_has_form_forks : Fi := ⟨2, 0, b_has_form_forks⟩
/-- _law_f_forks: value -/
def b__law_f_forks : MSs := (.cons (.ret (.ife (.call (PySem.Str.ofString "_law_fork_form") (.cons (.var 0) (.cons (.int 300) .nil))) .non (.tup (.cons (.str (PySem.Str.ofString "form")) (.cons (.int 0) .nil)))))
  .nil)
def f__law_f_forks : Fi := ⟨1, 0, b__law_f_forks⟩
/-- _law_fork_form: value deep -/
def b__law_fork_form : MSs := (.cons (.ifs (.or (.nt (.isi (.var 0) .tuple)) (.nin (.blt .len (.var 0)) (.tup (.cons (.int 0) (.cons (.int 2) .nil))))) (.cons (.ret (.bl false))
  .nil) .nil)
  (.cons (.ret (.or (.cmp .eq (.var 0) (.tup .nil)) (.and (.cmp .gt (.var 1) (.int 0)) (.and (.call (PySem.Str.ofString "_law_fork_form") (.cons (.idx (.var 0) (.int 0)) (.cons (.bin .sub (.var 1) (.int 1)) .nil))) (.call (PySem.Str.ofString "_law_fork_form") (.cons (.idx (.var 0) (.int 1)) (.cons (.bin .sub (.var 1) (.int 1)) .nil)))))))
  .nil))
def f__law_fork_form : Fi := ⟨2, 0, b__law_fork_form⟩
/-- from_forks_sorts: fork -/
def b_from_forks_sorts : MSs := (.cons (.ret (.call (PySem.Str.ofString "order_of") (.cons (.var 0) (.cons (.int 0) .nil))))
  .nil)
def f_from_forks_sorts : Fi := ⟨1, 0, b_from_forks_sorts⟩
/-- order_of: fork least low left right -/
def b_order_of : MSs := (.cons (.ifs (.cmp .eq (.blt .len (.var 0)) (.int 0)) (.cons (.ret (.tup .nil))
  .nil) .nil)
  (.cons (.set 2 (.call (PySem.Str.ofString "size") (.cons (.idx (.var 0) (.int 0)) .nil)))
  (.cons (.par 3 4 (.call (PySem.Str.ofString "order_of") (.cons (.idx (.var 0) (.int 0)) (.cons (.var 1) .nil))) (.call (PySem.Str.ofString "order_of") (.cons (.idx (.var 0) (.int 1)) (.cons (.bin .add (.var 1) (.var 2)) .nil))))
  (.cons (.ret (.bin .add (.bin .add (.var 3) (.tup (.cons (.bin .sub (.bin .add (.var 1) (.call (PySem.Str.ofString "size") (.cons (.var 0) .nil))) (.int 1)) .nil))) (.var 4)))
  .nil))))
def f_order_of : Fi := ⟨2, 3, b_order_of⟩
/-- _law_sorts: value -/
def b__law_sorts : MSs := (.cons (.ret (.call (PySem.Str.ofString "_law_order_of") (.cons (.call (PySem.Str.ofString "_law_fork") (.cons (.var 0) .nil)) .nil)))
  .nil)
def f__law_sorts : Fi := ⟨1, 0, b__law_sorts⟩
/-- _law_order_of: fork low number -/
def b__law_order_of : MSs := (.cons (.ifs (.cmp .eq (.var 0) (.tup .nil)) (.cons (.ret (.tup .nil))
  .nil) .nil)
  (.cons (.set 1 (.call (PySem.Str.ofString "_law_order_of") (.cons (.idx (.var 0) (.int 0)) .nil)))
  (.cons (.ret (.bin .add (.bin .add (.var 1) (.tup (.cons (.bin .sub (.call (PySem.Str.ofString "_law_fork_size") (.cons (.var 0) .nil)) (.int 1)) .nil))) (.blt .tuple (.lc (.bin .add (.var 2) (.blt .len (.var 1))) (.nm 2) (.seq (.call (PySem.Str.ofString "_law_order_of") (.cons (.idx (.var 0) (.int 1)) .nil))) .yes [2]))))
  .nil)))
def f__law_order_of : Fi := ⟨1, 2, b__law_order_of⟩
/-- from_forks_trees: value -/
def b_from_forks_trees : MSs := (.cons (.ret (.ife (.cmp .eq (.blt .len (.var 0)) (.int 2)) (.bin .add (.tup (.cons (.call (PySem.Str.ofString "from_forks_trees") (.cons (.idx (.var 0) (.int 0)) .nil)) .nil)) (.call (PySem.Str.ofString "from_forks_trees") (.cons (.idx (.var 0) (.int 1)) .nil))) (.tup .nil)))
  .nil)
def f_from_forks_trees : Fi := ⟨1, 0, b_from_forks_trees⟩
/-- _law_tree: value found at end -/
def b__law_tree : MSs := (.cons (.set 1 (.tup .nil))
  (.cons (.set 2 (.int 0))
  (.cons (.whl (.cmp .lt (.var 2) (.blt .len (.var 0))) (.cons (.set 3 (.call (PySem.Str.ofString "_law_end") (.cons (.var 0) (.cons (.var 2) .nil))))
  (.cons (.set 1 (.bin .add (.var 1) (.tup (.cons (.call (PySem.Str.ofString "_law_tree") (.cons (.slB (.var 0) (.bin .add (.var 2) (.int 1)) (.var 3)) .nil)) .nil))))
  (.cons (.set 2 (.bin .add (.var 3) (.int 1)))
  .nil))))
  (.cons (.ret (.var 1))
  .nil))))
def f__law_tree : Fi := ⟨1, 3, b__law_tree⟩
/-- to_cuts: value row corners found ear many ends -/
def b_to_cuts : MSs := (.cons (.set 1 (.blt .list (.var 0)))
  (.cons (.set 2 (.lrg (.blt .len (.var 1))))
  (.cons (.own 3 (.lis .nil))
  (.cons (.whl (.cmp .gt (.blt .len (.var 1)) (.int 3)) (.cons (.set 4 (.call (PySem.Str.ofString "ear_of") (.cons (.var 1) .nil)))
  (.cons (.set 5 (.blt .len (.var 1)))
  (.cons (.set 6 (.lis (.cons (.idx (.var 2) (.bin .mod (.bin .sub (.var 4) (.int 1)) (.var 5))) (.cons (.idx (.var 2) (.bin .mod (.bin .add (.var 4) (.int 1)) (.var 5))) .nil))))
  (.cons (.app 3 (.blt .tuple (.blt .sorted (.var 6))))
  (.cons (.set 1 (.call (PySem.Str.ofString "without_ear") (.cons (.var 1) (.cons (.var 4) .nil))))
  (.cons (.set 2 (.bin .add (.slT (.var 2) (.var 4)) (.slF (.var 2) (.bin .add (.var 4) (.int 1)))))
  .nil)))))))
  (.cons (.ret (.tup (.cons (.blt .len (.var 0)) (.cons (.blt .tuple (.blt .sorted (.var 3))) .nil))))
  .nil)))))
def f_to_cuts : Fi := ⟨1, 6, b_to_cuts⟩
/-- without_ear: row ear many found -/
def b_without_ear : MSs := (.cons (.set 2 (.blt .len (.var 0)))
  (.cons (.own 3 (.blt .list (.var 0)))
  (.cons (.sau 3 .sub (.bin .mod (.bin .add (.var 1) (.int 1)) (.var 2)) (.int 1))
  (.cons (.sau 3 .sub (.bin .mod (.bin .sub (.var 1) (.int 1)) (.var 2)) (.int 1))
  (.cons (.ret (.bin .add (.slT (.var 3) (.var 1)) (.slF (.var 3) (.bin .add (.var 1) (.int 1)))))
  .nil)))))
def f_without_ear : Fi := ⟨2, 2, b_without_ear⟩
/-- ear_of: row -/
def b_ear_of : MSs := (.cons (.ret (.ife (.isin (.int 1) (.var 0)) (.ixo 0 (.int 1)) .non))
  .nil)
def f_ear_of : Fi := ⟨1, 0, b_ear_of⟩
/-- fault_friezes: value row ear -/
def b_fault_friezes : MSs := (.cons (.ifs (.or (.nt (.call (PySem.Str.ofString "is_row") (.cons (.var 0) .nil))) (.cmp .lt (.blt .len (.var 0)) (.int 2))) (.cons (.ret (.glo (PySem.Str.ofString "FORM")))
  .nil) .nil)
  (.cons (.ifs (.cmp .ne (.blt .sum (.var 0)) (.bin .mul (.int 3) (.bin .sub (.blt .len (.var 0)) (.int 2)))) (.cons (.ret (.tup (.cons (.str (PySem.Str.ofString "sum")) (.cons (.blt .sum (.var 0)) .nil))))
  .nil) .nil)
  (.cons (.set 1 (.blt .list (.var 0)))
  (.cons (.whl (.cmp .gt (.blt .len (.var 1)) (.int 3)) (.cons (.set 2 (.call (PySem.Str.ofString "ear_of") (.cons (.var 1) .nil)))
  (.cons (.ifs (.or (.isN (.var 2)) (.cmp .lt (.blt .min (.var 1)) (.int 1))) (.cons (.ret (.tup (.cons (.str (PySem.Str.ofString "ears")) (.cons (.blt .len (.var 1)) .nil))))
  .nil) .nil)
  (.cons (.set 1 (.call (PySem.Str.ofString "without_ear") (.cons (.var 1) (.cons (.var 2) .nil))))
  .nil))))
  (.cons (.ret (.ife (.isin (.var 1) (.tup (.cons (.lis (.cons (.int 0) (.cons (.int 0) .nil))) (.cons (.lis (.cons (.int 1) (.cons (.int 1) (.cons (.int 1) .nil)))) .nil)))) .non (.tup (.cons (.str (PySem.Str.ofString "ears")) (.cons (.blt .len (.var 1)) .nil)))))
  .nil)))))
def f_fault_friezes : Fi := ⟨1, 2, b_fault_friezes⟩
/-- _law_f_friezes: value row ears many nexts k -/
def b__law_f_friezes : MSs := (.cons (.ifs (.or (.nt (.call (PySem.Str.ofString "_law_small_row") (.cons (.var 0) .nil))) (.cmp .lt (.blt .len (.var 0)) (.int 2))) (.cons (.ret (.tup (.cons (.str (PySem.Str.ofString "form")) (.cons (.int 0) .nil))))
  .nil) .nil)
  (.cons (.ifs (.cmp .ne (.blt .sum (.var 0)) (.bin .mul (.int 3) (.bin .sub (.blt .len (.var 0)) (.int 2)))) (.cons (.ret (.tup (.cons (.str (PySem.Str.ofString "sum")) (.cons (.blt .sum (.var 0)) .nil))))
  .nil) .nil)
  (.cons (.set 1 (.blt .list (.var 0)))
  (.cons (.whl (.cmp .gt (.blt .len (.var 1)) (.int 3)) (.cons (.set 2 (.lc (.var 5) (.nm 5) (.rng1 (.blt .len (.var 1))) (.one (.cmp .eq (.idx (.var 1) (.var 5)) (.int 1))) [5]))
  (.cons (.ifs (.or (.cmp .eq (.var 2) (.lis .nil)) (.cmp .lt (.blt .min (.var 1)) (.int 1))) (.cons (.ret (.tup (.cons (.str (PySem.Str.ofString "ears")) (.cons (.blt .len (.var 1)) .nil))))
  .nil) .nil)
  (.cons (.set 3 (.blt .len (.var 1)))
  (.cons (.set 4 (.lis (.cons (.bin .mod (.bin .add (.idx (.var 2) (.int 0)) (.int 1)) (.var 3)) (.cons (.bin .mod (.bin .sub (.idx (.var 2) (.int 0)) (.int 1)) (.var 3)) .nil))))
  (.cons (.set 1 (.lc (.bin .sub (.idx (.var 1) (.var 5)) (.blt .int (.isin (.var 5) (.var 4)))) (.nm 5) (.rng1 (.var 3)) (.one (.cmp .ne (.var 5) (.idx (.var 2) (.int 0)))) [5]))
  .nil))))))
  (.cons (.ret (.ife (.or (.cmp .eq (.var 1) (.lis (.cons (.int 0) (.cons (.int 0) .nil)))) (.cmp .eq (.var 1) (.lis (.cons (.int 1) (.cons (.int 1) (.cons (.int 1) .nil)))))) .non (.tup (.cons (.str (PySem.Str.ofString "ears")) (.cons (.blt .len (.var 1)) .nil)))))
  .nil)))))
def f__law_f_friezes : Fi := ⟨1, 5, b__law_f_friezes⟩
/-- nests_to_tables: value a _ b -/
def b_nests_to_tables : MSs := (.cons (.ret (.tup (.cons (.blt .tuple (.lc (.var 1) (.two 1 2) (.seq (.var 0)) .yes [1, 2])) (.cons (.blt .tuple (.lc (.var 3) (.two 2 3) (.seq (.var 0)) .yes [2, 3])) .nil))))
  .nil)
def f_nests_to_tables : Fi := ⟨1, 3, b_nests_to_tables⟩
/-- fault_nests: value found one other -/
def b_fault_nests : MSs := (.cons (.set 1 (.call (PySem.Str.ofString "joins_fault") (.cons (.var 0) .nil)))
  (.cons (.ifs (.notN (.var 1)) (.cons (.ret (.var 1))
  .nil) .nil)
  (.cons (.ret (.call (PySem.Str.ofString "fault_at") (.cons (.str (PySem.Str.ofString "within")) (.cons (.call (PySem.Str.ofString "first_true") (.cons (.lc (.blt .any (.lc (.call (PySem.Str.ofString "is_within") (.cons (.var 2) (.cons (.var 3) .nil))) (.nm 3) (.seq (.var 0)) .yes [3])) (.nm 2) (.seq (.var 0)) .yes [2]) .nil)) .nil))))
  .nil)))
def f_fault_nests : Fi := ⟨1, 3, b_fault_nests⟩
/-- is_within: one two -/
def b_is_within : MSs := (.cons (.ret (.and (.cmp .lt (.idx (.var 1) (.int 0)) (.idx (.var 0) (.int 0))) (.cmp .lt (.idx (.var 0) (.int 1)) (.idx (.var 1) (.int 1)))))
  .nil)
def f_is_within : Fi := ⟨2, 0, b_is_within⟩
/-- _law_nests: value opens shuts k -/
def b__law_nests : MSs := (.cons (.par 1 2 (.call (PySem.Str.ofString "_law_opens") (.cons (.var 0) .nil)) (.call (PySem.Str.ofString "_law_shuts") (.cons (.var 0) .nil)))
  (.cons (.ret (.blt .tuple (.lc (.tup (.cons (.idx (.var 1) (.var 3)) (.cons (.idx (.var 2) (.var 3)) .nil))) (.nm 3) (.rng1 (.blt .len (.var 1))) .yes [3])))
  .nil))
def f__law_nests : Fi := ⟨1, 3, b__law_nests⟩
/-- _law_f_nests: value found within k pair -/
def b__law_f_nests : MSs := (.cons (.set 1 (.call (PySem.Str.ofString "_law_joins") (.cons (.var 0) .nil)))
  (.cons (.ifs (.notN (.var 1)) (.cons (.ret (.var 1))
  .nil) .nil)
  (.cons (.set 2 (.lc (.var 3) (.nm 3) (.rng1 (.blt .len (.var 0))) (.one (.cmp .gt (.blt .len (.lc (.var 4) (.nm 4) (.seq (.var 0)) (.one (.and (.cmp .lt (.idx (.var 4) (.int 0)) (.idx (.idx (.var 0) (.var 3)) (.int 0))) (.cmp .lt (.idx (.idx (.var 0) (.var 3)) (.int 1)) (.idx (.var 4) (.int 1))))) [4])) (.int 0))) [3]))
  (.cons (.ret (.call (PySem.Str.ofString "_law_first") (.cons (.lis (.cons (.tup (.cons (.str (PySem.Str.ofString "within")) (.cons (.call (PySem.Str.ofString "_law_least") (.cons (.var 2) .nil)) .nil))) .nil)) .nil)))
  .nil))))
def f__law_f_nests : Fi := ⟨1, 4, b__law_f_nests⟩
/-- paths_to_slows: value k -/
def b_paths_to_slows : MSs := (.cons (.ret (.blt .tuple (.lc (.idx (.var 0) (.var 1)) (.nm 1) (.rng1 (.bin .sub (.blt .len (.var 0)) (.int 1))) (.one (.cmp .gt (.idx (.var 0) (.bin .add (.var 1) (.int 1))) (.idx (.var 0) (.var 1)))) [1])))
  .nil)
def f_paths_to_slows : Fi := ⟨1, 1, b_paths_to_slows⟩
/-- fault_paths: value start step low end k height item -/
def b_fault_paths : MSs := (.cons (.ifs (.or (.nt (.isi (.var 0) .tuple)) (.or (.nt (.ch .le .le (.int 1) (.blt .len (.var 0)) (.bin .add (.glo (PySem.Str.ofString "MOST")) (.int 1)))) (.nt (.blt .all (.lc (.call (PySem.Str.ofString "is_whole") (.cons (.var 7) .nil)) (.nm 7) (.seq (.var 0)) .yes [7]))))) (.cons (.ret (.glo (PySem.Str.ofString "FORM")))
  .nil) .nil)
  (.cons (.set 1 (.ife (.cmp .ne (.idx (.var 0) (.int 0)) (.int 0)) (.int 0) .non))
  (.cons (.set 2 (.call (PySem.Str.ofString "first_true") (.cons (.lc (.cmp .ne (.blt .abs (.bin .sub (.idx (.var 0) (.bin .add (.var 5) (.int 1))) (.idx (.var 0) (.var 5)))) (.int 1)) (.nm 5) (.rng1 (.bin .sub (.blt .len (.var 0)) (.int 1))) .yes [5]) .nil)))
  (.cons (.set 3 (.call (PySem.Str.ofString "first_true") (.cons (.lc (.cmp .lt (.var 6) (.int 0)) (.nm 6) (.seq (.var 0)) .yes [6]) .nil)))
  (.cons (.set 4 (.ife (.cmp .ne (.idx (.var 0) (.neg (.int 1))) (.int 0)) (.idx (.var 0) (.neg (.int 1))) .non))
  (.cons (.ret (.call (PySem.Str.ofString "first_of") (.cons (.lis (.cons (.call (PySem.Str.ofString "fault_at") (.cons (.str (PySem.Str.ofString "start")) (.cons (.var 1) .nil))) (.cons (.call (PySem.Str.ofString "fault_at") (.cons (.str (PySem.Str.ofString "step")) (.cons (.var 2) .nil))) (.cons (.call (PySem.Str.ofString "fault_at") (.cons (.str (PySem.Str.ofString "low")) (.cons (.var 3) .nil))) (.cons (.call (PySem.Str.ofString "fault_at") (.cons (.str (PySem.Str.ofString "end")) (.cons (.var 4) .nil))) .nil))))) .nil)))
  .nil))))))
def f_fault_paths : Fi := ⟨1, 7, b_fault_paths⟩
/-- _law_slows: value k -/
def b__law_slows : MSs := (.cons (.ret (.blt .tuple (.lc (.idx (.call (PySem.Str.ofString "_law_heights") (.cons (.var 0) .nil)) (.var 1)) (.nm 1) (.seq (.call (PySem.Str.ofString "_law_opens") (.cons (.var 0) .nil))) .yes [1])))
  .nil)
def f__law_slows : Fi := ⟨1, 1, b__law_slows⟩
/-- _law_heights: value found sign -/
def b__law_heights : MSs := (.cons (.own 1 (.lis (.cons (.int 0) .nil)))
  (.cons (.for_ (.nm 2) (.seq (.var 0)) (.cons (.app 1 (.bin .sub (.bin .add (.idx (.var 1) (.neg (.int 1))) (.int 1)) (.bin .mul (.int 2) (.var 2))))
  .nil))
  (.cons (.retv 1)
  .nil)))
def f__law_heights : Fi := ⟨1, 2, b__law_heights⟩
/-- _law_f_paths: value step low k one -/
def b__law_f_paths : MSs := (.cons (.ifs (.or (.nt (.isi (.var 0) .tuple)) (.or (.cmp .lt (.blt .len (.var 0)) (.int 1)) (.or (.cmp .gt (.blt .len (.var 0)) (.int 1001)) (.cmp .gt (.blt .len (.lc (.var 4) (.nm 4) (.seq (.var 0)) (.one (.nt (.call (PySem.Str.ofString "_law_is_integer") (.cons (.var 4) .nil)))) [4])) (.int 0))))) (.cons (.ret (.tup (.cons (.str (PySem.Str.ofString "form")) (.cons (.int 0) .nil))))
  .nil) .nil)
  (.cons (.set 1 (.lc (.var 3) (.nm 3) (.rng1 (.bin .sub (.blt .len (.var 0)) (.int 1))) (.one (.cmp .ne (.blt .abs (.bin .sub (.idx (.var 0) (.bin .add (.var 3) (.int 1))) (.idx (.var 0) (.var 3)))) (.int 1))) [3]))
  (.cons (.set 2 (.lc (.var 3) (.nm 3) (.rng1 (.blt .len (.var 0))) (.one (.cmp .lt (.idx (.var 0) (.var 3)) (.int 0))) [3]))
  (.cons (.ret (.call (PySem.Str.ofString "_law_first") (.cons (.lis (.cons (.tup (.cons (.str (PySem.Str.ofString "start")) (.cons (.ife (.cmp .ne (.idx (.var 0) (.int 0)) (.int 0)) (.int 0) .non) .nil))) (.cons (.tup (.cons (.str (PySem.Str.ofString "step")) (.cons (.call (PySem.Str.ofString "_law_least") (.cons (.var 1) .nil)) .nil))) (.cons (.tup (.cons (.str (PySem.Str.ofString "low")) (.cons (.call (PySem.Str.ofString "_law_least") (.cons (.var 2) .nil)) .nil))) (.cons (.tup (.cons (.str (PySem.Str.ofString "end")) (.cons (.ife (.cmp .ne (.idx (.var 0) (.neg (.int 1))) (.int 0)) (.idx (.var 0) (.neg (.int 1))) .non) .nil))) .nil))))) .nil)))
  .nil))))
def f__law_f_paths : Fi := ⟨1, 4, b__law_f_paths⟩
/-- slows_to_stairs: value k -/
def b_slows_to_stairs : MSs := (.cons (.ret (.sRvt (.blt .tuple (.lc (.bin .sub (.var 1) (.idx (.var 0) (.var 1))) (.nm 1) (.rng1 (.blt .len (.var 0))) .yes [1]))))
  .nil)
def f_slows_to_stairs : Fi := ⟨1, 1, b_slows_to_stairs⟩
/-- fault_slows: value start rise k -/
def b_fault_slows : MSs := (.cons (.ifs (.nt (.call (PySem.Str.ofString "is_row") (.cons (.var 0) .nil))) (.cons (.ret (.glo (PySem.Str.ofString "FORM")))
  .nil) .nil)
  (.cons (.set 1 (.ife (.and (.cmp .gt (.blt .len (.var 0)) (.int 0)) (.cmp .ne (.idx (.var 0) (.int 0)) (.int 0))) (.int 0) .non))
  (.cons (.set 2 (.call (PySem.Str.ofString "first_true") (.cons (.lc (.cmp .gt (.idx (.var 0) (.bin .add (.var 3) (.int 1))) (.bin .add (.idx (.var 0) (.var 3)) (.int 1))) (.nm 3) (.rng1 (.bin .sub (.blt .len (.var 0)) (.int 1))) .yes [3]) .nil)))
  (.cons (.ret (.call (PySem.Str.ofString "first_of") (.cons (.lis (.cons (.call (PySem.Str.ofString "fault_at") (.cons (.str (PySem.Str.ofString "start")) (.cons (.var 1) .nil))) (.cons (.call (PySem.Str.ofString "fault_at") (.cons (.str (PySem.Str.ofString "rise")) (.cons (.var 2) .nil))) .nil))) .nil)))
  .nil))))
def f_fault_slows : Fi := ⟨1, 3, b_fault_slows⟩
/-- _law_stairs: value k j -/
def b__law_stairs : MSs := (.cons (.ret (.sRev (.lc (.bin .sub (.var 1) (.blt .len (.lc (.var 2) (.nm 2) (.rng1 (.var 1)) (.one (.cmp .eq (.idx (.var 0) (.var 2)) (.int 0))) [2]))) (.nm 1) (.seq (.call (PySem.Str.ofString "_law_opens") (.cons (.var 0) .nil))) .yes [1])))
  .nil)
def f__law_stairs : Fi := ⟨1, 2, b__law_stairs⟩
/-- _law_f_slows: value rise k -/
def b__law_f_slows : MSs := (.cons (.ifs (.nt (.call (PySem.Str.ofString "_law_small_row") (.cons (.var 0) .nil))) (.cons (.ret (.tup (.cons (.str (PySem.Str.ofString "form")) (.cons (.int 0) .nil))))
  .nil) .nil)
  (.cons (.set 1 (.lc (.var 2) (.nm 2) (.rng1 (.bin .sub (.blt .len (.var 0)) (.int 1))) (.one (.cmp .gt (.idx (.var 0) (.bin .add (.var 2) (.int 1))) (.bin .add (.idx (.var 0) (.var 2)) (.int 1)))) [2]))
  (.cons (.ret (.call (PySem.Str.ofString "_law_first") (.cons (.lis (.cons (.tup (.cons (.str (PySem.Str.ofString "start")) (.cons (.ife (.and (.cmp .ne (.var 0) (.tup .nil)) (.cmp .ne (.idx (.var 0) (.int 0)) (.int 0))) (.int 0) .non) .nil))) (.cons (.tup (.cons (.str (PySem.Str.ofString "rise")) (.cons (.call (PySem.Str.ofString "_law_least") (.cons (.var 1) .nil)) .nil))) .nil))) .nil)))
  .nil)))
def f__law_f_slows : Fi := ⟨1, 2, b__law_f_slows⟩
/-- to_forks_sorts: value top -/
def b_to_forks_sorts : MSs := (.cons (.ifs (.cmp .eq (.blt .len (.var 0)) (.int 0)) (.cons (.ret (.tup .nil))
  .nil) .nil)
  (.cons (.set 1 (.ixo 0 (.blt .max (.var 0))))
  (.cons (.ret (.tup (.cons (.call (PySem.Str.ofString "to_forks_sorts") (.cons (.slT (.var 0) (.var 1)) .nil)) (.cons (.call (PySem.Str.ofString "to_forks_sorts") (.cons (.slF (.var 0) (.bin .add (.var 1) (.int 1))) .nil)) .nil))))
  .nil)))
def f_to_forks_sorts : Fi := ⟨1, 1, b_to_forks_sorts⟩
/-- fault_sorts: value number block k -/
def b_fault_sorts : MSs := (.cons (.ifs (.nt (.call (PySem.Str.ofString "is_row") (.cons (.var 0) .nil))) (.cons (.ret (.glo (PySem.Str.ofString "FORM")))
  .nil) .nil)
  (.cons (.set 1 (.call (PySem.Str.ofString "first_wrong") (.cons (.blt .list (.var 0)) (.cons (.blt .len (.var 0)) .nil))))
  (.cons (.set 2 (.call (PySem.Str.ofString "first_true") (.cons (.lc (.call (PySem.Str.ofString "blocks_at") (.cons (.var 0) (.cons (.var 3) .nil))) (.nm 3) (.rng1 (.blt .len (.var 0))) .yes [3]) .nil)))
  (.cons (.ret (.call (PySem.Str.ofString "first_of") (.cons (.lis (.cons (.call (PySem.Str.ofString "fault_at") (.cons (.str (PySem.Str.ofString "number")) (.cons (.var 1) .nil))) (.cons (.call (PySem.Str.ofString "fault_at") (.cons (.str (PySem.Str.ofString "block")) (.cons (.var 2) .nil))) .nil))) .nil)))
  .nil))))
def f_fault_sorts : Fi := ⟨1, 3, b_fault_sorts⟩
/-- blocks_at: value k j i -/
def b_blocks_at : MSs := (.cons (.ret (.blt .any (.lc2 (.ch .lt .lt (.idx (.var 0) (.var 1)) (.idx (.var 0) (.var 3)) (.idx (.var 0) (.var 2))) (.nm 2) (.rng1 (.var 1)) (.nm 3) (.rng1 (.var 2)) [2, 3] [3])))
  .nil)
def f_blocks_at : Fi := ⟨2, 2, b_blocks_at⟩
/-- _law_f_sorts: value bad k j i -/
def b__law_f_sorts : MSs := (.cons (.ifs (.nt (.call (PySem.Str.ofString "_law_small_row") (.cons (.var 0) .nil))) (.cons (.ret (.tup (.cons (.str (PySem.Str.ofString "form")) (.cons (.int 0) .nil))))
  .nil) .nil)
  (.cons (.own 1 (.lis .nil))
  (.cons (.for_ (.nm 2) (.rng1 (.blt .len (.var 0))) (.cons (.for_ (.nm 3) (.rng1 (.var 2)) (.cons (.ifs (.and (.cmp .gt (.idx (.var 0) (.var 3)) (.idx (.var 0) (.var 2))) (.and (.cmp .gt (.blt .len (.lc (.var 4) (.nm 4) (.rng1 (.var 3)) (.one (.ch .lt .lt (.idx (.var 0) (.var 2)) (.idx (.var 0) (.var 4)) (.idx (.var 0) (.var 3)))) [4])) (.int 0)) (.nin (.var 2) (.var 1)))) (.cons (.app 1 (.var 2))
  .nil) .nil)
  .nil))
  .nil))
  (.cons (.ret (.call (PySem.Str.ofString "_law_first") (.cons (.lis (.cons (.tup (.cons (.str (PySem.Str.ofString "number")) (.cons (.call (PySem.Str.ofString "_law_wrong_number") (.cons (.blt .list (.var 0)) (.cons (.blt .len (.var 0)) .nil))) .nil))) (.cons (.tup (.cons (.str (PySem.Str.ofString "block")) (.cons (.call (PySem.Str.ofString "_law_least") (.cons (.var 1) .nil)) .nil))) .nil))) .nil)))
  .nil))))
def f__law_f_sorts : Fi := ⟨1, 4, b__law_f_sorts⟩
/-- stairs_to_slows: value many k -/
def b_stairs_to_slows : MSs := (.cons (.set 1 (.blt .len (.var 0)))
  (.cons (.ret (.blt .tuple (.lc (.bin .sub (.var 2) (.idx (.var 0) (.bin .sub (.bin .sub (.var 1) (.int 1)) (.var 2)))) (.nm 2) (.rng1 (.var 1)) .yes [2])))
  .nil))
def f_stairs_to_slows : Fi := ⟨1, 2, b_stairs_to_slows⟩
/-- fault_stairs: value rise stair k -/
def b_fault_stairs : MSs := (.cons (.ifs (.nt (.call (PySem.Str.ofString "is_row") (.cons (.var 0) .nil))) (.cons (.ret (.glo (PySem.Str.ofString "FORM")))
  .nil) .nil)
  (.cons (.set 1 (.call (PySem.Str.ofString "first_true") (.cons (.lc (.cmp .gt (.idx (.var 0) (.bin .add (.var 3) (.int 1))) (.idx (.var 0) (.var 3))) (.nm 3) (.rng1 (.bin .sub (.blt .len (.var 0)) (.int 1))) .yes [3]) .nil)))
  (.cons (.set 2 (.call (PySem.Str.ofString "first_true") (.cons (.lc (.cmp .gt (.idx (.var 0) (.var 3)) (.bin .sub (.bin .sub (.blt .len (.var 0)) (.int 1)) (.var 3))) (.nm 3) (.rng1 (.blt .len (.var 0))) .yes [3]) .nil)))
  (.cons (.ret (.call (PySem.Str.ofString "first_of") (.cons (.lis (.cons (.call (PySem.Str.ofString "fault_at") (.cons (.str (PySem.Str.ofString "rise")) (.cons (.var 1) .nil))) (.cons (.call (PySem.Str.ofString "fault_at") (.cons (.str (PySem.Str.ofString "stair")) (.cons (.var 2) .nil))) .nil))) .nil)))
  .nil))))
def f_fault_stairs : Fi := ⟨1, 3, b_fault_stairs⟩
/-- _law_f_stairs: value rise stair k -/
def b__law_f_stairs : MSs := (.cons (.ifs (.nt (.call (PySem.Str.ofString "_law_small_row") (.cons (.var 0) .nil))) (.cons (.ret (.tup (.cons (.str (PySem.Str.ofString "form")) (.cons (.int 0) .nil))))
  .nil) .nil)
  (.cons (.set 1 (.lc (.var 3) (.nm 3) (.rng1 (.bin .sub (.blt .len (.var 0)) (.int 1))) (.one (.cmp .gt (.idx (.var 0) (.bin .add (.var 3) (.int 1))) (.idx (.var 0) (.var 3)))) [3]))
  (.cons (.set 2 (.lc (.var 3) (.nm 3) (.rng1 (.blt .len (.var 0))) (.one (.cmp .gt (.idx (.var 0) (.var 3)) (.bin .sub (.bin .sub (.blt .len (.var 0)) (.int 1)) (.var 3)))) [3]))
  (.cons (.ret (.call (PySem.Str.ofString "_law_first") (.cons (.lis (.cons (.tup (.cons (.str (PySem.Str.ofString "rise")) (.cons (.call (PySem.Str.ofString "_law_least") (.cons (.var 1) .nil)) .nil))) (.cons (.tup (.cons (.str (PySem.Str.ofString "stair")) (.cons (.call (PySem.Str.ofString "_law_least") (.cons (.var 2) .nil)) .nil))) .nil))) .nil)))
  .nil))))
def f__law_f_stairs : Fi := ⟨1, 3, b__law_f_stairs⟩
/-- tables_to_calms: value found k top low opened left number -/
def b_tables_to_calms : MSs := (.cons (.unp 3 4 (.var 0))
  (.cons (.set 1 (.tup .nil))
  (.cons (.for_ (.nm 2) (.rng1 (.blt .len (.var 4))) (.cons (.set 5 (.blt .len (.lc (.var 7) (.nm 7) (.seq (.var 3)) (.one (.cmp .lt (.var 7) (.idx (.var 4) (.var 2)))) [7])))
  (.cons (.set 6 (.lc (.var 7) (.nm 7) (.rng1 (.var 5)) (.one (.nin (.var 7) (.var 1))) [7]))
  (.cons (.aug 1 (.tup (.cons (.ife (.or (.cmp .eq (.var 2) (.int 0)) (.cmp .gt (.bin .sub (.var 5) (.int 1)) (.blt .max (.var 1)))) (.idx (.var 6) (.neg (.int 1))) (.idx (.var 6) (.int 0))) .nil)))
  .nil))))
  (.cons (.ret (.var 1))
  .nil))))
def f_tables_to_calms : Fi := ⟨1, 7, b_tables_to_calms⟩
/-- fault_tables: value number row column top low one k -/
def b_fault_tables : MSs := (.cons (.ifs (.or (.nt (.isi (.var 0) .tuple)) (.or (.cmp .ne (.blt .len (.var 0)) (.int 2)) (.or (.nt (.call (PySem.Str.ofString "is_row") (.cons (.idx (.var 0) (.int 0)) .nil))) (.nt (.call (PySem.Str.ofString "is_row") (.cons (.idx (.var 0) (.int 1)) .nil)))))) (.cons (.ret (.glo (PySem.Str.ofString "FORM")))
  .nil) .nil)
  (.cons (.ifs (.cmp .ne (.blt .len (.idx (.var 0) (.int 0))) (.blt .len (.idx (.var 0) (.int 1)))) (.cons (.ret (.glo (PySem.Str.ofString "FORM")))
  .nil) .nil)
  (.cons (.unp 4 5 (.var 0))
  (.cons (.set 1 (.call (PySem.Str.ofString "first_wrong") (.cons (.blt .list (.bin .add (.var 4) (.var 5))) (.cons (.bin .mul (.int 2) (.blt .len (.var 4))) .nil))))
  (.cons (.set 2 (.call (PySem.Str.ofString "first_true") (.cons (.lc (.nt (.call (PySem.Str.ofString "is_rising") (.cons (.var 6) .nil))) (.nm 6) (.seq (.var 0)) .yes [6]) .nil)))
  (.cons (.set 3 (.call (PySem.Str.ofString "first_true") (.cons (.lc (.cmp .gt (.idx (.var 4) (.var 7)) (.idx (.var 5) (.var 7))) (.nm 7) (.rng1 (.blt .len (.var 4))) .yes [7]) .nil)))
  (.cons (.ret (.call (PySem.Str.ofString "first_of") (.cons (.lis (.cons (.call (PySem.Str.ofString "fault_at") (.cons (.str (PySem.Str.ofString "number")) (.cons (.var 1) .nil))) (.cons (.call (PySem.Str.ofString "fault_at") (.cons (.str (PySem.Str.ofString "row")) (.cons (.var 2) .nil))) (.cons (.call (PySem.Str.ofString "fault_at") (.cons (.str (PySem.Str.ofString "column")) (.cons (.var 3) .nil))) .nil)))) .nil)))
  .nil)))))))
def f_fault_tables : Fi := ⟨1, 7, b_fault_tables⟩
/-- is_rising: row k -/
def b_is_rising : MSs := (.cons (.ret (.blt .all (.lc (.cmp .lt (.idx (.var 0) (.var 1)) (.idx (.var 0) (.bin .add (.var 1) (.int 1)))) (.nm 1) (.rng1 (.bin .sub (.blt .len (.var 0)) (.int 1))) .yes [1])))
  .nil)
def f_is_rising : Fi := ⟨1, 1, b_is_rising⟩
/-- _law_f_tables: value row column n k -/
def b__law_f_tables : MSs := (.cons (.ifs (.or (.nt (.isi (.var 0) .tuple)) (.or (.cmp .ne (.blt .len (.var 0)) (.int 2)) (.or (.nt (.call (PySem.Str.ofString "_law_small_row") (.cons (.idx (.var 0) (.int 0)) .nil))) (.or (.nt (.call (PySem.Str.ofString "_law_small_row") (.cons (.idx (.var 0) (.int 1)) .nil))) (.cmp .ne (.blt .len (.idx (.var 0) (.int 0))) (.blt .len (.idx (.var 0) (.int 1)))))))) (.cons (.ret (.tup (.cons (.str (PySem.Str.ofString "form")) (.cons (.int 0) .nil))))
  .nil) .nil)
  (.cons (.set 1 (.lc (.var 3) (.nm 3) (.seq (.tup (.cons (.int 0) (.cons (.int 1) .nil)))) (.one (.nt (.call (PySem.Str.ofString "_law_is_up") (.cons (.idx (.var 0) (.var 3)) .nil)))) [3]))
  (.cons (.set 2 (.lc (.var 4) (.nm 4) (.rng1 (.blt .len (.idx (.var 0) (.int 0)))) (.one (.cmp .gt (.idx (.idx (.var 0) (.int 0)) (.var 4)) (.idx (.idx (.var 0) (.int 1)) (.var 4)))) [4]))
  (.cons (.ret (.call (PySem.Str.ofString "_law_first") (.cons (.lis (.cons (.tup (.cons (.str (PySem.Str.ofString "number")) (.cons (.call (PySem.Str.ofString "_law_wrong_number") (.cons (.blt .list (.bin .add (.idx (.var 0) (.int 0)) (.idx (.var 0) (.int 1)))) (.cons (.bin .mul (.int 2) (.blt .len (.idx (.var 0) (.int 0)))) .nil))) .nil))) (.cons (.tup (.cons (.str (PySem.Str.ofString "row")) (.cons (.call (PySem.Str.ofString "_law_least") (.cons (.var 1) .nil)) .nil))) (.cons (.tup (.cons (.str (PySem.Str.ofString "column")) (.cons (.call (PySem.Str.ofString "_law_least") (.cons (.var 2) .nil)) .nil))) .nil)))) .nil)))
  .nil))))
def f__law_f_tables : Fi := ⟨1, 4, b__law_f_tables⟩
/-- _law_calms: value found top place opened k number -/
def b__law_calms : MSs := (.cons (.set 1 (.tup .nil))
  (.cons (.set 2 (.int 0))
  (.cons (.for_ (.nm 3) (.seq (.call (PySem.Str.ofString "_law_shuts") (.cons (.var 0) .nil))) (.cons (.set 4 (.blt .len (.lc (.var 5) (.nm 5) (.rng1 (.var 3)) (.one (.cmp .eq (.idx (.var 0) (.var 5)) (.int 0))) [5])))
  (.cons (.ifs (.cmp .gt (.var 4) (.var 2)) (.cons (.set 1 (.bin .add (.var 1) (.tup (.cons (.bin .sub (.var 4) (.int 1)) .nil))))
  (.cons (.set 2 (.var 4))
  .nil)) (.cons (.set 1 (.bin .add (.var 1) (.tup (.cons (.blt .min (.lc (.var 6) (.nm 6) (.rng1 (.var 4)) (.one (.nin (.var 6) (.var 1))) [6])) .nil))))
  .nil))
  .nil)))
  (.cons (.ret (.var 1))
  .nil))))
def f__law_calms : Fi := ⟨1, 6, b__law_calms⟩
/-- tables_to_nests: value -/
def b_tables_to_nests : MSs := (.cons (.ret (.zipT (.idx (.var 0) (.int 0)) (.idx (.var 0) (.int 1))))
  .nil)
def f_tables_to_nests : Fi := ⟨1, 0, b_tables_to_nests⟩
/-- to_forks_trees: value -/
def b_to_forks_trees : MSs := (.cons (.ret (.ife (.cmp .gt (.blt .len (.var 0)) (.int 0)) (.tup (.cons (.call (PySem.Str.ofString "to_forks_trees") (.cons (.idx (.var 0) (.int 0)) .nil)) (.cons (.call (PySem.Str.ofString "to_forks_trees") (.cons (.slF (.var 0) (.int 1)) .nil)) .nil))) (.tup .nil)))
  .nil)
def f_to_forks_trees : Fi := ⟨1, 0, b_to_forks_trees⟩
/-- fault_trees: value -/
def b_fault_trees : MSs := (.cons (.ret (.ife (.call (PySem.Str.ofString "has_form_trees") (.cons (.var 0) (.cons (.glo (PySem.Str.ofString "DEEPEST")) .nil))) .non (.glo (PySem.Str.ofString "FORM"))))
  .nil)
def f_fault_trees : Fi := ⟨1, 0, b_fault_trees⟩
/-- has_form_trees: value deep part -/
def b_has_form_trees : MSs := (.cons (.ifs (.or (.nt (.isi (.var 0) .tuple)) (.and (.cmp .eq (.var 1) (.int 0)) (.cmp .gt (.blt .len (.var 0)) (.int 0)))) (.cons (.ret (.bl false))
  .nil) .nil)
  (.cons (.ret (.blt .all (.lc (.call (PySem.Str.ofString "has_form_trees") (.cons (.var 2) (.cons (.bin .sub (.var 1) (.int 1)) .nil))) (.nm 2) (.seq (.var 0)) .yes [2])))
  .nil))
def f_has_form_trees : Fi := ⟨2, 1, b_has_form_trees⟩
/-- _law_f_trees: value -/
def b__law_f_trees : MSs := (.cons (.ret (.ife (.call (PySem.Str.ofString "_law_tree_form") (.cons (.var 0) (.cons (.int 300) .nil))) .non (.tup (.cons (.str (PySem.Str.ofString "form")) (.cons (.int 0) .nil)))))
  .nil)
def f__law_f_trees : Fi := ⟨1, 0, b__law_f_trees⟩
/-- _law_tree_form: value deep part -/
def b__law_tree_form : MSs := (.cons (.ifs (.or (.nt (.isi (.var 0) .tuple)) (.and (.cmp .eq (.var 1) (.int 0)) (.cmp .ne (.var 0) (.tup .nil)))) (.cons (.ret (.bl false))
  .nil) .nil)
  (.cons (.ret (.cmp .eq (.blt .len (.lc (.var 2) (.nm 2) (.seq (.var 0)) (.one (.nt (.call (PySem.Str.ofString "_law_tree_form") (.cons (.var 2) (.cons (.bin .sub (.var 1) (.int 1)) .nil))))) [2])) (.int 0)))
  .nil))
def f__law_tree_form : Fi := ⟨2, 1, b__law_tree_form⟩
end TL
end
section
set_option linter.all false
set_option maxRecDepth 100000
set_option Elab.async false
namespace K39
open DI
abbrev f_is_whole : Fi := TL.f_is_whole
abbrev f_is_from : Fi := TL.f_is_from
abbrev f_is_row : Fi := TL.f_is_row
abbrev f_are_pairs : Fi := TL.f_are_pairs
abbrev f_first_true : Fi := TL.f_first_true
abbrev f_fault_at : Fi := TL.f_fault_at
abbrev f_first_of : Fi := TL.f_first_of
abbrev f_first_wrong : Fi := TL.f_first_wrong
abbrev f_joins_fault : Fi := TL.f_joins_fault
abbrev f_is_within : Fi := TL.f_is_within
abbrev f_fault_nests : Fi := TL.f_fault_nests
abbrev f_must_be_family : Fi := TL.f_must_be_family
abbrev f_fault_registry : Fi := TL.f_fault_registry
abbrev f_check : Fi := TL.f_check
abbrev f_nests_to_tables : Fi := TL.f_nests_to_tables
abbrev f_carried : Fi := TL.f_carried
abbrev f__law_is_integer : Fi := TL.f__law_is_integer
abbrev f__law_same : Fi := TL.f__law_same
abbrev f__law_pool : Fi := TL.f__law_pool
abbrev f__law_spread : Fi := TL.f__law_spread
abbrev f__law_draw : Fi := TL.f__law_draw
abbrev f__law_pick : Fi := TL.f__law_pick
abbrev f__law_bent : Fi := TL.f__law_bent
abbrev f__law_booled : Fi := TL.f__law_booled
abbrev f__law_listed : Fi := TL.f__law_listed
abbrev f__law_is_row : Fi := TL.f__law_is_row
abbrev f__law_least : Fi := TL.f__law_least
abbrev f__law_first : Fi := TL.f__law_first
abbrev f__law_swapped : Fi := TL.f__law_swapped
abbrev f__law_changed : Fi := TL.f__law_changed
abbrev f__law_all : Fi := TL.f__law_all
abbrev f__law_brackets : Fi := TL.f__law_brackets
abbrev f__law_pairs_form : Fi := TL.f__law_pairs_form
abbrev f__law_wrong_number : Fi := TL.f__law_wrong_number
abbrev f__law_joins : Fi := TL.f__law_joins
abbrev f__law_f_nests : Fi := TL.f__law_f_nests
abbrev f__law_opens : Fi := TL.f__law_opens
abbrev f__law_shuts : Fi := TL.f__law_shuts
abbrev f__law_nests : Fi := TL.f__law_nests
abbrev f__law_tables : Fi := TL.f__law_tables
abbrev f__law_bends : Fi := TL.f__law_bends
/-- _law_carried, slots value e -/
def b__law_carried : MSs := (.cons (.tryR (.call (PySem.Str.ofString "carried") (.cons (.tup (.cons (.str (PySem.Str.ofString "nests")) (.cons (.str (PySem.Str.ofString "tables")) .nil))) (.cons (.var 0) .nil))) (PySem.Str.ofString "BadShape") 1)
  .nil)
def f__law_carried : Fi := ⟨1, 1, b__law_carried⟩
/-- law, slots script pool values value bent shown wrong here due k -/
def b_law : MSs := (.cons (.own 1 (.call (PySem.Str.ofString "_law_pool") (.cons (.var 0) .nil)))
  (.cons (.set 2 (.bin .add (.call (PySem.Str.ofString "_law_all") (.cons (.call (PySem.Str.ofString "_law_draw") (.cons (.var 1) (.cons (.int 5) .nil))) .nil)) (.lc (.call (PySem.Str.ofString "_law_brackets") (.cons (.var 1) (.cons (.int 10) .nil))) (.nm 9) (.rng1 (.int 3)) .yes [9])))
  (.cons (.for_ (.nm 3) (.seq (.var 2)) (.cons (.par 7 8 (.call (PySem.Str.ofString "_law_nests") (.cons (.var 3) .nil)) (.call (PySem.Str.ofString "_law_tables") (.cons (.var 3) .nil)))
  (.cons (.set 5 (.blt .repr (.var 7)))
  (.cons (.ifs (.or (.nt (.call (PySem.Str.ofString "_law_same") (.cons (.call (PySem.Str.ofString "_law_carried") (.cons (.var 7) .nil)) (.cons (.lis (.cons (.var 7) (.cons (.var 8) .nil))) .nil)))) (.cmp .ne (.blt .repr (.var 7)) (.var 5))) (.cons (.ret (.bl false))
  .nil) .nil)
  .nil))))
  (.cons (.for_ (.nm 4) (.seq (.slT (.call (PySem.Str.ofString "_law_bends") (.cons (.var 1) (.cons (.var 7) .nil))) (.int 14))) (.cons (.set 6 (.call (PySem.Str.ofString "_law_f_nests") (.cons (.var 4) .nil)))
  (.cons (.ifs (.and (.notN (.var 6)) (.nt (.call (PySem.Str.ofString "_law_same") (.cons (.call (PySem.Str.ofString "_law_carried") (.cons (.var 4) .nil)) (.cons (.var 6) .nil))))) (.cons (.ret (.bl false))
  .nil) .nil)
  .nil)))
  (.cons (.ret (.bl true))
  .nil)))))
def f_law : Fi := ⟨1, 9, b_law⟩
def fi : List (PySem.Str × Fi) := [((PySem.Str.ofString "is_whole"), f_is_whole),
  ((PySem.Str.ofString "is_from"), f_is_from),
  ((PySem.Str.ofString "is_row"), f_is_row),
  ((PySem.Str.ofString "are_pairs"), f_are_pairs),
  ((PySem.Str.ofString "first_true"), f_first_true),
  ((PySem.Str.ofString "fault_at"), f_fault_at),
  ((PySem.Str.ofString "first_of"), f_first_of),
  ((PySem.Str.ofString "first_wrong"), f_first_wrong),
  ((PySem.Str.ofString "joins_fault"), f_joins_fault),
  ((PySem.Str.ofString "is_within"), f_is_within),
  ((PySem.Str.ofString "fault_nests"), f_fault_nests),
  ((PySem.Str.ofString "must_be_family"), f_must_be_family),
  ((PySem.Str.ofString "fault_registry"), f_fault_registry),
  ((PySem.Str.ofString "check"), f_check),
  ((PySem.Str.ofString "nests_to_tables"), f_nests_to_tables),
  ((PySem.Str.ofString "carried"), f_carried),
  ((PySem.Str.ofString "_law_is_integer"), f__law_is_integer),
  ((PySem.Str.ofString "_law_same"), f__law_same),
  ((PySem.Str.ofString "_law_pool"), f__law_pool),
  ((PySem.Str.ofString "_law_spread"), f__law_spread),
  ((PySem.Str.ofString "_law_draw"), f__law_draw),
  ((PySem.Str.ofString "_law_pick"), f__law_pick),
  ((PySem.Str.ofString "_law_bent"), f__law_bent),
  ((PySem.Str.ofString "_law_booled"), f__law_booled),
  ((PySem.Str.ofString "_law_listed"), f__law_listed),
  ((PySem.Str.ofString "_law_is_row"), f__law_is_row),
  ((PySem.Str.ofString "_law_least"), f__law_least),
  ((PySem.Str.ofString "_law_first"), f__law_first),
  ((PySem.Str.ofString "_law_swapped"), f__law_swapped),
  ((PySem.Str.ofString "_law_changed"), f__law_changed),
  ((PySem.Str.ofString "_law_all"), f__law_all),
  ((PySem.Str.ofString "_law_brackets"), f__law_brackets),
  ((PySem.Str.ofString "_law_pairs_form"), f__law_pairs_form),
  ((PySem.Str.ofString "_law_wrong_number"), f__law_wrong_number),
  ((PySem.Str.ofString "_law_joins"), f__law_joins),
  ((PySem.Str.ofString "_law_f_nests"), f__law_f_nests),
  ((PySem.Str.ofString "_law_opens"), f__law_opens),
  ((PySem.Str.ofString "_law_shuts"), f__law_shuts),
  ((PySem.Str.ofString "_law_nests"), f__law_nests),
  ((PySem.Str.ofString "_law_tables"), f__law_tables),
  ((PySem.Str.ofString "_law_bends"), f__law_bends),
  ((PySem.Str.ofString "_law_carried"), f__law_carried),
  ((PySem.Str.ofString "law"), f_law)]
def co : List (PySem.Str × D) := [((PySem.Str.ofString "MOST"), (.int 1000)), ((PySem.Str.ofString "FORM"), (.tup [(.str (PySem.Str.ofString "form")), (.int 0)]))]
def d_FAULTS : List (D × PySem.Str) := [((.str (PySem.Str.ofString "blocks")), (PySem.Str.ofString "fault_blocks")),
  ((.str (PySem.Str.ofString "brackets")), (PySem.Str.ofString "fault_brackets")),
  ((.str (PySem.Str.ofString "calms")), (PySem.Str.ofString "fault_calms")),
  ((.str (PySem.Str.ofString "chords")), (PySem.Str.ofString "fault_chords")),
  ((.str (PySem.Str.ofString "cuts")), (PySem.Str.ofString "fault_cuts")),
  ((.str (PySem.Str.ofString "forks")), (PySem.Str.ofString "fault_forks")),
  ((.str (PySem.Str.ofString "friezes")), (PySem.Str.ofString "fault_friezes")),
  ((.str (PySem.Str.ofString "nests")), (PySem.Str.ofString "fault_nests")),
  ((.str (PySem.Str.ofString "paths")), (PySem.Str.ofString "fault_paths")),
  ((.str (PySem.Str.ofString "slows")), (PySem.Str.ofString "fault_slows")),
  ((.str (PySem.Str.ofString "sorts")), (PySem.Str.ofString "fault_sorts")),
  ((.str (PySem.Str.ofString "stairs")), (PySem.Str.ofString "fault_stairs")),
  ((.str (PySem.Str.ofString "tables")), (PySem.Str.ofString "fault_tables")),
  ((.str (PySem.Str.ofString "trees")), (PySem.Str.ofString "fault_trees"))]
def d_STEPS : List (D × PySem.Str) := [((.tup [(.str (PySem.Str.ofString "blocks")), (.str (PySem.Str.ofString "chords"))]), (PySem.Str.ofString "to_chords")),
  ((.tup [(.str (PySem.Str.ofString "chords")), (.str (PySem.Str.ofString "blocks"))]), (PySem.Str.ofString "from_chords")),
  ((.tup [(.str (PySem.Str.ofString "chords")), (.str (PySem.Str.ofString "tables"))]), (PySem.Str.ofString "chords_to_tables")),
  ((.tup [(.str (PySem.Str.ofString "cuts")), (.str (PySem.Str.ofString "forks"))]), (PySem.Str.ofString "to_forks_cuts")),
  ((.tup [(.str (PySem.Str.ofString "cuts")), (.str (PySem.Str.ofString "friezes"))]), (PySem.Str.ofString "from_cuts")),
  ((.tup [(.str (PySem.Str.ofString "forks")), (.str (PySem.Str.ofString "cuts"))]), (PySem.Str.ofString "from_forks_cuts")),
  ((.tup [(.str (PySem.Str.ofString "forks")), (.str (PySem.Str.ofString "sorts"))]), (PySem.Str.ofString "from_forks_sorts")),
  ((.tup [(.str (PySem.Str.ofString "forks")), (.str (PySem.Str.ofString "trees"))]), (PySem.Str.ofString "from_forks_trees")),
  ((.tup [(.str (PySem.Str.ofString "friezes")), (.str (PySem.Str.ofString "cuts"))]), (PySem.Str.ofString "to_cuts")),
  ((.tup [(.str (PySem.Str.ofString "nests")), (.str (PySem.Str.ofString "tables"))]), (PySem.Str.ofString "nests_to_tables")),
  ((.tup [(.str (PySem.Str.ofString "paths")), (.str (PySem.Str.ofString "slows"))]), (PySem.Str.ofString "paths_to_slows")),
  ((.tup [(.str (PySem.Str.ofString "slows")), (.str (PySem.Str.ofString "stairs"))]), (PySem.Str.ofString "slows_to_stairs")),
  ((.tup [(.str (PySem.Str.ofString "sorts")), (.str (PySem.Str.ofString "forks"))]), (PySem.Str.ofString "to_forks_sorts")),
  ((.tup [(.str (PySem.Str.ofString "stairs")), (.str (PySem.Str.ofString "slows"))]), (PySem.Str.ofString "stairs_to_slows")),
  ((.tup [(.str (PySem.Str.ofString "tables")), (.str (PySem.Str.ofString "calms"))]), (PySem.Str.ofString "tables_to_calms")),
  ((.tup [(.str (PySem.Str.ofString "tables")), (.str (PySem.Str.ofString "nests"))]), (PySem.Str.ofString "tables_to_nests")),
  ((.tup [(.str (PySem.Str.ofString "trees")), (.str (PySem.Str.ofString "forks"))]), (PySem.Str.ofString "to_forks_trees"))]
def di : List (PySem.Str × List (D × PySem.Str)) := [((PySem.Str.ofString "FAULTS"), d_FAULTS), ((PySem.Str.ofString "STEPS"), d_STEPS)]
def xcl : List (PySem.Str × Nat) := [((PySem.Str.ofString "BadShape"), 2)]
def G : Gm := ⟨(fi.lookup ·), (co.lookup ·), (di.lookup ·), (xcl.lookup ·)⟩
theorem g_is_whole : G.fn (PySem.Str.ofString "is_whole") = some f_is_whole := by rfl
theorem g_is_from : G.fn (PySem.Str.ofString "is_from") = some f_is_from := by rfl
theorem g_is_row : G.fn (PySem.Str.ofString "is_row") = some f_is_row := by rfl
theorem g_are_pairs : G.fn (PySem.Str.ofString "are_pairs") = some f_are_pairs := by rfl
theorem g_first_true : G.fn (PySem.Str.ofString "first_true") = some f_first_true := by rfl
theorem g_fault_at : G.fn (PySem.Str.ofString "fault_at") = some f_fault_at := by rfl
theorem g_first_of : G.fn (PySem.Str.ofString "first_of") = some f_first_of := by rfl
theorem g_first_wrong : G.fn (PySem.Str.ofString "first_wrong") = some f_first_wrong := by rfl
theorem g_joins_fault : G.fn (PySem.Str.ofString "joins_fault") = some f_joins_fault := by rfl
theorem g_is_within : G.fn (PySem.Str.ofString "is_within") = some f_is_within := by rfl
theorem g_fault_nests : G.fn (PySem.Str.ofString "fault_nests") = some f_fault_nests := by rfl
theorem g_must_be_family : G.fn (PySem.Str.ofString "must_be_family") = some f_must_be_family := by rfl
theorem g_fault_registry : G.fn (PySem.Str.ofString "fault_registry") = some f_fault_registry := by rfl
theorem g_check : G.fn (PySem.Str.ofString "check") = some f_check := by rfl
theorem g_nests_to_tables : G.fn (PySem.Str.ofString "nests_to_tables") = some f_nests_to_tables := by rfl
theorem g_carried : G.fn (PySem.Str.ofString "carried") = some f_carried := by rfl
theorem g__law_is_integer : G.fn (PySem.Str.ofString "_law_is_integer") = some f__law_is_integer := by rfl
theorem g__law_same : G.fn (PySem.Str.ofString "_law_same") = some f__law_same := by rfl
theorem g__law_pool : G.fn (PySem.Str.ofString "_law_pool") = some f__law_pool := by rfl
theorem g__law_spread : G.fn (PySem.Str.ofString "_law_spread") = some f__law_spread := by rfl
theorem g__law_draw : G.fn (PySem.Str.ofString "_law_draw") = some f__law_draw := by rfl
theorem g__law_pick : G.fn (PySem.Str.ofString "_law_pick") = some f__law_pick := by rfl
theorem g__law_bent : G.fn (PySem.Str.ofString "_law_bent") = some f__law_bent := by rfl
theorem g__law_booled : G.fn (PySem.Str.ofString "_law_booled") = some f__law_booled := by rfl
theorem g__law_listed : G.fn (PySem.Str.ofString "_law_listed") = some f__law_listed := by rfl
theorem g__law_is_row : G.fn (PySem.Str.ofString "_law_is_row") = some f__law_is_row := by rfl
theorem g__law_least : G.fn (PySem.Str.ofString "_law_least") = some f__law_least := by rfl
theorem g__law_first : G.fn (PySem.Str.ofString "_law_first") = some f__law_first := by rfl
theorem g__law_swapped : G.fn (PySem.Str.ofString "_law_swapped") = some f__law_swapped := by rfl
theorem g__law_changed : G.fn (PySem.Str.ofString "_law_changed") = some f__law_changed := by rfl
theorem g__law_all : G.fn (PySem.Str.ofString "_law_all") = some f__law_all := by rfl
theorem g__law_brackets : G.fn (PySem.Str.ofString "_law_brackets") = some f__law_brackets := by rfl
theorem g__law_pairs_form : G.fn (PySem.Str.ofString "_law_pairs_form") = some f__law_pairs_form := by rfl
theorem g__law_wrong_number : G.fn (PySem.Str.ofString "_law_wrong_number") = some f__law_wrong_number := by rfl
theorem g__law_joins : G.fn (PySem.Str.ofString "_law_joins") = some f__law_joins := by rfl
theorem g__law_f_nests : G.fn (PySem.Str.ofString "_law_f_nests") = some f__law_f_nests := by rfl
theorem g__law_opens : G.fn (PySem.Str.ofString "_law_opens") = some f__law_opens := by rfl
theorem g__law_shuts : G.fn (PySem.Str.ofString "_law_shuts") = some f__law_shuts := by rfl
theorem g__law_nests : G.fn (PySem.Str.ofString "_law_nests") = some f__law_nests := by rfl
theorem g__law_tables : G.fn (PySem.Str.ofString "_law_tables") = some f__law_tables := by rfl
theorem g__law_bends : G.fn (PySem.Str.ofString "_law_bends") = some f__law_bends := by rfl
theorem g__law_carried : G.fn (PySem.Str.ofString "_law_carried") = some f__law_carried := by rfl
theorem g_law : G.fn (PySem.Str.ofString "law") = some f_law := by rfl
theorem c_MOST : G.con (PySem.Str.ofString "MOST") = some (.int 1000) := by rfl
theorem c_FORM : G.con (PySem.Str.ofString "FORM") = some (.tup [(.str (PySem.Str.ofString "form")), (.int 0)]) := by rfl
theorem e_FAULTS : G.dic (PySem.Str.ofString "FAULTS") = some d_FAULTS := by rfl
theorem e_STEPS : G.dic (PySem.Str.ofString "STEPS") = some d_STEPS := by rfl
end K39
end
section
set_option Elab.async false
set_option linter.all false
set_option maxRecDepth 100000
set_option maxHeartbeats 0
namespace K39
open PySem PySem.Spec PyProof.Rows L2 DI
abbrev P : Program := PySem.Challenge.pw_everycatalan_k39_whole_nests_to_tables
def top (i : Nat) : Stmt := P.main.body.getD i (.Pass ⟨0, 0, 0, 0⟩)
def q_is_whole : He.DefD := ⟨((PySem.Str.ofString "is_whole"), none), (PySem.Str.ofString "is_whole"), (PySem.Str.ofString "is_whole"), C8.fnArgs (top 4), C8.fnBody (top 4), C8.fnScope (top 4), [], []⟩
def q_is_from : He.DefD := ⟨((PySem.Str.ofString "is_from"), none), (PySem.Str.ofString "is_from"), (PySem.Str.ofString "is_from"), C8.fnArgs (top 5), C8.fnBody (top 5), C8.fnScope (top 5), [], []⟩
def q_is_row : He.DefD := ⟨((PySem.Str.ofString "is_row"), none), (PySem.Str.ofString "is_row"), (PySem.Str.ofString "is_row"), C8.fnArgs (top 6), C8.fnBody (top 6), C8.fnScope (top 6), [], []⟩
def q_are_pairs : He.DefD := ⟨((PySem.Str.ofString "are_pairs"), none), (PySem.Str.ofString "are_pairs"), (PySem.Str.ofString "are_pairs"), C8.fnArgs (top 7), C8.fnBody (top 7), C8.fnScope (top 7), [], []⟩
def q_first_true : He.DefD := ⟨((PySem.Str.ofString "first_true"), none), (PySem.Str.ofString "first_true"), (PySem.Str.ofString "first_true"), C8.fnArgs (top 8), C8.fnBody (top 8), C8.fnScope (top 8), [], []⟩
def q_fault_at : He.DefD := ⟨((PySem.Str.ofString "fault_at"), none), (PySem.Str.ofString "fault_at"), (PySem.Str.ofString "fault_at"), C8.fnArgs (top 9), C8.fnBody (top 9), C8.fnScope (top 9), [], []⟩
def q_first_of : He.DefD := ⟨((PySem.Str.ofString "first_of"), none), (PySem.Str.ofString "first_of"), (PySem.Str.ofString "first_of"), C8.fnArgs (top 10), C8.fnBody (top 10), C8.fnScope (top 10), [], []⟩
def q_first_wrong : He.DefD := ⟨((PySem.Str.ofString "first_wrong"), none), (PySem.Str.ofString "first_wrong"), (PySem.Str.ofString "first_wrong"), C8.fnArgs (top 11), C8.fnBody (top 11), C8.fnScope (top 11), [], []⟩
def q_joins_fault : He.DefD := ⟨((PySem.Str.ofString "joins_fault"), none), (PySem.Str.ofString "joins_fault"), (PySem.Str.ofString "joins_fault"), C8.fnArgs (top 36), C8.fnBody (top 36), C8.fnScope (top 36), [], []⟩
def q_is_within : He.DefD := ⟨((PySem.Str.ofString "is_within"), none), (PySem.Str.ofString "is_within"), (PySem.Str.ofString "is_within"), C8.fnArgs (top 63), C8.fnBody (top 63), C8.fnScope (top 63), [], []⟩
def q_fault_nests : He.DefD := ⟨((PySem.Str.ofString "fault_nests"), none), (PySem.Str.ofString "fault"), (PySem.Str.ofString "fault"), C8.fnArgs (top 64), C8.fnBody (top 64), C8.fnScope (top 64), [], []⟩
def q_must_be_family : He.DefD := ⟨((PySem.Str.ofString "must_be_family"), none), (PySem.Str.ofString "must_be_family"), (PySem.Str.ofString "must_be_family"), C8.fnArgs (top 99), C8.fnBody (top 99), C8.fnScope (top 99), [], []⟩
def q_fault_registry : He.DefD := ⟨((PySem.Str.ofString "fault_registry"), none), (PySem.Str.ofString "fault"), (PySem.Str.ofString "fault"), C8.fnArgs (top 100), C8.fnBody (top 100), C8.fnScope (top 100), [], []⟩
def q_check : He.DefD := ⟨((PySem.Str.ofString "check"), none), (PySem.Str.ofString "check"), (PySem.Str.ofString "check"), C8.fnArgs (top 102), C8.fnBody (top 102), C8.fnScope (top 102), [], []⟩
def q_nests_to_tables : He.DefD := ⟨((PySem.Str.ofString "nests_to_tables"), none), (PySem.Str.ofString "nests_to_tables"), (PySem.Str.ofString "nests_to_tables"), C8.fnArgs (top 108), C8.fnBody (top 108), C8.fnScope (top 108), [], []⟩
def q_carried : He.DefD := ⟨((PySem.Str.ofString "carried"), none), (PySem.Str.ofString "carried"), (PySem.Str.ofString "carried"), C8.fnArgs (top 112), C8.fnBody (top 112), C8.fnScope (top 112), [], []⟩
def q__law_is_integer : He.DefD := ⟨((PySem.Str.ofString "_law_is_integer"), none), (PySem.Str.ofString "_law_is_integer"), (PySem.Str.ofString "_law_is_integer"), C8.fnArgs (top 114), C8.fnBody (top 114), C8.fnScope (top 114), [], []⟩
def q__law_same : He.DefD := ⟨((PySem.Str.ofString "_law_same"), none), (PySem.Str.ofString "_law_same"), (PySem.Str.ofString "_law_same"), C8.fnArgs (top 115), C8.fnBody (top 115), C8.fnScope (top 115), [], []⟩
def q__law_pool : He.DefD := ⟨((PySem.Str.ofString "_law_pool"), none), (PySem.Str.ofString "_law_pool"), (PySem.Str.ofString "_law_pool"), C8.fnArgs (top 116), C8.fnBody (top 116), C8.fnScope (top 116), [], []⟩
def q__law_spread : He.DefD := ⟨((PySem.Str.ofString "_law_spread"), none), (PySem.Str.ofString "_law_spread"), (PySem.Str.ofString "_law_spread"), C8.fnArgs (top 117), C8.fnBody (top 117), C8.fnScope (top 117), [], []⟩
def q__law_draw : He.DefD := ⟨((PySem.Str.ofString "_law_draw"), none), (PySem.Str.ofString "_law_draw"), (PySem.Str.ofString "_law_draw"), C8.fnArgs (top 118), C8.fnBody (top 118), C8.fnScope (top 118), [], []⟩
def q__law_pick : He.DefD := ⟨((PySem.Str.ofString "_law_pick"), none), (PySem.Str.ofString "_law_pick"), (PySem.Str.ofString "_law_pick"), C8.fnArgs (top 119), C8.fnBody (top 119), C8.fnScope (top 119), [], []⟩
def q__law_bent : He.DefD := ⟨((PySem.Str.ofString "_law_bent"), none), (PySem.Str.ofString "_law_bent"), (PySem.Str.ofString "_law_bent"), C8.fnArgs (top 120), C8.fnBody (top 120), C8.fnScope (top 120), [], []⟩
def q__law_booled : He.DefD := ⟨((PySem.Str.ofString "_law_booled"), none), (PySem.Str.ofString "_law_booled"), (PySem.Str.ofString "_law_booled"), C8.fnArgs (top 121), C8.fnBody (top 121), C8.fnScope (top 121), [], []⟩
def q__law_listed : He.DefD := ⟨((PySem.Str.ofString "_law_listed"), none), (PySem.Str.ofString "_law_listed"), (PySem.Str.ofString "_law_listed"), C8.fnArgs (top 122), C8.fnBody (top 122), C8.fnScope (top 122), [], []⟩
def q__law_is_row : He.DefD := ⟨((PySem.Str.ofString "_law_is_row"), none), (PySem.Str.ofString "_law_is_row"), (PySem.Str.ofString "_law_is_row"), C8.fnArgs (top 123), C8.fnBody (top 123), C8.fnScope (top 123), [], []⟩
def q__law_least : He.DefD := ⟨((PySem.Str.ofString "_law_least"), none), (PySem.Str.ofString "_law_least"), (PySem.Str.ofString "_law_least"), C8.fnArgs (top 124), C8.fnBody (top 124), C8.fnScope (top 124), [], []⟩
def q__law_first : He.DefD := ⟨((PySem.Str.ofString "_law_first"), none), (PySem.Str.ofString "_law_first"), (PySem.Str.ofString "_law_first"), C8.fnArgs (top 125), C8.fnBody (top 125), C8.fnScope (top 125), [], []⟩
def q__law_swapped : He.DefD := ⟨((PySem.Str.ofString "_law_swapped"), none), (PySem.Str.ofString "_law_swapped"), (PySem.Str.ofString "_law_swapped"), C8.fnArgs (top 126), C8.fnBody (top 126), C8.fnScope (top 126), [], []⟩
def q__law_changed : He.DefD := ⟨((PySem.Str.ofString "_law_changed"), none), (PySem.Str.ofString "_law_changed"), (PySem.Str.ofString "_law_changed"), C8.fnArgs (top 127), C8.fnBody (top 127), C8.fnScope (top 127), [], []⟩
def q__law_all : He.DefD := ⟨((PySem.Str.ofString "_law_all"), none), (PySem.Str.ofString "_law_all"), (PySem.Str.ofString "_law_all"), C8.fnArgs (top 128), C8.fnBody (top 128), C8.fnScope (top 128), [], []⟩
def q__law_brackets : He.DefD := ⟨((PySem.Str.ofString "_law_brackets"), none), (PySem.Str.ofString "_law_brackets"), (PySem.Str.ofString "_law_brackets"), C8.fnArgs (top 129), C8.fnBody (top 129), C8.fnScope (top 129), [], []⟩
def q__law_pairs_form : He.DefD := ⟨((PySem.Str.ofString "_law_pairs_form"), none), (PySem.Str.ofString "_law_pairs_form"), (PySem.Str.ofString "_law_pairs_form"), C8.fnArgs (top 130), C8.fnBody (top 130), C8.fnScope (top 130), [], []⟩
def q__law_wrong_number : He.DefD := ⟨((PySem.Str.ofString "_law_wrong_number"), none), (PySem.Str.ofString "_law_wrong_number"), (PySem.Str.ofString "_law_wrong_number"), C8.fnArgs (top 131), C8.fnBody (top 131), C8.fnScope (top 131), [], []⟩
def q__law_joins : He.DefD := ⟨((PySem.Str.ofString "_law_joins"), none), (PySem.Str.ofString "_law_joins"), (PySem.Str.ofString "_law_joins"), C8.fnArgs (top 132), C8.fnBody (top 132), C8.fnScope (top 132), [], []⟩
def q__law_f_nests : He.DefD := ⟨((PySem.Str.ofString "_law_f_nests"), none), (PySem.Str.ofString "_law_f_nests"), (PySem.Str.ofString "_law_f_nests"), C8.fnArgs (top 133), C8.fnBody (top 133), C8.fnScope (top 133), [], []⟩
def q__law_opens : He.DefD := ⟨((PySem.Str.ofString "_law_opens"), none), (PySem.Str.ofString "_law_opens"), (PySem.Str.ofString "_law_opens"), C8.fnArgs (top 134), C8.fnBody (top 134), C8.fnScope (top 134), [], []⟩
def q__law_shuts : He.DefD := ⟨((PySem.Str.ofString "_law_shuts"), none), (PySem.Str.ofString "_law_shuts"), (PySem.Str.ofString "_law_shuts"), C8.fnArgs (top 135), C8.fnBody (top 135), C8.fnScope (top 135), [], []⟩
def q__law_nests : He.DefD := ⟨((PySem.Str.ofString "_law_nests"), none), (PySem.Str.ofString "_law_nests"), (PySem.Str.ofString "_law_nests"), C8.fnArgs (top 136), C8.fnBody (top 136), C8.fnScope (top 136), [], []⟩
def q__law_tables : He.DefD := ⟨((PySem.Str.ofString "_law_tables"), none), (PySem.Str.ofString "_law_tables"), (PySem.Str.ofString "_law_tables"), C8.fnArgs (top 137), C8.fnBody (top 137), C8.fnScope (top 137), [], []⟩
def q__law_bends : He.DefD := ⟨((PySem.Str.ofString "_law_bends"), none), (PySem.Str.ofString "_law_bends"), (PySem.Str.ofString "_law_bends"), C8.fnArgs (top 138), C8.fnBody (top 138), C8.fnScope (top 138), [], []⟩
def q__law_carried : He.DefD := ⟨((PySem.Str.ofString "_law_carried"), none), (PySem.Str.ofString "_law_carried"), (PySem.Str.ofString "_law_carried"), C8.fnArgs (top 139), C8.fnBody (top 139), C8.fnScope (top 139), [], []⟩
def q_law : He.DefD := ⟨((PySem.Str.ofString "law"), none), (PySem.Str.ofString "law"), (PySem.Str.ofString "law"), C8.fnArgs (top 140), C8.fnBody (top 140), C8.fnScope (top 140), [], []⟩
def us : List PySem.Str := [(PySem.Str.ofString "FORM"), (PySem.Str.ofString "MOST"), (PySem.Str.ofString "is_whole"), (PySem.Str.ofString "is_from"), (PySem.Str.ofString "is_row"), (PySem.Str.ofString "are_pairs"), (PySem.Str.ofString "first_true"), (PySem.Str.ofString "fault_at"), (PySem.Str.ofString "first_of"), (PySem.Str.ofString "first_wrong"), (PySem.Str.ofString "joins_fault"), (PySem.Str.ofString "BadShape"), (PySem.Str.ofString "is_within"), (PySem.Str.ofString "fault_nests"), (PySem.Str.ofString "FAULTS"), (PySem.Str.ofString "must_be_family"), (PySem.Str.ofString "fault_registry"), (PySem.Str.ofString "check"), (PySem.Str.ofString "nests_to_tables"), (PySem.Str.ofString "STEPS"), (PySem.Str.ofString "carried"), (PySem.Str.ofString "_law_is_integer"), (PySem.Str.ofString "_law_same"), (PySem.Str.ofString "_law_pool"), (PySem.Str.ofString "_law_spread"), (PySem.Str.ofString "_law_draw"), (PySem.Str.ofString "_law_pick"), (PySem.Str.ofString "_law_bent"), (PySem.Str.ofString "_law_booled"), (PySem.Str.ofString "_law_listed"), (PySem.Str.ofString "_law_is_row"), (PySem.Str.ofString "_law_least"), (PySem.Str.ofString "_law_first"), (PySem.Str.ofString "_law_swapped"), (PySem.Str.ofString "_law_changed"), (PySem.Str.ofString "_law_all"), (PySem.Str.ofString "_law_brackets"), (PySem.Str.ofString "_law_pairs_form"), (PySem.Str.ofString "_law_wrong_number"), (PySem.Str.ofString "_law_joins"), (PySem.Str.ofString "_law_f_nests"), (PySem.Str.ofString "_law_opens"), (PySem.Str.ofString "_law_shuts"), (PySem.Str.ofString "_law_nests"), (PySem.Str.ofString "_law_tables"), (PySem.Str.ofString "_law_bends"), (PySem.Str.ofString "_law_carried"), (PySem.Str.ofString "law")]
def fn : List He.DefD := [q_is_whole, q_is_from, q_is_row, q_are_pairs, q_first_true, q_fault_at, q_first_of, q_first_wrong, q_joins_fault, q_is_within, q_fault_nests, q_must_be_family, q_fault_registry, q_check, q_nests_to_tables, q_carried, q__law_is_integer, q__law_same, q__law_pool, q__law_spread, q__law_draw, q__law_pick, q__law_bent, q__law_booled, q__law_listed, q__law_is_row, q__law_least, q__law_first, q__law_swapped, q__law_changed, q__law_all, q__law_brackets, q__law_pairs_form, q__law_wrong_number, q__law_joins, q__law_f_nests, q__law_opens, q__law_shuts, q__law_nests, q__law_tables, q__law_bends, q__law_carried, q_law]
def ts : List TabM := [((PySem.Str.ofString "FAULTS"), false, d_FAULTS), ((PySem.Str.ofString "STEPS"), true, d_STEPS)]
def si_BadShape : Stmt := (C8.clsBody (top 50)).getD 0 (.Pass ⟨0, 0, 0, 0⟩)
def i_BadShape : IniD := ⟨(PySem.Str.ofString "BadShape"), "__init__", (PySem.Str.ofString "BadShape.__init__"), C8.fnArgs si_BadShape, C8.fnBody si_BadShape, C8.fnScope si_BadShape, "word", "place"⟩
def is : List IniD := [i_BadShape]
def frees : List PySem.Str := [(PySem.Str.ofString "reversed"), (PySem.Str.ofString "len"), (PySem.Str.ofString "int"), (PySem.Str.ofString "abs"), (PySem.Str.ofString "list"), (PySem.Str.ofString "tuple"), (PySem.Str.ofString "min"), (PySem.Str.ofString "max"), (PySem.Str.ofString "sorted"), (PySem.Str.ofString "repr"), (PySem.Str.ofString "all"), (PySem.Str.ofString "any"), (PySem.Str.ofString "sum"), (PySem.Str.ofString "bool"), (PySem.Str.ofString "str"), (PySem.Str.ofString "isinstance"), (PySem.Str.ofString "range"), (PySem.Str.ofString "zip")]
def gls : List PySem.Str := fi.map (·.1)
def chk (K : PySem.W.Frag) : Bool := (frees.all fun x => He.eqO (PySem.W.nsIn K mainGlobals x) (some none)) && ((gls.all fun x => He.eqO (PySem.W.nsIn K mainGlobals x) (some (some (.ref (He.ga K x))))) &&
  ((co.all fun x => conB K x.1 x.2) && ((ts.all fun t => tabB K t.1 t.2.2) && (noList K && is.all fun d => iniB P.main.file K d))))
def xn : PySem.Str → List PySem.Str := fun c => if c = "BadShape" then ["word", "place"] else []
end K39
namespace K39
open PySem PySem.W PySem.Calls PyProof.Rows HandSHeadRun
noncomputable section
abbrev R : OpenRow := OpenLaw.row PySem.Challenge.rw_everycatalan_k39_whole_nests_to_tables
abbrev qv : Program := view R.prog [140]
abbrev hk : PySem.W.Hook := DI.hookX P 3 us chk fn ts is
def ob (s : PySem.W.SharedT) : DI.AlX := DI.obsXG 3 us chk fn ts is (HandSHeadRun.getT s)
theorem ob_eq (s : PySem.W.SharedT) : ob s = hk.obs s.abs := DI.obsXG_eq (HandSHeadRun.getT_eq s)
def names0 : List PySem.Str := [PySem.Str.ofString "FORM", PySem.Str.ofString "MOST", PySem.Str.ofString "DEEPEST", PySem.Str.ofString "is_whole", PySem.Str.ofString "is_from", PySem.Str.ofString "is_row", PySem.Str.ofString "are_pairs", PySem.Str.ofString "first_true", PySem.Str.ofString "fault_at", PySem.Str.ofString "first_of", PySem.Str.ofString "first_wrong", PySem.Str.ofString "heights", PySem.Str.ofString "fault", PySem.Str.ofString "fault_brackets", PySem.Str.ofString "has_form", PySem.Str.ofString "has_form_forks", PySem.Str.ofString "fault_forks", PySem.Str.ofString "size", PySem.Str.ofString "is_line", PySem.Str.ofString "cross", PySem.Str.ofString "cross_cuts", PySem.Str.ofString "fault_cuts", PySem.Str.ofString "lines_of", PySem.Str.ofString "from_forks", PySem.Str.ofString "from_forks_cuts", PySem.Str.ofString "fork_between", PySem.Str.ofString "is_side", PySem.Str.ofString "to_forks", PySem.Str.ofString "to_forks_cuts", PySem.Str.ofString "joins_fault", PySem.Str.ofString "fault_chords", PySem.Str.ofString "points_of", PySem.Str.ofString "cross_blocks", PySem.Str.ofString "fault_blocks", PySem.Str.ofString "to_chords", PySem.Str.ofString "from_chords", PySem.Str.ofString "CatalanError", PySem.Str.ofString "NotAllowed", PySem.Str.ofString "BadShape", PySem.Str.ofString "ear_of"]
def names1 : List PySem.Str := [PySem.Str.ofString "without_ear", PySem.Str.ofString "fault_friezes", PySem.Str.ofString "from_cuts", PySem.Str.ofString "to_cuts", PySem.Str.ofString "falls_at", PySem.Str.ofString "fault_calms", PySem.Str.ofString "is_within", PySem.Str.ofString "fault_nests", PySem.Str.ofString "fault_paths", PySem.Str.ofString "fault_slows", PySem.Str.ofString "blocks_at", PySem.Str.ofString "fault_sorts", PySem.Str.ofString "order_of", PySem.Str.ofString "from_forks_sorts", PySem.Str.ofString "to_forks_sorts", PySem.Str.ofString "fault_stairs", PySem.Str.ofString "is_rising", PySem.Str.ofString "fault_tables", PySem.Str.ofString "has_form_trees", PySem.Str.ofString "fault_trees", PySem.Str.ofString "to_forks_trees", PySem.Str.ofString "from_forks_trees", PySem.Str.ofString "FAULTS", PySem.Str.ofString "must_be_family", PySem.Str.ofString "fault_registry", PySem.Str.ofString "check", PySem.Str.ofString "paths_to_slows", PySem.Str.ofString "slows_to_stairs", PySem.Str.ofString "stairs_to_slows", PySem.Str.ofString "tables_to_nests", PySem.Str.ofString "nests_to_tables", PySem.Str.ofString "chords_to_tables", PySem.Str.ofString "tables_to_calms", PySem.Str.ofString "STEPS", PySem.Str.ofString "carried", PySem.Str.ofString "_law_is_integer", PySem.Str.ofString "_law_same", PySem.Str.ofString "_law_pool", PySem.Str.ofString "_law_spread", PySem.Str.ofString "_law_draw"]
def names2 : List PySem.Str := [PySem.Str.ofString "_law_pick", PySem.Str.ofString "_law_bent", PySem.Str.ofString "_law_booled", PySem.Str.ofString "_law_listed", PySem.Str.ofString "_law_is_row", PySem.Str.ofString "_law_least", PySem.Str.ofString "_law_first", PySem.Str.ofString "_law_swapped", PySem.Str.ofString "_law_changed", PySem.Str.ofString "_law_all", PySem.Str.ofString "_law_brackets", PySem.Str.ofString "_law_pairs_form", PySem.Str.ofString "_law_wrong_number", PySem.Str.ofString "_law_joins", PySem.Str.ofString "_law_f_nests", PySem.Str.ofString "_law_opens", PySem.Str.ofString "_law_shuts", PySem.Str.ofString "_law_nests", PySem.Str.ofString "_law_tables", PySem.Str.ofString "_law_bends", PySem.Str.ofString "_law_carried"]
def names : List PySem.Str := names0 ++ (names1 ++ (names2))
def stS : Stmt := R.prog.main.body.getD 111 default
def L1 : List Stmt := R.prog.main.body.take 111
def L2' : List Stmt := R.prog.main.body.drop 112
def ksS : List (Option PySem.Expr) := match stS with
  | .Assign _ (.Dict ks _ _) _ => ks
  | _ => []
def vsS : List PySem.Expr := match stS with
  | .Assign _ (.Dict _ vs _) _ => vs
  | _ => []
def qdS : Pos := match stS with
  | .Assign _ (.Dict _ _ q) _ => q
  | _ => default
def npS : Pos := match stS with
  | .Assign [.Name _ q] _ _ => q
  | _ => default
def qsS : Pos := match stS with
  | .Assign _ _ q => q
  | _ => default
theorem body_eq : behindTheImports R.prog = L1 ++ .Assign [.Name "STEPS" npS] (.Dict ksS vsS qdS) qsS :: L2' := by kernel_rfl
abbrev topE (w : World) (ost : OsState) (q0 q1 q2 q3 : Pos) := CH.topF (stepQ (denQ tabQ) R.prog w) (fun s => (looksF R.prog (boot_heap w.params) s.abs, seenQ qv names (importedModules R.prog.main.body) (fun s => xlAt qv [] s && recOk R.toRowW.records s) s.abs, ob s)) 6000 R.prog w ost L1 L2' "STEPS" ksS vsS q0 q1 q2 q3
theorem runF (w : World) : ∀ ost q0 q1 q2 q3, topE (w.withFollow "special-get-raises" false) ost q0 q1 q2 q3 = some (true, true, openGood qv names, hk.val (w.withFollow "special-get-raises" false)) := by
  intro ost q0 q1 q2 q3
  kernel_rfl
theorem runT (w : World) : ∀ ost q0 q1 q2 q3, topE (w.withFollow "special-get-raises" true) ost q0 q1 q2 q3 = some (true, true, openGood qv names, hk.val (w.withFollow "special-get-raises" true)) := by
  intro ost q0 q1 q2 q3
  kernel_rfl
theorem run (w : World) : ∀ ost q0 q1 q2 q3, topE w ost q0 q1 q2 q3 = some (true, true, openGood qv names, hk.val w) :=
  byRow2 "special-get-raises" (P := fun w => ∀ ost q0 q1 q2 q3, topE w ost q0 q1 q2 q3 = some (true, true, openGood qv names, hk.val w)) runF runT w
end
end K39
end
section
set_option Elab.async false
set_option linter.all false
set_option maxRecDepth 100000
set_option maxHeartbeats 0
namespace K39
open PySem PySem.Spec PyProof.Rows L2 DI
section
variable {w : World} {K : PySem.W.Frag} {h0 : Heap} {mg : PySem.Str → Option Value}
theorem look (c : SaysX P chk fn ts is w K) : (∀ x ∈ frees, PySem.W.nsIn K mainGlobals x = some none) ∧ (∀ x ∈ gls, PySem.W.nsIn K mainGlobals x = some (some (.ref (He.ga K x)))) ∧ (∀ x ∈ co, conB K x.1 x.2 = true) ∧ (∀ t ∈ ts, tabB K t.1 t.2.2 = true) ∧ noList K = true ∧ ∀ d ∈ is, iniB P.main.file K d = true := by
  have h := c.m.look
  unfold chk at h
  simp only [Bool.and_eq_true, List.all_eq_true] at h
  exact ⟨fun x hx => He.eqO_ok (h.1 x hx), fun x hx => He.eqO_ok (h.2.1 x hx), h.2.2.1, h.2.2.2.1, h.2.2.2.2.1, h.2.2.2.2.2⟩
theorem free_of (KX : K.In h0) (GX : h0.Ns mainGlobals mg) (c : SaysX P chk fn ts is w K) {x : PySem.Str} (hx : frees.contains x = true) : mg x = none :=
  PySem.W.mg_none_of KX GX ((look c).1 x (List.contains_iff_mem.mp hx))
/-- what is asked of a def, decided -/
def dOk (d : He.DefD) (f : PySem.Str) (F : Fi) (N ps : List PySem.Str) : Bool := decide (d.at_ = (f, none)) && (decide (gls.contains f = true) && (C8.scC N ps d.scope && (decide (ps.length = F.np) && (decide (N.length = F.np + F.nl) && chkSs G xn N F.np F.body d.scope d.body))))
theorem def_of (KX : K.In h0) (GX : h0.Ns mainGlobals mg) (c : SaysX P chk fn ts is w K) (i : Nat) {d : He.DefD} (hd : fn[i]? = some d) {f : PySem.Str} {F : Fi} {N ps : List PySem.Str} (h : dOk d f F N ps = true)
    (h0' : d.dfl = [] ∧ d.kwd = []) (hb : ∀ (kV doc pm : Value) (an : Option Addr) (cdv ct : Value) (us : List Value), us.length = ps.length → bindArgs (PySem.W.fnOf d.name d.qual d.params d.body d.scope .none kV doc pm an cdv ct) ⟨us, []⟩ = pure (ps.zip us)) :
    ∃ fd, DefF G xn K mg f F d.name d.qual d.params d.body d.scope (He.ga K f) fd N ps := by
  unfold dOk at h
  simp only [Bool.and_eq_true, decide_eq_true_eq] at h
  obtain ⟨h1, h2, h3, h4, h5, h6⟩ := h
  obtain ⟨fd, FD⟩ := c.m.def_ i hd
  have e1 : d.dvs K = [] := by unfold He.DefD.dvs; rw [h0'.1]; rfl
  have e2 : d.kws K = [] := by unfold He.DefD.kws; rw [h0'.2]; rfl
  have e3 : He.fAd K d.at_ = He.ga K f := by rw [h1]; rfl
  rw [e1, e2, e3] at FD
  exact ⟨fd, FD, C8.fnScope_by h3, h4, h5, h6, PySem.W.mg_of KX GX ((look c).2.1 f (List.contains_iff_mem.mp h2)), FD.bindsN hb⟩
theorem k_is_whole : dOk q_is_whole (PySem.Str.ofString "is_whole") f_is_whole [(PySem.Str.ofString "value")] [(PySem.Str.ofString "value")] = true := by kernel_rfl
theorem o_is_whole (KX : K.In h0) (GX : h0.Ns mainGlobals mg) (c : SaysX P chk fn ts is w K) : ∃ fd, DefF G xn K mg (PySem.Str.ofString "is_whole") f_is_whole q_is_whole.name q_is_whole.qual q_is_whole.params q_is_whole.body q_is_whole.scope (He.ga K (PySem.Str.ofString "is_whole")) fd [(PySem.Str.ofString "value")] [(PySem.Str.ofString "value")] :=
  def_of KX GX c 0 (by rfl) k_is_whole ⟨rfl, rfl⟩ fun _ _ _ _ _ _ us hl => match us, hl with | [_], _ => rfl
theorem k_is_from : dOk q_is_from (PySem.Str.ofString "is_from") f_is_from [(PySem.Str.ofString "value"), (PySem.Str.ofString "low"), (PySem.Str.ofString "high")] [(PySem.Str.ofString "value"), (PySem.Str.ofString "low"), (PySem.Str.ofString "high")] = true := by kernel_rfl
theorem o_is_from (KX : K.In h0) (GX : h0.Ns mainGlobals mg) (c : SaysX P chk fn ts is w K) : ∃ fd, DefF G xn K mg (PySem.Str.ofString "is_from") f_is_from q_is_from.name q_is_from.qual q_is_from.params q_is_from.body q_is_from.scope (He.ga K (PySem.Str.ofString "is_from")) fd [(PySem.Str.ofString "value"), (PySem.Str.ofString "low"), (PySem.Str.ofString "high")] [(PySem.Str.ofString "value"), (PySem.Str.ofString "low"), (PySem.Str.ofString "high")] :=
  def_of KX GX c 1 (by rfl) k_is_from ⟨rfl, rfl⟩ fun _ _ _ _ _ _ us hl => match us, hl with | [_, _, _], _ => rfl
theorem k_is_row : dOk q_is_row (PySem.Str.ofString "is_row") f_is_row [(PySem.Str.ofString "value"), (PySem.Str.ofString "item")] [(PySem.Str.ofString "value")] = true := by kernel_rfl
theorem o_is_row (KX : K.In h0) (GX : h0.Ns mainGlobals mg) (c : SaysX P chk fn ts is w K) : ∃ fd, DefF G xn K mg (PySem.Str.ofString "is_row") f_is_row q_is_row.name q_is_row.qual q_is_row.params q_is_row.body q_is_row.scope (He.ga K (PySem.Str.ofString "is_row")) fd [(PySem.Str.ofString "value"), (PySem.Str.ofString "item")] [(PySem.Str.ofString "value")] :=
  def_of KX GX c 2 (by rfl) k_is_row ⟨rfl, rfl⟩ fun _ _ _ _ _ _ us hl => match us, hl with | [_], _ => rfl
theorem k_are_pairs : dOk q_are_pairs (PySem.Str.ofString "are_pairs") f_are_pairs [(PySem.Str.ofString "value"), (PySem.Str.ofString "item")] [(PySem.Str.ofString "value")] = true := by kernel_rfl
theorem o_are_pairs (KX : K.In h0) (GX : h0.Ns mainGlobals mg) (c : SaysX P chk fn ts is w K) : ∃ fd, DefF G xn K mg (PySem.Str.ofString "are_pairs") f_are_pairs q_are_pairs.name q_are_pairs.qual q_are_pairs.params q_are_pairs.body q_are_pairs.scope (He.ga K (PySem.Str.ofString "are_pairs")) fd [(PySem.Str.ofString "value"), (PySem.Str.ofString "item")] [(PySem.Str.ofString "value")] :=
  def_of KX GX c 3 (by rfl) k_are_pairs ⟨rfl, rfl⟩ fun _ _ _ _ _ _ us hl => match us, hl with | [_], _ => rfl
theorem k_first_true : dOk q_first_true (PySem.Str.ofString "first_true") f_first_true [(PySem.Str.ofString "flags"), (PySem.Str.ofString "k")] [(PySem.Str.ofString "flags")] = true := by kernel_rfl
theorem o_first_true (KX : K.In h0) (GX : h0.Ns mainGlobals mg) (c : SaysX P chk fn ts is w K) : ∃ fd, DefF G xn K mg (PySem.Str.ofString "first_true") f_first_true q_first_true.name q_first_true.qual q_first_true.params q_first_true.body q_first_true.scope (He.ga K (PySem.Str.ofString "first_true")) fd [(PySem.Str.ofString "flags"), (PySem.Str.ofString "k")] [(PySem.Str.ofString "flags")] :=
  def_of KX GX c 4 (by rfl) k_first_true ⟨rfl, rfl⟩ fun _ _ _ _ _ _ us hl => match us, hl with | [_], _ => rfl
theorem k_fault_at : dOk q_fault_at (PySem.Str.ofString "fault_at") f_fault_at [(PySem.Str.ofString "word"), (PySem.Str.ofString "place")] [(PySem.Str.ofString "word"), (PySem.Str.ofString "place")] = true := by kernel_rfl
theorem o_fault_at (KX : K.In h0) (GX : h0.Ns mainGlobals mg) (c : SaysX P chk fn ts is w K) : ∃ fd, DefF G xn K mg (PySem.Str.ofString "fault_at") f_fault_at q_fault_at.name q_fault_at.qual q_fault_at.params q_fault_at.body q_fault_at.scope (He.ga K (PySem.Str.ofString "fault_at")) fd [(PySem.Str.ofString "word"), (PySem.Str.ofString "place")] [(PySem.Str.ofString "word"), (PySem.Str.ofString "place")] :=
  def_of KX GX c 5 (by rfl) k_fault_at ⟨rfl, rfl⟩ fun _ _ _ _ _ _ us hl => match us, hl with | [_, _], _ => rfl
theorem k_first_of : dOk q_first_of (PySem.Str.ofString "first_of") f_first_of [(PySem.Str.ofString "faults"), (PySem.Str.ofString "fault")] [(PySem.Str.ofString "faults")] = true := by kernel_rfl
theorem o_first_of (KX : K.In h0) (GX : h0.Ns mainGlobals mg) (c : SaysX P chk fn ts is w K) : ∃ fd, DefF G xn K mg (PySem.Str.ofString "first_of") f_first_of q_first_of.name q_first_of.qual q_first_of.params q_first_of.body q_first_of.scope (He.ga K (PySem.Str.ofString "first_of")) fd [(PySem.Str.ofString "faults"), (PySem.Str.ofString "fault")] [(PySem.Str.ofString "faults")] :=
  def_of KX GX c 6 (by rfl) k_first_of ⟨rfl, rfl⟩ fun _ _ _ _ _ _ us hl => match us, hl with | [_], _ => rfl
theorem k_first_wrong : dOk q_first_wrong (PySem.Str.ofString "first_wrong") f_first_wrong [(PySem.Str.ofString "numbers"), (PySem.Str.ofString "many"), (PySem.Str.ofString "number")] [(PySem.Str.ofString "numbers"), (PySem.Str.ofString "many")] = true := by kernel_rfl
theorem o_first_wrong (KX : K.In h0) (GX : h0.Ns mainGlobals mg) (c : SaysX P chk fn ts is w K) : ∃ fd, DefF G xn K mg (PySem.Str.ofString "first_wrong") f_first_wrong q_first_wrong.name q_first_wrong.qual q_first_wrong.params q_first_wrong.body q_first_wrong.scope (He.ga K (PySem.Str.ofString "first_wrong")) fd [(PySem.Str.ofString "numbers"), (PySem.Str.ofString "many"), (PySem.Str.ofString "number")] [(PySem.Str.ofString "numbers"), (PySem.Str.ofString "many")] :=
  def_of KX GX c 7 (by rfl) k_first_wrong ⟨rfl, rfl⟩ fun _ _ _ _ _ _ us hl => match us, hl with | [_, _], _ => rfl
theorem k_joins_fault : dOk q_joins_fault (PySem.Str.ofString "joins_fault") f_joins_fault [(PySem.Str.ofString "value"), (PySem.Str.ofString "point"), (PySem.Str.ofString "turned"), (PySem.Str.ofString "order"), (PySem.Str.ofString "pair"), (PySem.Str.ofString "k")] [(PySem.Str.ofString "value")] = true := by kernel_rfl
theorem o_joins_fault (KX : K.In h0) (GX : h0.Ns mainGlobals mg) (c : SaysX P chk fn ts is w K) : ∃ fd, DefF G xn K mg (PySem.Str.ofString "joins_fault") f_joins_fault q_joins_fault.name q_joins_fault.qual q_joins_fault.params q_joins_fault.body q_joins_fault.scope (He.ga K (PySem.Str.ofString "joins_fault")) fd [(PySem.Str.ofString "value"), (PySem.Str.ofString "point"), (PySem.Str.ofString "turned"), (PySem.Str.ofString "order"), (PySem.Str.ofString "pair"), (PySem.Str.ofString "k")] [(PySem.Str.ofString "value")] :=
  def_of KX GX c 8 (by rfl) k_joins_fault ⟨rfl, rfl⟩ fun _ _ _ _ _ _ us hl => match us, hl with | [_], _ => rfl
theorem k_is_within : dOk q_is_within (PySem.Str.ofString "is_within") f_is_within [(PySem.Str.ofString "one"), (PySem.Str.ofString "two")] [(PySem.Str.ofString "one"), (PySem.Str.ofString "two")] = true := by kernel_rfl
theorem o_is_within (KX : K.In h0) (GX : h0.Ns mainGlobals mg) (c : SaysX P chk fn ts is w K) : ∃ fd, DefF G xn K mg (PySem.Str.ofString "is_within") f_is_within q_is_within.name q_is_within.qual q_is_within.params q_is_within.body q_is_within.scope (He.ga K (PySem.Str.ofString "is_within")) fd [(PySem.Str.ofString "one"), (PySem.Str.ofString "two")] [(PySem.Str.ofString "one"), (PySem.Str.ofString "two")] :=
  def_of KX GX c 9 (by rfl) k_is_within ⟨rfl, rfl⟩ fun _ _ _ _ _ _ us hl => match us, hl with | [_, _], _ => rfl
theorem k_fault_nests : dOk q_fault_nests (PySem.Str.ofString "fault_nests") f_fault_nests [(PySem.Str.ofString "value"), (PySem.Str.ofString "found"), (PySem.Str.ofString "one"), (PySem.Str.ofString "other")] [(PySem.Str.ofString "value")] = true := by kernel_rfl
theorem o_fault_nests (KX : K.In h0) (GX : h0.Ns mainGlobals mg) (c : SaysX P chk fn ts is w K) : ∃ fd, DefF G xn K mg (PySem.Str.ofString "fault_nests") f_fault_nests q_fault_nests.name q_fault_nests.qual q_fault_nests.params q_fault_nests.body q_fault_nests.scope (He.ga K (PySem.Str.ofString "fault_nests")) fd [(PySem.Str.ofString "value"), (PySem.Str.ofString "found"), (PySem.Str.ofString "one"), (PySem.Str.ofString "other")] [(PySem.Str.ofString "value")] :=
  def_of KX GX c 10 (by rfl) k_fault_nests ⟨rfl, rfl⟩ fun _ _ _ _ _ _ us hl => match us, hl with | [_], _ => rfl
theorem k_must_be_family : dOk q_must_be_family (PySem.Str.ofString "must_be_family") f_must_be_family [(PySem.Str.ofString "family")] [(PySem.Str.ofString "family")] = true := by kernel_rfl
theorem o_must_be_family (KX : K.In h0) (GX : h0.Ns mainGlobals mg) (c : SaysX P chk fn ts is w K) : ∃ fd, DefF G xn K mg (PySem.Str.ofString "must_be_family") f_must_be_family q_must_be_family.name q_must_be_family.qual q_must_be_family.params q_must_be_family.body q_must_be_family.scope (He.ga K (PySem.Str.ofString "must_be_family")) fd [(PySem.Str.ofString "family")] [(PySem.Str.ofString "family")] :=
  def_of KX GX c 11 (by rfl) k_must_be_family ⟨rfl, rfl⟩ fun _ _ _ _ _ _ us hl => match us, hl with | [_], _ => rfl
theorem k_fault_registry : dOk q_fault_registry (PySem.Str.ofString "fault_registry") f_fault_registry [(PySem.Str.ofString "family"), (PySem.Str.ofString "value")] [(PySem.Str.ofString "family"), (PySem.Str.ofString "value")] = true := by kernel_rfl
theorem o_fault_registry (KX : K.In h0) (GX : h0.Ns mainGlobals mg) (c : SaysX P chk fn ts is w K) : ∃ fd, DefF G xn K mg (PySem.Str.ofString "fault_registry") f_fault_registry q_fault_registry.name q_fault_registry.qual q_fault_registry.params q_fault_registry.body q_fault_registry.scope (He.ga K (PySem.Str.ofString "fault_registry")) fd [(PySem.Str.ofString "family"), (PySem.Str.ofString "value")] [(PySem.Str.ofString "family"), (PySem.Str.ofString "value")] :=
  def_of KX GX c 12 (by rfl) k_fault_registry ⟨rfl, rfl⟩ fun _ _ _ _ _ _ us hl => match us, hl with | [_, _], _ => rfl
theorem k_check : dOk q_check (PySem.Str.ofString "check") f_check [(PySem.Str.ofString "family"), (PySem.Str.ofString "value"), (PySem.Str.ofString "found")] [(PySem.Str.ofString "family"), (PySem.Str.ofString "value")] = true := by kernel_rfl
theorem o_check (KX : K.In h0) (GX : h0.Ns mainGlobals mg) (c : SaysX P chk fn ts is w K) : ∃ fd, DefF G xn K mg (PySem.Str.ofString "check") f_check q_check.name q_check.qual q_check.params q_check.body q_check.scope (He.ga K (PySem.Str.ofString "check")) fd [(PySem.Str.ofString "family"), (PySem.Str.ofString "value"), (PySem.Str.ofString "found")] [(PySem.Str.ofString "family"), (PySem.Str.ofString "value")] :=
  def_of KX GX c 13 (by rfl) k_check ⟨rfl, rfl⟩ fun _ _ _ _ _ _ us hl => match us, hl with | [_, _], _ => rfl
theorem k_nests_to_tables : dOk q_nests_to_tables (PySem.Str.ofString "nests_to_tables") f_nests_to_tables [(PySem.Str.ofString "value"), (PySem.Str.ofString "a"), (PySem.Str.ofString "_"), (PySem.Str.ofString "b")] [(PySem.Str.ofString "value")] = true := by kernel_rfl
theorem o_nests_to_tables (KX : K.In h0) (GX : h0.Ns mainGlobals mg) (c : SaysX P chk fn ts is w K) : ∃ fd, DefF G xn K mg (PySem.Str.ofString "nests_to_tables") f_nests_to_tables q_nests_to_tables.name q_nests_to_tables.qual q_nests_to_tables.params q_nests_to_tables.body q_nests_to_tables.scope (He.ga K (PySem.Str.ofString "nests_to_tables")) fd [(PySem.Str.ofString "value"), (PySem.Str.ofString "a"), (PySem.Str.ofString "_"), (PySem.Str.ofString "b")] [(PySem.Str.ofString "value")] :=
  def_of KX GX c 14 (by rfl) k_nests_to_tables ⟨rfl, rfl⟩ fun _ _ _ _ _ _ us hl => match us, hl with | [_], _ => rfl
theorem k_carried : dOk q_carried (PySem.Str.ofString "carried") f_carried [(PySem.Str.ofString "road"), (PySem.Str.ofString "value"), (PySem.Str.ofString "found"), (PySem.Str.ofString "k")] [(PySem.Str.ofString "road"), (PySem.Str.ofString "value")] = true := by kernel_rfl
theorem o_carried (KX : K.In h0) (GX : h0.Ns mainGlobals mg) (c : SaysX P chk fn ts is w K) : ∃ fd, DefF G xn K mg (PySem.Str.ofString "carried") f_carried q_carried.name q_carried.qual q_carried.params q_carried.body q_carried.scope (He.ga K (PySem.Str.ofString "carried")) fd [(PySem.Str.ofString "road"), (PySem.Str.ofString "value"), (PySem.Str.ofString "found"), (PySem.Str.ofString "k")] [(PySem.Str.ofString "road"), (PySem.Str.ofString "value")] :=
  def_of KX GX c 15 (by rfl) k_carried ⟨rfl, rfl⟩ fun _ _ _ _ _ _ us hl => match us, hl with | [_, _], _ => rfl
theorem k__law_is_integer : dOk q__law_is_integer (PySem.Str.ofString "_law_is_integer") f__law_is_integer [(PySem.Str.ofString "actual")] [(PySem.Str.ofString "actual")] = true := by kernel_rfl
theorem o__law_is_integer (KX : K.In h0) (GX : h0.Ns mainGlobals mg) (c : SaysX P chk fn ts is w K) : ∃ fd, DefF G xn K mg (PySem.Str.ofString "_law_is_integer") f__law_is_integer q__law_is_integer.name q__law_is_integer.qual q__law_is_integer.params q__law_is_integer.body q__law_is_integer.scope (He.ga K (PySem.Str.ofString "_law_is_integer")) fd [(PySem.Str.ofString "actual")] [(PySem.Str.ofString "actual")] :=
  def_of KX GX c 16 (by rfl) k__law_is_integer ⟨rfl, rfl⟩ fun _ _ _ _ _ _ us hl => match us, hl with | [_], _ => rfl
theorem k__law_same : dOk q__law_same (PySem.Str.ofString "_law_same") f__law_same [(PySem.Str.ofString "actual"), (PySem.Str.ofString "due"), (PySem.Str.ofString "k")] [(PySem.Str.ofString "actual"), (PySem.Str.ofString "due")] = true := by kernel_rfl
theorem o__law_same (KX : K.In h0) (GX : h0.Ns mainGlobals mg) (c : SaysX P chk fn ts is w K) : ∃ fd, DefF G xn K mg (PySem.Str.ofString "_law_same") f__law_same q__law_same.name q__law_same.qual q__law_same.params q__law_same.body q__law_same.scope (He.ga K (PySem.Str.ofString "_law_same")) fd [(PySem.Str.ofString "actual"), (PySem.Str.ofString "due"), (PySem.Str.ofString "k")] [(PySem.Str.ofString "actual"), (PySem.Str.ofString "due")] :=
  def_of KX GX c 17 (by rfl) k__law_same ⟨rfl, rfl⟩ fun _ _ _ _ _ _ us hl => match us, hl with | [_, _], _ => rfl
theorem k__law_pool : dOk q__law_pool (PySem.Str.ofString "_law_pool") f__law_pool [(PySem.Str.ofString "script"), (PySem.Str.ofString "salt"), (PySem.Str.ofString "cell")] [(PySem.Str.ofString "script")] = true := by kernel_rfl
theorem o__law_pool (KX : K.In h0) (GX : h0.Ns mainGlobals mg) (c : SaysX P chk fn ts is w K) : ∃ fd, DefF G xn K mg (PySem.Str.ofString "_law_pool") f__law_pool q__law_pool.name q__law_pool.qual q__law_pool.params q__law_pool.body q__law_pool.scope (He.ga K (PySem.Str.ofString "_law_pool")) fd [(PySem.Str.ofString "script"), (PySem.Str.ofString "salt"), (PySem.Str.ofString "cell")] [(PySem.Str.ofString "script")] :=
  def_of KX GX c 18 (by rfl) k__law_pool ⟨rfl, rfl⟩ fun _ _ _ _ _ _ us hl => match us, hl with | [_], _ => rfl
theorem k__law_spread : dOk q__law_spread (PySem.Str.ofString "_law_spread") f__law_spread [(PySem.Str.ofString "cell"), (PySem.Str.ofString "mixed"), (PySem.Str.ofString "total"), (PySem.Str.ofString "k")] [(PySem.Str.ofString "cell")] = true := by kernel_rfl
theorem o__law_spread (KX : K.In h0) (GX : h0.Ns mainGlobals mg) (c : SaysX P chk fn ts is w K) : ∃ fd, DefF G xn K mg (PySem.Str.ofString "_law_spread") f__law_spread q__law_spread.name q__law_spread.qual q__law_spread.params q__law_spread.body q__law_spread.scope (He.ga K (PySem.Str.ofString "_law_spread")) fd [(PySem.Str.ofString "cell"), (PySem.Str.ofString "mixed"), (PySem.Str.ofString "total"), (PySem.Str.ofString "k")] [(PySem.Str.ofString "cell")] :=
  def_of KX GX c 19 (by rfl) k__law_spread ⟨rfl, rfl⟩ fun _ _ _ _ _ _ us hl => match us, hl with | [_], _ => rfl
theorem k__law_draw : dOk q__law_draw (PySem.Str.ofString "_law_draw") f__law_draw [(PySem.Str.ofString "pool"), (PySem.Str.ofString "many"), (PySem.Str.ofString "value"), (PySem.Str.ofString "cell"), (PySem.Str.ofString "mixed")] [(PySem.Str.ofString "pool"), (PySem.Str.ofString "many")] = true := by kernel_rfl
theorem o__law_draw (KX : K.In h0) (GX : h0.Ns mainGlobals mg) (c : SaysX P chk fn ts is w K) : ∃ fd, DefF G xn K mg (PySem.Str.ofString "_law_draw") f__law_draw q__law_draw.name q__law_draw.qual q__law_draw.params q__law_draw.body q__law_draw.scope (He.ga K (PySem.Str.ofString "_law_draw")) fd [(PySem.Str.ofString "pool"), (PySem.Str.ofString "many"), (PySem.Str.ofString "value"), (PySem.Str.ofString "cell"), (PySem.Str.ofString "mixed")] [(PySem.Str.ofString "pool"), (PySem.Str.ofString "many")] :=
  def_of KX GX c 20 (by rfl) k__law_draw ⟨rfl, rfl⟩ fun _ _ _ _ _ _ us hl => match us, hl with | [_, _], _ => rfl
theorem k__law_pick : dOk q__law_pick (PySem.Str.ofString "_law_pick") f__law_pick [(PySem.Str.ofString "pool"), (PySem.Str.ofString "items")] [(PySem.Str.ofString "pool"), (PySem.Str.ofString "items")] = true := by kernel_rfl
theorem o__law_pick (KX : K.In h0) (GX : h0.Ns mainGlobals mg) (c : SaysX P chk fn ts is w K) : ∃ fd, DefF G xn K mg (PySem.Str.ofString "_law_pick") f__law_pick q__law_pick.name q__law_pick.qual q__law_pick.params q__law_pick.body q__law_pick.scope (He.ga K (PySem.Str.ofString "_law_pick")) fd [(PySem.Str.ofString "pool"), (PySem.Str.ofString "items")] [(PySem.Str.ofString "pool"), (PySem.Str.ofString "items")] :=
  def_of KX GX c 21 (by rfl) k__law_pick ⟨rfl, rfl⟩ fun _ _ _ _ _ _ us hl => match us, hl with | [_, _], _ => rfl
theorem k__law_bent : dOk q__law_bent (PySem.Str.ofString "_law_bent") f__law_bent [(PySem.Str.ofString "pool"), (PySem.Str.ofString "value"), (PySem.Str.ofString "turn"), (PySem.Str.ofString "at"), (PySem.Str.ofString "other"), (PySem.Str.ofString "items")] [(PySem.Str.ofString "pool"), (PySem.Str.ofString "value")] = true := by kernel_rfl
theorem o__law_bent (KX : K.In h0) (GX : h0.Ns mainGlobals mg) (c : SaysX P chk fn ts is w K) : ∃ fd, DefF G xn K mg (PySem.Str.ofString "_law_bent") f__law_bent q__law_bent.name q__law_bent.qual q__law_bent.params q__law_bent.body q__law_bent.scope (He.ga K (PySem.Str.ofString "_law_bent")) fd [(PySem.Str.ofString "pool"), (PySem.Str.ofString "value"), (PySem.Str.ofString "turn"), (PySem.Str.ofString "at"), (PySem.Str.ofString "other"), (PySem.Str.ofString "items")] [(PySem.Str.ofString "pool"), (PySem.Str.ofString "value")] :=
  def_of KX GX c 22 (by rfl) k__law_bent ⟨rfl, rfl⟩ fun _ _ _ _ _ _ us hl => match us, hl with | [_, _], _ => rfl
theorem k__law_booled : dOk q__law_booled (PySem.Str.ofString "_law_booled") f__law_booled [(PySem.Str.ofString "value"), (PySem.Str.ofString "one")] [(PySem.Str.ofString "value")] = true := by kernel_rfl
theorem o__law_booled (KX : K.In h0) (GX : h0.Ns mainGlobals mg) (c : SaysX P chk fn ts is w K) : ∃ fd, DefF G xn K mg (PySem.Str.ofString "_law_booled") f__law_booled q__law_booled.name q__law_booled.qual q__law_booled.params q__law_booled.body q__law_booled.scope (He.ga K (PySem.Str.ofString "_law_booled")) fd [(PySem.Str.ofString "value"), (PySem.Str.ofString "one")] [(PySem.Str.ofString "value")] :=
  def_of KX GX c 23 (by rfl) k__law_booled ⟨rfl, rfl⟩ fun _ _ _ _ _ _ us hl => match us, hl with | [_], _ => rfl
theorem k__law_listed : dOk q__law_listed (PySem.Str.ofString "_law_listed") f__law_listed [(PySem.Str.ofString "value"), (PySem.Str.ofString "deep"), (PySem.Str.ofString "one")] [(PySem.Str.ofString "value"), (PySem.Str.ofString "deep")] = true := by kernel_rfl
theorem o__law_listed (KX : K.In h0) (GX : h0.Ns mainGlobals mg) (c : SaysX P chk fn ts is w K) : ∃ fd, DefF G xn K mg (PySem.Str.ofString "_law_listed") f__law_listed q__law_listed.name q__law_listed.qual q__law_listed.params q__law_listed.body q__law_listed.scope (He.ga K (PySem.Str.ofString "_law_listed")) fd [(PySem.Str.ofString "value"), (PySem.Str.ofString "deep"), (PySem.Str.ofString "one")] [(PySem.Str.ofString "value"), (PySem.Str.ofString "deep")] :=
  def_of KX GX c 24 (by rfl) k__law_listed ⟨rfl, rfl⟩ fun _ _ _ _ _ _ us hl => match us, hl with | [_, _], _ => rfl
theorem k__law_is_row : dOk q__law_is_row (PySem.Str.ofString "_law_is_row") f__law_is_row [(PySem.Str.ofString "value"), (PySem.Str.ofString "many"), (PySem.Str.ofString "low"), (PySem.Str.ofString "high"), (PySem.Str.ofString "one")] [(PySem.Str.ofString "value"), (PySem.Str.ofString "many"), (PySem.Str.ofString "low"), (PySem.Str.ofString "high")] = true := by kernel_rfl
theorem o__law_is_row (KX : K.In h0) (GX : h0.Ns mainGlobals mg) (c : SaysX P chk fn ts is w K) : ∃ fd, DefF G xn K mg (PySem.Str.ofString "_law_is_row") f__law_is_row q__law_is_row.name q__law_is_row.qual q__law_is_row.params q__law_is_row.body q__law_is_row.scope (He.ga K (PySem.Str.ofString "_law_is_row")) fd [(PySem.Str.ofString "value"), (PySem.Str.ofString "many"), (PySem.Str.ofString "low"), (PySem.Str.ofString "high"), (PySem.Str.ofString "one")] [(PySem.Str.ofString "value"), (PySem.Str.ofString "many"), (PySem.Str.ofString "low"), (PySem.Str.ofString "high")] :=
  def_of KX GX c 25 (by rfl) k__law_is_row ⟨rfl, rfl⟩ fun _ _ _ _ _ _ us hl => match us, hl with | [_, _, _, _], _ => rfl
theorem k__law_least : dOk q__law_least (PySem.Str.ofString "_law_least") f__law_least [(PySem.Str.ofString "items")] [(PySem.Str.ofString "items")] = true := by kernel_rfl
theorem o__law_least (KX : K.In h0) (GX : h0.Ns mainGlobals mg) (c : SaysX P chk fn ts is w K) : ∃ fd, DefF G xn K mg (PySem.Str.ofString "_law_least") f__law_least q__law_least.name q__law_least.qual q__law_least.params q__law_least.body q__law_least.scope (He.ga K (PySem.Str.ofString "_law_least")) fd [(PySem.Str.ofString "items")] [(PySem.Str.ofString "items")] :=
  def_of KX GX c 26 (by rfl) k__law_least ⟨rfl, rfl⟩ fun _ _ _ _ _ _ us hl => match us, hl with | [_], _ => rfl
theorem k__law_first : dOk q__law_first (PySem.Str.ofString "_law_first") f__law_first [(PySem.Str.ofString "faults"), (PySem.Str.ofString "one")] [(PySem.Str.ofString "faults")] = true := by kernel_rfl
theorem o__law_first (KX : K.In h0) (GX : h0.Ns mainGlobals mg) (c : SaysX P chk fn ts is w K) : ∃ fd, DefF G xn K mg (PySem.Str.ofString "_law_first") f__law_first q__law_first.name q__law_first.qual q__law_first.params q__law_first.body q__law_first.scope (He.ga K (PySem.Str.ofString "_law_first")) fd [(PySem.Str.ofString "faults"), (PySem.Str.ofString "one")] [(PySem.Str.ofString "faults")] :=
  def_of KX GX c 27 (by rfl) k__law_first ⟨rfl, rfl⟩ fun _ _ _ _ _ _ us hl => match us, hl with | [_], _ => rfl
theorem k__law_swapped : dOk q__law_swapped (PySem.Str.ofString "_law_swapped") f__law_swapped [(PySem.Str.ofString "pool"), (PySem.Str.ofString "value"), (PySem.Str.ofString "at"), (PySem.Str.ofString "other"), (PySem.Str.ofString "row")] [(PySem.Str.ofString "pool"), (PySem.Str.ofString "value")] = true := by kernel_rfl
theorem o__law_swapped (KX : K.In h0) (GX : h0.Ns mainGlobals mg) (c : SaysX P chk fn ts is w K) : ∃ fd, DefF G xn K mg (PySem.Str.ofString "_law_swapped") f__law_swapped q__law_swapped.name q__law_swapped.qual q__law_swapped.params q__law_swapped.body q__law_swapped.scope (He.ga K (PySem.Str.ofString "_law_swapped")) fd [(PySem.Str.ofString "pool"), (PySem.Str.ofString "value"), (PySem.Str.ofString "at"), (PySem.Str.ofString "other"), (PySem.Str.ofString "row")] [(PySem.Str.ofString "pool"), (PySem.Str.ofString "value")] :=
  def_of KX GX c 28 (by rfl) k__law_swapped ⟨rfl, rfl⟩ fun _ _ _ _ _ _ us hl => match us, hl with | [_, _], _ => rfl
theorem k__law_changed : dOk q__law_changed (PySem.Str.ofString "_law_changed") f__law_changed [(PySem.Str.ofString "pool"), (PySem.Str.ofString "value"), (PySem.Str.ofString "things"), (PySem.Str.ofString "at")] [(PySem.Str.ofString "pool"), (PySem.Str.ofString "value"), (PySem.Str.ofString "things")] = true := by kernel_rfl
theorem o__law_changed (KX : K.In h0) (GX : h0.Ns mainGlobals mg) (c : SaysX P chk fn ts is w K) : ∃ fd, DefF G xn K mg (PySem.Str.ofString "_law_changed") f__law_changed q__law_changed.name q__law_changed.qual q__law_changed.params q__law_changed.body q__law_changed.scope (He.ga K (PySem.Str.ofString "_law_changed")) fd [(PySem.Str.ofString "pool"), (PySem.Str.ofString "value"), (PySem.Str.ofString "things"), (PySem.Str.ofString "at")] [(PySem.Str.ofString "pool"), (PySem.Str.ofString "value"), (PySem.Str.ofString "things")] :=
  def_of KX GX c 29 (by rfl) k__law_changed ⟨rfl, rfl⟩ fun _ _ _ _ _ _ us hl => match us, hl with | [_, _, _], _ => rfl
theorem k__law_all : dOk q__law_all (PySem.Str.ofString "_law_all") f__law_all [(PySem.Str.ofString "many"), (PySem.Str.ofString "level"), (PySem.Str.ofString "k"), (PySem.Str.ofString "longer"), (PySem.Str.ofString "word"), (PySem.Str.ofString "height"), (PySem.Str.ofString "sign")] [(PySem.Str.ofString "many")] = true := by kernel_rfl
theorem o__law_all (KX : K.In h0) (GX : h0.Ns mainGlobals mg) (c : SaysX P chk fn ts is w K) : ∃ fd, DefF G xn K mg (PySem.Str.ofString "_law_all") f__law_all q__law_all.name q__law_all.qual q__law_all.params q__law_all.body q__law_all.scope (He.ga K (PySem.Str.ofString "_law_all")) fd [(PySem.Str.ofString "many"), (PySem.Str.ofString "level"), (PySem.Str.ofString "k"), (PySem.Str.ofString "longer"), (PySem.Str.ofString "word"), (PySem.Str.ofString "height"), (PySem.Str.ofString "sign")] [(PySem.Str.ofString "many")] :=
  def_of KX GX c 30 (by rfl) k__law_all ⟨rfl, rfl⟩ fun _ _ _ _ _ _ us hl => match us, hl with | [_], _ => rfl
theorem k__law_brackets : dOk q__law_brackets (PySem.Str.ofString "_law_brackets") f__law_brackets [(PySem.Str.ofString "pool"), (PySem.Str.ofString "most"), (PySem.Str.ofString "many"), (PySem.Str.ofString "found"), (PySem.Str.ofString "height"), (PySem.Str.ofString "left"), (PySem.Str.ofString "sign")] [(PySem.Str.ofString "pool"), (PySem.Str.ofString "most")] = true := by kernel_rfl
theorem o__law_brackets (KX : K.In h0) (GX : h0.Ns mainGlobals mg) (c : SaysX P chk fn ts is w K) : ∃ fd, DefF G xn K mg (PySem.Str.ofString "_law_brackets") f__law_brackets q__law_brackets.name q__law_brackets.qual q__law_brackets.params q__law_brackets.body q__law_brackets.scope (He.ga K (PySem.Str.ofString "_law_brackets")) fd [(PySem.Str.ofString "pool"), (PySem.Str.ofString "most"), (PySem.Str.ofString "many"), (PySem.Str.ofString "found"), (PySem.Str.ofString "height"), (PySem.Str.ofString "left"), (PySem.Str.ofString "sign")] [(PySem.Str.ofString "pool"), (PySem.Str.ofString "most")] :=
  def_of KX GX c 31 (by rfl) k__law_brackets ⟨rfl, rfl⟩ fun _ _ _ _ _ _ us hl => match us, hl with | [_, _], _ => rfl
theorem k__law_pairs_form : dOk q__law_pairs_form (PySem.Str.ofString "_law_pairs_form") f__law_pairs_form [(PySem.Str.ofString "value"), (PySem.Str.ofString "one")] [(PySem.Str.ofString "value")] = true := by kernel_rfl
theorem o__law_pairs_form (KX : K.In h0) (GX : h0.Ns mainGlobals mg) (c : SaysX P chk fn ts is w K) : ∃ fd, DefF G xn K mg (PySem.Str.ofString "_law_pairs_form") f__law_pairs_form q__law_pairs_form.name q__law_pairs_form.qual q__law_pairs_form.params q__law_pairs_form.body q__law_pairs_form.scope (He.ga K (PySem.Str.ofString "_law_pairs_form")) fd [(PySem.Str.ofString "value"), (PySem.Str.ofString "one")] [(PySem.Str.ofString "value")] :=
  def_of KX GX c 32 (by rfl) k__law_pairs_form ⟨rfl, rfl⟩ fun _ _ _ _ _ _ us hl => match us, hl with | [_], _ => rfl
theorem k__law_wrong_number : dOk q__law_wrong_number (PySem.Str.ofString "_law_wrong_number") f__law_wrong_number [(PySem.Str.ofString "numbers"), (PySem.Str.ofString "many"), (PySem.Str.ofString "k"), (PySem.Str.ofString "one")] [(PySem.Str.ofString "numbers"), (PySem.Str.ofString "many")] = true := by kernel_rfl
theorem o__law_wrong_number (KX : K.In h0) (GX : h0.Ns mainGlobals mg) (c : SaysX P chk fn ts is w K) : ∃ fd, DefF G xn K mg (PySem.Str.ofString "_law_wrong_number") f__law_wrong_number q__law_wrong_number.name q__law_wrong_number.qual q__law_wrong_number.params q__law_wrong_number.body q__law_wrong_number.scope (He.ga K (PySem.Str.ofString "_law_wrong_number")) fd [(PySem.Str.ofString "numbers"), (PySem.Str.ofString "many"), (PySem.Str.ofString "k"), (PySem.Str.ofString "one")] [(PySem.Str.ofString "numbers"), (PySem.Str.ofString "many")] :=
  def_of KX GX c 33 (by rfl) k__law_wrong_number ⟨rfl, rfl⟩ fun _ _ _ _ _ _ us hl => match us, hl with | [_, _], _ => rfl
theorem k__law_joins : dOk q__law_joins (PySem.Str.ofString "_law_joins") f__law_joins [(PySem.Str.ofString "value"), (PySem.Str.ofString "points"), (PySem.Str.ofString "pair"), (PySem.Str.ofString "backward"), (PySem.Str.ofString "order"), (PySem.Str.ofString "k")] [(PySem.Str.ofString "value")] = true := by kernel_rfl
theorem o__law_joins (KX : K.In h0) (GX : h0.Ns mainGlobals mg) (c : SaysX P chk fn ts is w K) : ∃ fd, DefF G xn K mg (PySem.Str.ofString "_law_joins") f__law_joins q__law_joins.name q__law_joins.qual q__law_joins.params q__law_joins.body q__law_joins.scope (He.ga K (PySem.Str.ofString "_law_joins")) fd [(PySem.Str.ofString "value"), (PySem.Str.ofString "points"), (PySem.Str.ofString "pair"), (PySem.Str.ofString "backward"), (PySem.Str.ofString "order"), (PySem.Str.ofString "k")] [(PySem.Str.ofString "value")] :=
  def_of KX GX c 34 (by rfl) k__law_joins ⟨rfl, rfl⟩ fun _ _ _ _ _ _ us hl => match us, hl with | [_], _ => rfl
theorem k__law_f_nests : dOk q__law_f_nests (PySem.Str.ofString "_law_f_nests") f__law_f_nests [(PySem.Str.ofString "value"), (PySem.Str.ofString "found"), (PySem.Str.ofString "within"), (PySem.Str.ofString "k"), (PySem.Str.ofString "pair")] [(PySem.Str.ofString "value")] = true := by kernel_rfl
theorem o__law_f_nests (KX : K.In h0) (GX : h0.Ns mainGlobals mg) (c : SaysX P chk fn ts is w K) : ∃ fd, DefF G xn K mg (PySem.Str.ofString "_law_f_nests") f__law_f_nests q__law_f_nests.name q__law_f_nests.qual q__law_f_nests.params q__law_f_nests.body q__law_f_nests.scope (He.ga K (PySem.Str.ofString "_law_f_nests")) fd [(PySem.Str.ofString "value"), (PySem.Str.ofString "found"), (PySem.Str.ofString "within"), (PySem.Str.ofString "k"), (PySem.Str.ofString "pair")] [(PySem.Str.ofString "value")] :=
  def_of KX GX c 35 (by rfl) k__law_f_nests ⟨rfl, rfl⟩ fun _ _ _ _ _ _ us hl => match us, hl with | [_], _ => rfl
theorem k__law_opens : dOk q__law_opens (PySem.Str.ofString "_law_opens") f__law_opens [(PySem.Str.ofString "value"), (PySem.Str.ofString "k")] [(PySem.Str.ofString "value")] = true := by kernel_rfl
theorem o__law_opens (KX : K.In h0) (GX : h0.Ns mainGlobals mg) (c : SaysX P chk fn ts is w K) : ∃ fd, DefF G xn K mg (PySem.Str.ofString "_law_opens") f__law_opens q__law_opens.name q__law_opens.qual q__law_opens.params q__law_opens.body q__law_opens.scope (He.ga K (PySem.Str.ofString "_law_opens")) fd [(PySem.Str.ofString "value"), (PySem.Str.ofString "k")] [(PySem.Str.ofString "value")] :=
  def_of KX GX c 36 (by rfl) k__law_opens ⟨rfl, rfl⟩ fun _ _ _ _ _ _ us hl => match us, hl with | [_], _ => rfl
theorem k__law_shuts : dOk q__law_shuts (PySem.Str.ofString "_law_shuts") f__law_shuts [(PySem.Str.ofString "value"), (PySem.Str.ofString "k")] [(PySem.Str.ofString "value")] = true := by kernel_rfl
theorem o__law_shuts (KX : K.In h0) (GX : h0.Ns mainGlobals mg) (c : SaysX P chk fn ts is w K) : ∃ fd, DefF G xn K mg (PySem.Str.ofString "_law_shuts") f__law_shuts q__law_shuts.name q__law_shuts.qual q__law_shuts.params q__law_shuts.body q__law_shuts.scope (He.ga K (PySem.Str.ofString "_law_shuts")) fd [(PySem.Str.ofString "value"), (PySem.Str.ofString "k")] [(PySem.Str.ofString "value")] :=
  def_of KX GX c 37 (by rfl) k__law_shuts ⟨rfl, rfl⟩ fun _ _ _ _ _ _ us hl => match us, hl with | [_], _ => rfl
theorem k__law_nests : dOk q__law_nests (PySem.Str.ofString "_law_nests") f__law_nests [(PySem.Str.ofString "value"), (PySem.Str.ofString "opens"), (PySem.Str.ofString "shuts"), (PySem.Str.ofString "k")] [(PySem.Str.ofString "value")] = true := by kernel_rfl
theorem o__law_nests (KX : K.In h0) (GX : h0.Ns mainGlobals mg) (c : SaysX P chk fn ts is w K) : ∃ fd, DefF G xn K mg (PySem.Str.ofString "_law_nests") f__law_nests q__law_nests.name q__law_nests.qual q__law_nests.params q__law_nests.body q__law_nests.scope (He.ga K (PySem.Str.ofString "_law_nests")) fd [(PySem.Str.ofString "value"), (PySem.Str.ofString "opens"), (PySem.Str.ofString "shuts"), (PySem.Str.ofString "k")] [(PySem.Str.ofString "value")] :=
  def_of KX GX c 38 (by rfl) k__law_nests ⟨rfl, rfl⟩ fun _ _ _ _ _ _ us hl => match us, hl with | [_], _ => rfl
theorem k__law_tables : dOk q__law_tables (PySem.Str.ofString "_law_tables") f__law_tables [(PySem.Str.ofString "value")] [(PySem.Str.ofString "value")] = true := by kernel_rfl
theorem o__law_tables (KX : K.In h0) (GX : h0.Ns mainGlobals mg) (c : SaysX P chk fn ts is w K) : ∃ fd, DefF G xn K mg (PySem.Str.ofString "_law_tables") f__law_tables q__law_tables.name q__law_tables.qual q__law_tables.params q__law_tables.body q__law_tables.scope (He.ga K (PySem.Str.ofString "_law_tables")) fd [(PySem.Str.ofString "value")] [(PySem.Str.ofString "value")] :=
  def_of KX GX c 39 (by rfl) k__law_tables ⟨rfl, rfl⟩ fun _ _ _ _ _ _ us hl => match us, hl with | [_], _ => rfl
theorem k__law_bends : dOk q__law_bends (PySem.Str.ofString "_law_bends") f__law_bends [(PySem.Str.ofString "pool"), (PySem.Str.ofString "sample"), (PySem.Str.ofString "things"), (PySem.Str.ofString "found"), (PySem.Str.ofString "k")] [(PySem.Str.ofString "pool"), (PySem.Str.ofString "sample")] = true := by kernel_rfl
theorem o__law_bends (KX : K.In h0) (GX : h0.Ns mainGlobals mg) (c : SaysX P chk fn ts is w K) : ∃ fd, DefF G xn K mg (PySem.Str.ofString "_law_bends") f__law_bends q__law_bends.name q__law_bends.qual q__law_bends.params q__law_bends.body q__law_bends.scope (He.ga K (PySem.Str.ofString "_law_bends")) fd [(PySem.Str.ofString "pool"), (PySem.Str.ofString "sample"), (PySem.Str.ofString "things"), (PySem.Str.ofString "found"), (PySem.Str.ofString "k")] [(PySem.Str.ofString "pool"), (PySem.Str.ofString "sample")] :=
  def_of KX GX c 40 (by rfl) k__law_bends ⟨rfl, rfl⟩ fun _ _ _ _ _ _ us hl => match us, hl with | [_, _], _ => rfl
theorem k__law_carried : dOk q__law_carried (PySem.Str.ofString "_law_carried") f__law_carried [(PySem.Str.ofString "value"), (PySem.Str.ofString "e")] [(PySem.Str.ofString "value")] = true := by kernel_rfl
theorem o__law_carried (KX : K.In h0) (GX : h0.Ns mainGlobals mg) (c : SaysX P chk fn ts is w K) : ∃ fd, DefF G xn K mg (PySem.Str.ofString "_law_carried") f__law_carried q__law_carried.name q__law_carried.qual q__law_carried.params q__law_carried.body q__law_carried.scope (He.ga K (PySem.Str.ofString "_law_carried")) fd [(PySem.Str.ofString "value"), (PySem.Str.ofString "e")] [(PySem.Str.ofString "value")] :=
  def_of KX GX c 41 (by rfl) k__law_carried ⟨rfl, rfl⟩ fun _ _ _ _ _ _ us hl => match us, hl with | [_], _ => rfl
theorem k_law : dOk q_law (PySem.Str.ofString "law") f_law [(PySem.Str.ofString "script"), (PySem.Str.ofString "pool"), (PySem.Str.ofString "values"), (PySem.Str.ofString "value"), (PySem.Str.ofString "bent"), (PySem.Str.ofString "shown"), (PySem.Str.ofString "wrong"), (PySem.Str.ofString "here"), (PySem.Str.ofString "due"), (PySem.Str.ofString "k")] [(PySem.Str.ofString "script")] = true := by kernel_rfl
theorem o_law (KX : K.In h0) (GX : h0.Ns mainGlobals mg) (c : SaysX P chk fn ts is w K) : ∃ fd, DefF G xn K mg (PySem.Str.ofString "law") f_law q_law.name q_law.qual q_law.params q_law.body q_law.scope (He.ga K (PySem.Str.ofString "law")) fd [(PySem.Str.ofString "script"), (PySem.Str.ofString "pool"), (PySem.Str.ofString "values"), (PySem.Str.ofString "value"), (PySem.Str.ofString "bent"), (PySem.Str.ofString "shown"), (PySem.Str.ofString "wrong"), (PySem.Str.ofString "here"), (PySem.Str.ofString "due"), (PySem.Str.ofString "k")] [(PySem.Str.ofString "script")] :=
  def_of KX GX c 42 (by rfl) k_law ⟨rfl, rfl⟩ fun _ _ _ _ _ _ us hl => match us, hl with | [_], _ => rfl
theorem dx {f : PySem.Str} {F : Fi} {x qual : PySem.Str} {params : Arguments} {body : List Stmt} {scope : Scope} {fa : Addr} {N ps : List PySem.Str} (h : ∃ fd, DefF G xn K mg f F x qual params body scope fa fd N ps) :
    ∃ x qual params body scope fa fd N ps, DefF G xn K mg f F x qual params body scope fa fd N ps := let ⟨fd, h⟩ := h; ⟨x, qual, params, body, scope, fa, fd, N, ps, h⟩
theorem fi_all {Q : PySem.Str → Fi → Prop} (h0 : Q (PySem.Str.ofString "is_whole") f_is_whole) (h1 : Q (PySem.Str.ofString "is_from") f_is_from) (h2 : Q (PySem.Str.ofString "is_row") f_is_row) (h3 : Q (PySem.Str.ofString "are_pairs") f_are_pairs) (h4 : Q (PySem.Str.ofString "first_true") f_first_true) (h5 : Q (PySem.Str.ofString "fault_at") f_fault_at) (h6 : Q (PySem.Str.ofString "first_of") f_first_of) (h7 : Q (PySem.Str.ofString "first_wrong") f_first_wrong) (h8 : Q (PySem.Str.ofString "joins_fault") f_joins_fault) (h9 : Q (PySem.Str.ofString "is_within") f_is_within) (h10 : Q (PySem.Str.ofString "fault_nests") f_fault_nests) (h11 : Q (PySem.Str.ofString "must_be_family") f_must_be_family) (h12 : Q (PySem.Str.ofString "fault_registry") f_fault_registry) (h13 : Q (PySem.Str.ofString "check") f_check) (h14 : Q (PySem.Str.ofString "nests_to_tables") f_nests_to_tables) (h15 : Q (PySem.Str.ofString "carried") f_carried) (h16 : Q (PySem.Str.ofString "_law_is_integer") f__law_is_integer) (h17 : Q (PySem.Str.ofString "_law_same") f__law_same) (h18 : Q (PySem.Str.ofString "_law_pool") f__law_pool) (h19 : Q (PySem.Str.ofString "_law_spread") f__law_spread) (h20 : Q (PySem.Str.ofString "_law_draw") f__law_draw) (h21 : Q (PySem.Str.ofString "_law_pick") f__law_pick) (h22 : Q (PySem.Str.ofString "_law_bent") f__law_bent) (h23 : Q (PySem.Str.ofString "_law_booled") f__law_booled) (h24 : Q (PySem.Str.ofString "_law_listed") f__law_listed) (h25 : Q (PySem.Str.ofString "_law_is_row") f__law_is_row) (h26 : Q (PySem.Str.ofString "_law_least") f__law_least) (h27 : Q (PySem.Str.ofString "_law_first") f__law_first) (h28 : Q (PySem.Str.ofString "_law_swapped") f__law_swapped) (h29 : Q (PySem.Str.ofString "_law_changed") f__law_changed) (h30 : Q (PySem.Str.ofString "_law_all") f__law_all) (h31 : Q (PySem.Str.ofString "_law_brackets") f__law_brackets) (h32 : Q (PySem.Str.ofString "_law_pairs_form") f__law_pairs_form) (h33 : Q (PySem.Str.ofString "_law_wrong_number") f__law_wrong_number) (h34 : Q (PySem.Str.ofString "_law_joins") f__law_joins) (h35 : Q (PySem.Str.ofString "_law_f_nests") f__law_f_nests) (h36 : Q (PySem.Str.ofString "_law_opens") f__law_opens) (h37 : Q (PySem.Str.ofString "_law_shuts") f__law_shuts) (h38 : Q (PySem.Str.ofString "_law_nests") f__law_nests) (h39 : Q (PySem.Str.ofString "_law_tables") f__law_tables) (h40 : Q (PySem.Str.ofString "_law_bends") f__law_bends) (h41 : Q (PySem.Str.ofString "_law_carried") f__law_carried) (h42 : Q (PySem.Str.ofString "law") f_law) : ∀ f F, G.fn f = some F → Q f F := by
  intro f F h
  have h2 : (f, F) ∈ fi := PySem.mem_of_lookup h
  unfold fi at h2
  simp only [List.mem_cons, List.not_mem_nil, or_false, Prod.mk.injEq] at h2
  rcases h2 with ⟨rfl, rfl⟩ | ⟨rfl, rfl⟩ | ⟨rfl, rfl⟩ | ⟨rfl, rfl⟩ | ⟨rfl, rfl⟩ | ⟨rfl, rfl⟩ | ⟨rfl, rfl⟩ | ⟨rfl, rfl⟩ | ⟨rfl, rfl⟩ | ⟨rfl, rfl⟩ | ⟨rfl, rfl⟩ | ⟨rfl, rfl⟩ | ⟨rfl, rfl⟩ | ⟨rfl, rfl⟩ | ⟨rfl, rfl⟩ | ⟨rfl, rfl⟩ | ⟨rfl, rfl⟩ | ⟨rfl, rfl⟩ | ⟨rfl, rfl⟩ | ⟨rfl, rfl⟩ | ⟨rfl, rfl⟩ | ⟨rfl, rfl⟩ | ⟨rfl, rfl⟩ | ⟨rfl, rfl⟩ | ⟨rfl, rfl⟩ | ⟨rfl, rfl⟩ | ⟨rfl, rfl⟩ | ⟨rfl, rfl⟩ | ⟨rfl, rfl⟩ | ⟨rfl, rfl⟩ | ⟨rfl, rfl⟩ | ⟨rfl, rfl⟩ | ⟨rfl, rfl⟩ | ⟨rfl, rfl⟩ | ⟨rfl, rfl⟩ | ⟨rfl, rfl⟩ | ⟨rfl, rfl⟩ | ⟨rfl, rfl⟩ | ⟨rfl, rfl⟩ | ⟨rfl, rfl⟩ | ⟨rfl, rfl⟩ | ⟨rfl, rfl⟩ | ⟨rfl, rfl⟩
  · exact h0
  · exact h1
  · exact h2
  · exact h3
  · exact h4
  · exact h5
  · exact h6
  · exact h7
  · exact h8
  · exact h9
  · exact h10
  · exact h11
  · exact h12
  · exact h13
  · exact h14
  · exact h15
  · exact h16
  · exact h17
  · exact h18
  · exact h19
  · exact h20
  · exact h21
  · exact h22
  · exact h23
  · exact h24
  · exact h25
  · exact h26
  · exact h27
  · exact h28
  · exact h29
  · exact h30
  · exact h31
  · exact h32
  · exact h33
  · exact h34
  · exact h35
  · exact h36
  · exact h37
  · exact h38
  · exact h39
  · exact h40
  · exact h41
  · exact h42
theorem modF (KX : K.In h0) (GX : h0.Ns mainGlobals mg) (c : SaysX P chk fn ts is w K) : ModF G xn P w K mg := by
  refine ⟨fi_all (dx (o_is_whole KX GX c)) (dx (o_is_from KX GX c)) (dx (o_is_row KX GX c)) (dx (o_are_pairs KX GX c)) (dx (o_first_true KX GX c)) (dx (o_fault_at KX GX c)) (dx (o_first_of KX GX c)) (dx (o_first_wrong KX GX c)) (dx (o_joins_fault KX GX c)) (dx (o_is_within KX GX c)) (dx (o_fault_nests KX GX c)) (dx (o_must_be_family KX GX c)) (dx (o_fault_registry KX GX c)) (dx (o_check KX GX c)) (dx (o_nests_to_tables KX GX c)) (dx (o_carried KX GX c)) (dx (o__law_is_integer KX GX c)) (dx (o__law_same KX GX c)) (dx (o__law_pool KX GX c)) (dx (o__law_spread KX GX c)) (dx (o__law_draw KX GX c)) (dx (o__law_pick KX GX c)) (dx (o__law_bent KX GX c)) (dx (o__law_booled KX GX c)) (dx (o__law_listed KX GX c)) (dx (o__law_is_row KX GX c)) (dx (o__law_least KX GX c)) (dx (o__law_first KX GX c)) (dx (o__law_swapped KX GX c)) (dx (o__law_changed KX GX c)) (dx (o__law_all KX GX c)) (dx (o__law_brackets KX GX c)) (dx (o__law_pairs_form KX GX c)) (dx (o__law_wrong_number KX GX c)) (dx (o__law_joins KX GX c)) (dx (o__law_f_nests KX GX c)) (dx (o__law_opens KX GX c)) (dx (o__law_shuts KX GX c)) (dx (o__law_nests KX GX c)) (dx (o__law_tables KX GX c)) (dx (o__law_bends KX GX c)) (dx (o__law_carried KX GX c)) (dx (o_law KX GX c)), fun b => ?_, fun t => ?_, ?_, ?_, ?_, fun n d h => ?_, fun d tb h => ?_, fun cl n h => ?_⟩
  · cases b <;> exact free_of KX GX c (by kernel_rfl)
  · cases t <;> exact free_of KX GX c (by kernel_rfl)
  · exact free_of KX GX c (by kernel_rfl)
  · exact free_of KX GX c (by kernel_rfl)
  · exact free_of KX GX c (by kernel_rfl)
  · have h2 : (n, d) ∈ co := PySem.mem_of_lookup h
    exact conB_ok KX GX ((look c).2.2.1 _ h2)
  · have h2 : (d, tb) ∈ di := PySem.mem_of_lookup h
    unfold di at h2
    simp only [List.mem_cons, List.not_mem_nil, or_false, Prod.mk.injEq] at h2
    rcases h2 with ⟨rfl, rfl⟩ | ⟨rfl, rfl⟩
    · have ht : ((PySem.Str.ofString "FAULTS"), false, d_FAULTS) ∈ ts := by unfold ts; simp
      exact dic_ok (b := false) KX GX ((look c).2.2.2.1 _ ht) (c.m.tab ht) (by kernel_rfl) (by decide +kernel)
    · have ht : ((PySem.Str.ofString "STEPS"), true, d_STEPS) ∈ ts := by unfold ts; simp
      exact dic_ok (b := true) KX GX ((look c).2.2.2.1 _ ht) (c.m.tab ht) (by kernel_rfl) (by decide +kernel)
  · have h2 : (cl, n) ∈ xcl := PySem.mem_of_lookup h
    unfold xcl at h2
    simp only [List.mem_cons, List.not_mem_nil, or_false, Prod.mk.injEq] at h2
    obtain ⟨rfl, rfl⟩ := h2
    have hi : i_BadShape ∈ is := by unfold is; simp
    obtain ⟨F, a1, a2, a3, a4, a5⟩ := ini_ok (P := P) (N := ["self", "word", "place", "__class__"]) (ps := ["self", "word", "place"]) (c.ini hi) ((look c).2.2.2.2.2 _ hi) (NdefX.nscope_by (by kernel_rfl)) (by kernel_rfl) (by kernel_rfl) ⟨_, rfl, rfl⟩ fun _ _ _ _ _ _ _ us hl => match us, hl with | [_, _, _], _ => rfl
    exact ⟨_, excOk_of (c := (PySem.Str.ofString "BadShape")) (w1 := "word") (w2 := "place") (rN := ["__class__"]) F (by rfl) (by decide +kernel) (by decide +kernel) (by decide +kernel) (by decide +kernel) a3 a4 (by decide +kernel) (by rfl) a1 a2 (PySem.W.mg_of KX GX a5)⟩
end
end K39
end
section
set_option linter.all false
set_option maxRecDepth 100000
set_option Elab.async false
/-! DS: the small language run by rewriting: every continuation has a name, so that a simplifier never looks into one. -/
namespace DI
open PySem
section
variable {α β γ : Type}
theorem z_zb1 {a : α} {ρ : Ro} {f : α → Ro → Out β} : (Out.ok a ρ).bind f = f a ρ := rfl
theorem z_zb2 {k : Str} {fs : List D} {ρ : Ro} {f : α → Ro → Out β} : (Out.ex k fs ρ : Out α).bind f = .ex k fs ρ := rfl
theorem z_zb3 {f : α → Ro → Out β} : (Out.no : Out α).bind f = .no := rfl
theorem z_zf1 {a : α} {ρ : Ro} {f : α → Ro → Fl} : (Out.ok a ρ).fl f = f a ρ := rfl
theorem z_zf2 {k : Str} {fs : List D} {ρ : Ro} {f : α → Ro → Fl} : (Out.ex k fs ρ : Out α).fl f = .ex k fs ρ := rfl
theorem z_zq1 {ρ : Ro} {f : Ro → Fl} : (Fl.nx ρ).seq f = f ρ := rfl
theorem z_zq2 {r : Ag} {ρ : Ro} {f : Ro → Fl} : (Fl.rt r ρ).seq f = .rt r ρ := rfl
theorem z_zq3 {k : Str} {fs : List D} {ρ : Ro} {f : Ro → Fl} : (Fl.ex k fs ρ).seq f = .ex k fs ρ := rfl
theorem z_zo1 {a : α} {ρ : Ro} : ofO (some a) ρ = .ok a ρ := rfl
theorem z_zd1 {d : D} {ρ : Ro} : asD (.ok (.dat d) ρ) = .ok d ρ := rfl
theorem z_zd2 {d : List D} {ρ : Ro} : asD (.ok (.new d) ρ) = .ok (.lst d) ρ := rfl
theorem z_zd3 {k : Str} {fs : List D} {ρ : Ro} : asD (.ex k fs ρ) = .ex k fs ρ := rfl
theorem z_zi1 {d : Int} {ρ : Ro} : asI (.ok (.dat (.int d)) ρ) = .ok d ρ := rfl
theorem z_zt1 {d : Bool} {ρ : Ro} : asT (.ok (.dat (.bl d)) ρ) = .ok d ρ := rfl
theorem z_zt3 {k : Str} {fs : List D} {ρ : Ro} : asT (.ex k fs ρ) = .ex k fs ρ := rfl
theorem z_zl1 {d : D} {ρ : Ro} : look ρ (.dat d) = some d := rfl
theorem z_zl2 {d : List D} {ρ : Ro} : look ρ (.new d) = some (.lst d) := rfl
def slV : Option Sl → Option D | some (.own l) => some (.lst l) | some (.lent l) => some (.lst l) | _ => none
theorem z_zl3 {i : Nat} {ρ : Ro} : look ρ (.var i) = slV ρ[i]? := by
  show (cellAt ρ i).map D.lst = _
  unfold cellAt slV
  cases ρ[i]? with
  | none => rfl
  | some s => cases s <;> rfl
theorem z_zl4 {l : List D} : slV (some (.own l)) = some (.lst l) := rfl
theorem z_zl5 {l : List D} : slV (some (.lent l)) = some (.lst l) := rfl
theorem z_zg1 {α : Type} {a : α} {l : List α} : (a :: l)[0]? = some a := rfl
theorem z_zg2 {α : Type} {a : α} {l : List α} {n : Nat} : (a :: l)[n + 1]? = l[n]? := rfl
theorem z_zs1 {α : Type} {a b : α} {l : List α} : (a :: l).set 0 b = b :: l := rfl
theorem z_zs2 {α : Type} {a b : α} {l : List α} {n : Nat} : (a :: l).set (n + 1) b = a :: l.set n b := rfl
def cellS : Option Sl → Option (List D) | some (.own l) => some l | some (.lent l) => some l | _ => none
theorem z_zc0 {ρ : Ro} {i : Nat} : cellAt ρ i = cellS ρ[i]? := rfl
theorem z_zc1 {l : List D} : cellS (some (.own l)) = some l := rfl
theorem z_zc2 {l : List D} : cellS (some (.lent l)) = some l := rfl
theorem z_zc3 : cellS (some .no) = none := rfl
theorem z_zc4 {d : D} : cellS (some (.dat d)) = none := rfl
def setCS (ρ : Ro) (i : Nat) (l : List D) : Option Sl → Ro | some (.own _) => ρ.set i (.own l) | some (.lent _) => ρ.set i (.lent l) | _ => ρ
theorem z_zc5 {ρ : Ro} {i : Nat} {l : List D} : setCell ρ i l = setCS ρ i l ρ[i]? := rfl
theorem z_zc6 {ρ : Ro} {i : Nat} {l m : List D} : setCS ρ i l (some (.own m)) = ρ.set i (.own l) := rfl
theorem z_zc7 {ρ : Ro} {i : Nat} {l m : List D} : setCS ρ i l (some (.lent m)) = ρ.set i (.lent l) := rfl
def setDS (ρ : Ro) (i : Nat) (d : D) : Option Sl → Option Ro | some (.lent _) => none | none => none | _ => some (ρ.set i (.dat d))
theorem z_zc8 {ρ : Ro} {i : Nat} {d : D} : setD ρ i d = setDS ρ i d ρ[i]? := rfl
theorem z_zc9 {ρ : Ro} {i : Nat} {d : D} : setDS ρ i d (some .no) = some (ρ.set i (.dat d)) := rfl
theorem z_zc10 {ρ : Ro} {i : Nat} {d e : D} : setDS ρ i d (some (.dat e)) = some (ρ.set i (.dat d)) := rfl
theorem z_zc11 {ρ : Ro} {i : Nat} {d : D} {l : List D} : setDS ρ i d (some (.own l)) = some (ρ.set i (.dat d)) := rfl
theorem z_zn1 {ρ : Ro} : nxO (some ρ) = .nx ρ := rfl
theorem z_zw1 {ρ : Ro} : wipeR ρ [] = ρ := rfl
theorem z_zw2 {ρ : Ro} {i : Nat} {r : List Nat} : wipeR ρ (i :: r) = (wipeR ρ r).set i .no := rfl
theorem z_zw3 {ρ ρ' : Ro} : unwipe ρ ρ' [] = ρ' := rfl
def unwS (ρ : Ro) (i : Nat) : Option Sl → Ro | some s => ρ.set i s | none => ρ
theorem z_zw4 {ρ ρ' : Ro} {i : Nat} {r : List Nat} : unwipe ρ ρ' (i :: r) = unwS (unwipe ρ ρ' r) i ρ[i]? := by
  rw [unwipe]
  cases ρ[i]? <;> rfl
theorem z_zw5 {ρ : Ro} {i : Nat} {s : Sl} : unwS ρ i (some s) = ρ.set i s := rfl
theorem z_za1 {i : Nat} {d : D} {ρ : Ro} : asg (.nm i) d ρ = setD ρ i d := rfl
def setD2 (j : Nat) (b : D) (ρ : Ro) : Option Ro := setD ρ j b
theorem z_za2 {i j : Nat} {a b : D} {ρ : Ro} : asg (.two i j) (.tup [a, b]) ρ = (setD ρ i a).bind (setD2 j b) := rfl
theorem z_za3 {i : Nat} {d : D} {ρ : Ro} : setD2 i d ρ = setD ρ i d := rfl
end
/-! ### values -/
theorem z_v1 {i j : Int} : binR .add (.int i) (.int j) = some (.dat (.int (i + j))) := rfl
theorem z_v2 {i j : Int} : binR .sub (.int i) (.int j) = some (.dat (.int (i - j))) := rfl
theorem z_v3 {i j : Int} (h : i.natAbs < 2 ^ 63 ∨ j.natAbs < 2 ^ 63) : binR .mul (.int i) (.int j) = some (.dat (.int (i * j))) := by exact if_pos h
theorem z_v4 {i j : Int} (h : 0 < j ∧ j < 1073741824) : binR .fdiv (.int i) (.int j) = some (.dat (.int (i / j))) := by exact if_pos h
theorem z_v5 {i j : Int} (h : 0 < j) : binR .mod (.int i) (.int j) = some (.dat (.int (i % j))) := by exact if_pos h
theorem z_v6 {x y : Str} (h : x.length + y.length ≤ LIM) : binR .add (.str x) (.str y) = some (.dat (.str (x ++ y))) := by exact if_pos h
theorem z_v7 {x y : List D} (h : x.length + y.length ≤ LIM) : binR .add (.tup x) (.tup y) = some (.dat (.tup (x ++ y))) := by exact if_pos h
theorem z_v8 {x y : List D} (h : x.length + y.length ≤ LIM) : binR .add (.lst x) (.lst y) = some (.new (x ++ y)) := by exact if_pos h
def rb (b : Bool) : Res := .dat (.bl b)
def opB (f : D → D → Option Bool) (x y : D) : Option Res := (f x y).map rb
theorem z_v9 {f : D → D → Option Bool} {x y : D} : opB f x y = (f x y).map rb := rfl
theorem z_v10 {b : Bool} : rb b = .dat (.bl b) := rfl
theorem z_v11 {i j : Int} : cmpD .lt (.int i) (.int j) = some (decide (i < j)) := rfl
theorem z_v12 {i j : Int} : cmpD .le (.int i) (.int j) = some (decide (i ≤ j)) := rfl
theorem z_v13 {i j : Int} : cmpD .gt (.int i) (.int j) = some (decide (j < i)) := rfl
theorem z_v14 {i j : Int} : cmpD .ge (.int i) (.int j) = some (decide (j ≤ i)) := rfl
theorem z_v15 {x y : D} : cmpD .eq x y = eqD x y := by unfold cmpD; rfl
theorem z_v16 {x y : D} : cmpD .ne x y = (eqD x y).map (!·) := by unfold cmpD; rfl
theorem z_v17 {i j : Int} : eqD (.int i) (.int j) = some (decide (i = j)) := by
  have h1 : ∀ k : Int, SeqAt.shaped (toPy (.int k)) = true := fun _ => rfl
  unfold eqD
  rw [h1, h1, if_pos (by rfl)]
  congr 1
def ninD (x y : D) : Option Bool := (isinD x y).map (!·)
theorem z_v18 {x y : D} : ninD x y = (isinD x y).map (!·) := rfl
def opIdx (x y : D) : Option Res := (idxD x y).map .dat
theorem z_v19 {x y : D} : opIdx x y = (idxD x y).map .dat := rfl
theorem z_v20 {xs : List D} {i : Int} : idxD (.tup xs) (.int i) = L2.atI xs i := rfl
theorem z_v21 {xs : List D} {i : Int} : idxD (.lst xs) (.int i) = L2.atI xs i := rfl
def negD : D → Option Res | .int i => some (.dat (.int (-i))) | _ => none
theorem z_v22 {i : Int} : negD (.int i) = some (.dat (.int (-i))) := rfl
def isND : D → Option Res | .non => some (rb true) | _ => some (rb false)
def nnD : D → Option Res | .non => some (rb false) | _ => some (rb true)
theorem z_v23 {d : D} : isND d = some (rb (isNonD d)) := by cases d <;> rfl
theorem z_v24 {d : D} : nnD d = some (rb (!isNonD d)) := by cases d <;> rfl
theorem z_v25 : isNonD .non = true := rfl
theorem z_v26 {i : Int} : isNonD (.int i) = false := rfl
theorem z_v27 {i : List D} : isNonD (.tup i) = false := rfl
theorem z_v28 {i : List D} : isNonD (.lst i) = false := rfl
theorem z_v29 {i : Bool} : isNonD (.bl i) = false := rfl
theorem z_v30 {i : Str} : isNonD (.str i) = false := rfl
def isiD (t : Ty) (d : D) : Option Res := some (rb (tyIs t d))
theorem z_v31 {t : Ty} {d : D} : isiD t d = some (rb (tyIs t d)) := rfl
def slFO (i : Int) (d : D) : Option Res := slD d (some i) none
def slTO (i : Int) (d : D) : Option Res := slD d none (some i)
def slBO (i j : Int) (d : D) : Option Res := slD d (some i) (some j)
theorem z_v32 {i : Int} {d : D} : slFO i d = slD d (some i) none := rfl
theorem z_v33 {i : Int} {d : D} : slTO i d = slD d none (some i) := rfl
theorem z_v34 {i j : Int} {d : D} : slBO i j d = slD d (some i) (some j) := rfl
theorem z_v35 {xs : List D} {lo hi : Option Int} : slD (.tup xs) lo hi = some (.dat (.tup (cutD xs lo hi))) := rfl
theorem z_v36 {xs : List D} {lo hi : Option Int} : slD (.lst xs) lo hi = some (.new (cutD xs lo hi)) := rfl
theorem z_v37 {xs : List D} : bltR .len (.tup xs) = some (.dat (.int xs.length)) := rfl
theorem z_v38 {xs : List D} : bltR .len (.lst xs) = some (.dat (.int xs.length)) := rfl
theorem z_v39 {i : Int} : bltR .int (.int i) = some (.dat (.int i)) := rfl
theorem z_v40 {i : Int} : bltR .abs (.int i) = some (.dat (.int (if i < 0 then -i else i))) := rfl
theorem z_v41 {xs : List D} : bltR .list (.lst xs) = some (.new xs) := rfl
theorem z_v42 {xs : List D} : bltR .list (.tup xs) = some (.new xs) := rfl
theorem z_v43 {xs : List D} : bltR .tuple (.lst xs) = some (.dat (.tup xs)) := rfl
theorem z_v44 {xs : List D} : bltR .tuple (.tup xs) = some (.dat (.tup xs)) := rfl
theorem z_v45 {xs : List D} {l : List Bool} (h : boolsD xs = some l) : bltR .all (.lst xs) = some (.dat (.bl (l.all id))) := by show (boolsD xs).map _ = _; rw [h]; rfl
theorem z_v46 {xs : List D} {l : List Bool} (h : boolsD xs = some l) : bltR .any (.lst xs) = some (.dat (.bl (l.any id))) := by show (boolsD xs).map _ = _; rw [h]; rfl
theorem z_v47 {α β : Type} {f : α → β} {a : α} : (some a).map f = some (f a) := rfl
theorem z_v48 {α β : Type} {f : α → Option β} {a : α} : (some a).bind f = f a := rfl
/-! ### expressions -/
section
variable (G : Gm) (c : CF)
def kk3 (op : D → D → Option Res) (ρ : Ro) : Option D → Option D → Out Res | some x, some y => ofO (op x y) ρ | _, _ => .no
def kk2 (op : D → D → Option Res) (x y : Res) (ρ : Ro) : Out Res := kk3 op ρ (look ρ x) (look ρ y)
def kk1 (b : ME) (op : D → D → Option Res) (x : Res) (ρ : Ro) : Out Res := (ev G c b ρ).bind (kk2 op x)
def uu2 (op : D → Option Res) (ρ : Ro) : Option D → Out Res | some x => ofO (op x) ρ | none => .no
def uu1 (op : D → Option Res) (x : Res) (ρ : Ro) : Out Res := uu2 op ρ (look ρ x)
def kTup (ds : List D) (ρ : Ro) : Out Res := .ok (.dat (.tup ds)) ρ
def kLis (ds : List D) (ρ : Ro) : Out Res := .ok (.new ds) ρ
def kNot (b : Bool) (ρ : Ro) : Out Res := .ok (.dat (.bl (!b))) ρ
def kBl (b : Bool) (ρ : Ro) : Out Res := .ok (.dat (.bl b)) ρ
def kAnd (b : ME) (t : Bool) (ρ : Ro) : Out Res := if t = true then (asT (ev G c b ρ)).bind kBl else .ok (.dat (.bl false)) ρ
def kOr (b : ME) (t : Bool) (ρ : Ro) : Out Res := if t = true then .ok (.dat (.bl true)) ρ else (asT (ev G c b ρ)).bind kBl
def kIfe (a b : ME) (t : Bool) (ρ : Ro) : Out Res := if t = true then ev G c a ρ else ev G c b ρ
def kc6 (z_o2 : Cp) (y z : Res) (ρ : Ro) : Out Res := kk3 (opB (cmpD z_o2)) ρ (look ρ y) (look ρ z)
def kc4 (z_o2 : Cp) (e : ME) (y : Res) (t : Bool) (ρ : Ro) : Out Res := if t = true then (ev G c e ρ).bind (kc6 z_o2 y) else .ok (.dat (.bl false)) ρ
def kc3 (z_o1 z_o2 : Cp) (e : ME) (y : Res) (ρ : Ro) : Option D → Option D → Out Res | some x, some y' => (ofO (cmpD z_o1 x y') ρ).bind (kc4 G c z_o2 e y) | _, _ => .no
def kc2 (z_o1 z_o2 : Cp) (e : ME) (x y : Res) (ρ : Ro) : Out Res := kc3 G c z_o1 z_o2 e y ρ (look ρ x) (look ρ y)
def kc1 (z_o1 z_o2 : Cp) (b e : ME) (x : Res) (ρ : Ro) : Out Res := (ev G c b ρ).bind (kc2 G c z_o1 z_o2 e x)
def kS2 (op : Int → D → Option Res) (x : Res) (i : Int) (ρ : Ro) : Out Res := uu2 (op i) ρ (look ρ x)
def kS1 (lo : ME) (op : Int → D → Option Res) (x : Res) (ρ : Ro) : Out Res := (asI (ev G c lo ρ)).bind (kS2 op x)
def kB3 (x : Res) (i j : Int) (ρ : Ro) : Out Res := uu2 (slBO i j) ρ (look ρ x)
def kB2 (hi : ME) (x : Res) (i : Int) (ρ : Ro) : Out Res := (asI (ev G c hi ρ)).bind (kB3 x i)
def kB1 (lo hi : ME) (x : Res) (ρ : Ro) : Out Res := (asI (ev G c lo ρ)).bind (kB2 G c hi x)
def kC0 (f : Str) (es : MEs) (ρ : Ro) : Option Fi → Out Res | some _ => (evAs G c es ρ).bind (doCall c f) | none => .no
def varS (i : Nat) (ρ : Ro) : Option Sl → Out Res | some (.dat d) => .ok (.dat d) ρ | some (.own _) => .ok (.var i) ρ | some (.lent _) => .ok (.var i) ρ | _ => .no
def eD (e : ME) (ρ : Ro) : Out D := asD (ev G c e ρ)
def kLc2 (ρ : Ro) (own : List Nat) (l : List D) (ρ' : Ro) : Out Res := .ok (.new l) (unwipe ρ ρ' own)
def kLc (elt : ME) (t : Tg) (q : MC) (own : List Nat) (ds : List D) (ρ : Ro) : Out Res :=
  if (own.all fun i => (cellAt ρ i).isNone) = true then (noEx (lcL (evC G c q) (eD G c elt) t own ds (wipeR ρ own) [])).bind (kLc2 ρ own) else .no
def kd2 (f : Str) (x : D) (ρ : Ro) : Out Res := doCall c f [.dat x] ρ
def kd15 (f : Str) (a : ME) (ρ : Ro) : Option Fi → Out Res | some _ => (asD (ev G c a ρ)).bind (kd2 c f) | none => .no
def kd1 (a : ME) (ρ : Ro) : Option (Option Str) → Out Res | some (some f) => kd15 G c f a ρ (G.fn f) | _ => .no
def kd0 (tb : List (D × Str)) (a : ME) (k : D) (ρ : Ro) : Out Res := kd1 G c a ρ (dGet tb k)
def kdc (k a : ME) (ρ : Ro) : Option (List (D × Str)) → Out Res | some tb => (asD (ev G c k ρ)).bind (kd0 G c tb a) | none => .no
def di1 (b : Bool) (o : Option Str) : Res := .dat (.bl (b != o.isSome))
def di0 (b : Bool) (tb : List (D × Str)) (k : D) (ρ : Ro) : Out Res := ofO ((dGet tb k).map (di1 b)) ρ
def kCn2 (k : Int) (ρ : Ro) : Option (List D) → Out Res | some xs => ofO (cntR xs k) ρ | none => .no
def kCn1 (i : Nat) (k : Int) (ρ : Ro) : Out Res := match lstS ρ[i]? with | some xs => ofO (cntR xs k) ρ | none => .no
def kCn0 (i : Nat) (b : ME) (ρ : Ro) : Option (List D) → Out Res | none => .no | some _ => (asI (ev G c b ρ)).bind (kCn1 i)
def kdi (b : Bool) (k : ME) (ρ : Ro) : Option (List (D × Str)) → Out Res | some tb => (asD (ev G c k ρ)).bind (di0 b tb) | none => .no
def kx7 (z_o3 : Cp) (z w : Res) (ρ : Ro) : Out Res := kk3 (opB (cmpD z_o3)) ρ (look ρ z) (look ρ w)
def kx6 (z_o3 : Cp) (d : ME) (z : Res) (t : Bool) (ρ : Ro) : Out Res := if t = true then (ev G c d ρ).bind (kx7 z_o3 z) else .ok (.dat (.bl false)) ρ
def kx5 (z_o2 z_o3 : Cp) (d : ME) (z : Res) (ρ : Ro) : Option D → Option D → Out Res | some y, some z' => (ofO (cmpD z_o2 y z') ρ).bind (kx6 G c z_o3 d z) | _, _ => .no
def kx4 (z_o2 z_o3 : Cp) (d : ME) (y z : Res) (ρ : Ro) : Out Res := kx5 G c z_o2 z_o3 d z ρ (look ρ y) (look ρ z)
def kx3 (z_o2 z_o3 : Cp) (e d : ME) (y : Res) (t : Bool) (ρ : Ro) : Out Res := if t = true then (ev G c e ρ).bind (kx4 G c z_o2 z_o3 d y) else .ok (.dat (.bl false)) ρ
def kx2 (z_o1 z_o2 z_o3 : Cp) (e d : ME) (y : Res) (ρ : Ro) : Option D → Option D → Out Res | some x, some y' => (ofO (cmpD z_o1 x y') ρ).bind (kx3 G c z_o2 z_o3 e d y) | _, _ => .no
def kx1 (z_o1 z_o2 z_o3 : Cp) (e d : ME) (x y : Res) (ρ : Ro) : Out Res := kx2 G c z_o1 z_o2 z_o3 e d y ρ (look ρ x) (look ρ y)
def kx0 (z_o1 z_o2 z_o3 : Cp) (b e d : ME) (x : Res) (ρ : Ro) : Out Res := (ev G c b ρ).bind (kx1 G c z_o1 z_o2 z_o3 e d x)
def kIo2 (k : Int) (ρ : Ro) : Option (List D) → Out Res | some xs => ofO (idxOfR xs k) ρ | none => .no
def kIo1 (i : Nat) (k : Int) (ρ : Ro) : Out Res := match lstS ρ[i]? with | some xs => ofO (idxOfR xs k) ρ | none => .no
def kIo0 (i : Nat) (b : ME) (ρ : Ro) : Option (List D) → Out Res | none => .no | some _ => (asI (ev G c b ρ)).bind (kIo1 i)
def kLd (elt : ME) (t : Tg) (t2 : Tg) (it2 : MI) (own own2 : List Nat) (ds : List D) (ρ : Ro) : Out Res :=
  if (own.all fun i => (cellAt ρ i).isNone) = true then (noEx (lcL2 (evI G c it2) (eD G c elt) t t2 own own2 ds (wipeR ρ own) [])).bind (kLc2 ρ own) else .no
variable {G c} {ρ : Ro}
theorem z_x0 {z_o1 z_o2 z_o3 : Cp} {a b e d : ME} : ev G c (.ch4 z_o1 z_o2 z_o3 a b e d) ρ = (ev G c a ρ).bind (kx0 G c z_o1 z_o2 z_o3 b e d) := by rw [ev]; rfl
theorem z_x1 {z_o1 z_o2 z_o3 : Cp} {b e d : ME} {x : Res} : kx0 G c z_o1 z_o2 z_o3 b e d x ρ = (ev G c b ρ).bind (kx1 G c z_o1 z_o2 z_o3 e d x) := rfl
theorem z_x2 {z_o1 z_o2 z_o3 : Cp} {e d : ME} {x y : Res} : kx1 G c z_o1 z_o2 z_o3 e d x y ρ = kx2 G c z_o1 z_o2 z_o3 e d y ρ (look ρ x) (look ρ y) := rfl
theorem z_x3 {z_o1 z_o2 z_o3 : Cp} {e d : ME} {y : Res} {x y' : D} : kx2 G c z_o1 z_o2 z_o3 e d y ρ (some x) (some y') = (ofO (cmpD z_o1 x y') ρ).bind (kx3 G c z_o2 z_o3 e d y) := rfl
theorem z_x4 {z_o2 z_o3 : Cp} {e d : ME} {y : Res} : kx3 G c z_o2 z_o3 e d y true ρ = (ev G c e ρ).bind (kx4 G c z_o2 z_o3 d y) := rfl
theorem z_x5 {z_o2 z_o3 : Cp} {e d : ME} {y : Res} : kx3 G c z_o2 z_o3 e d y false ρ = .ok (.dat (.bl false)) ρ := rfl
theorem z_x6 {z_o2 z_o3 : Cp} {d : ME} {y z : Res} : kx4 G c z_o2 z_o3 d y z ρ = kx5 G c z_o2 z_o3 d z ρ (look ρ y) (look ρ z) := rfl
theorem z_x7 {z_o2 z_o3 : Cp} {d : ME} {z : Res} {y z' : D} : kx5 G c z_o2 z_o3 d z ρ (some y) (some z') = (ofO (cmpD z_o2 y z') ρ).bind (kx6 G c z_o3 d z) := rfl
theorem z_x8 {z_o3 : Cp} {d : ME} {z : Res} : kx6 G c z_o3 d z true ρ = (ev G c d ρ).bind (kx7 z_o3 z) := rfl
theorem z_x9 {z_o3 : Cp} {d : ME} {z : Res} : kx6 G c z_o3 d z false ρ = .ok (.dat (.bl false)) ρ := rfl
theorem z_x10 {z_o3 : Cp} {z w : Res} : kx7 z_o3 z w ρ = kk3 (opB (cmpD z_o3)) ρ (look ρ z) (look ρ w) := rfl
theorem z_x11 {a b : ME} : ev G c (.max2 a b) ρ = (ev G c a ρ).bind (kk1 G c b max2R) := by rw [ev]; rfl
theorem z_x12 {a b : ME} : ev G c (.zipT a b) ρ = (ev G c a ρ).bind (kk1 G c b zipR) := by rw [ev]; rfl
theorem z_x13 {a : ME} : ev G c (.lrg a) ρ = (ev G c a ρ).bind (uu1 lrgR) := by rw [ev]; rfl
theorem z_x14 {i j : Int} : max2R (.int i) (.int j) = some (.dat (.int (if j > i then j else i))) := rfl
theorem z_x15 {xs ys : List D} (h : xs.length ≤ 100000) : zipR (.tup xs) (.tup ys) = some (.dat (.tup (zipD xs ys))) := by exact if_pos h
theorem z_x16 {n : Int} (h : 0 ≤ n ∧ n.natAbs ≤ 100000) : lrgR (.int n) = some (.new (rngL 0 n.toNat)) := by exact if_pos h
theorem z_x17 {i : Nat} {b : ME} : ev G c (.ixo i b) ρ = kIo0 G c i b ρ (lstS ρ[i]?) := by
  rw [ev]; unfold kIo0
  cases lstS ρ[i]? <;> rfl
theorem z_x18 {i : Nat} {b : ME} {xs : List D} : kIo0 G c i b ρ (some xs) = (asI (ev G c b ρ)).bind (kIo1 i) := rfl
theorem z_x19 {i : Nat} {k : Int} : kIo1 i k ρ = kIo2 k ρ (lstS ρ[i]?) := by unfold kIo1 kIo2; cases lstS ρ[i]? <;> rfl
theorem z_x20 {k : Int} {xs : List D} : kIo2 k ρ (some xs) = ofO (idxOfR xs k) ρ := rfl
theorem z_x21 {elt : ME} {t t2 : Tg} {it it2 : MI} {own own2 : List Nat} : ev G c (.lc2 elt t it t2 it2 own own2) ρ = (evI G c it ρ).bind (kLd G c elt t t2 it2 own own2) := by rw [ev]; rfl
theorem z_e1 {i : Nat} : ev G c (.var i) ρ = varS i ρ ρ[i]? := by unfold ev varS; split <;> simp_all
theorem z_e1a {i : Nat} {d : D} : varS i ρ (some (.dat d)) = .ok (.dat d) ρ := rfl
theorem z_e1b {i : Nat} {d : List D} : varS i ρ (some (.own d)) = .ok (.var i) ρ := rfl
theorem z_e1c {i : Nat} {d : List D} : varS i ρ (some (.lent d)) = .ok (.var i) ρ := rfl
theorem z_e2 : ev G c .non ρ = .ok (.dat .non) ρ := by unfold ev; rfl
theorem z_e3 {b : Bool} : ev G c (.bl b) ρ = .ok (.dat (.bl b)) ρ := by unfold ev; rfl
theorem z_e4 {b : Int} : ev G c (.int b) ρ = .ok (.dat (.int b)) ρ := by unfold ev; rfl
theorem z_e5 {b : Str} : ev G c (.str b) ρ = .ok (.dat (.str b)) ρ := by unfold ev; rfl
theorem z_e6 {n : Str} : ev G c (.glo n) ρ = ofO ((G.con n).map .dat) ρ := by unfold ev; rfl
theorem z_e7 {es : MEs} : ev G c (.tup es) ρ = (evDs G c es ρ).bind kTup := by unfold ev; rfl
theorem z_e7a {ds : List D} : kTup ds ρ = .ok (.dat (.tup ds)) ρ := rfl
theorem z_e8 {es : MEs} : ev G c (.lis es) ρ = (evDs G c es ρ).bind kLis := by unfold ev; rfl
theorem z_e8a {ds : List D} : kLis ds ρ = .ok (.new ds) ρ := rfl
theorem z_e9 {o : Op} {a b : ME} : ev G c (.bin o a b) ρ = (ev G c a ρ).bind (kk1 G c b (binR o)) := by rw [ev]; rfl
theorem z_e9a {b : ME} {op : D → D → Option Res} {x : Res} : kk1 G c b op x ρ = (ev G c b ρ).bind (kk2 op x) := rfl
theorem z_e9b {op : D → D → Option Res} {x y : Res} : kk2 op x y ρ = kk3 op ρ (look ρ x) (look ρ y) := rfl
theorem z_e9c {op : D → D → Option Res} {x y : D} : kk3 op ρ (some x) (some y) = ofO (op x y) ρ := rfl
theorem z_e10 {a : ME} : ev G c (.neg a) ρ = (ev G c a ρ).bind (uu1 negD) := by
  rw [ev]; congr 1; funext x ρ; unfold uu1 uu2 look negD
  cases x with
  | dat d => cases d <;> rfl
  | new l => rfl
  | var i => show Out.no = _; dsimp only; cases cellAt ρ i <;> rfl
theorem z_e10a {op : D → Option Res} {x : Res} : uu1 op x ρ = uu2 op ρ (look ρ x) := rfl
theorem z_e10b {op : D → Option Res} {x : D} : uu2 op ρ (some x) = ofO (op x) ρ := rfl
theorem z_e11 {a : ME} : ev G c (.nt a) ρ = (asT (ev G c a ρ)).bind kNot := by rw [ev]; rfl
theorem z_e11a {b : Bool} : kNot b ρ = .ok (.dat (.bl (!b))) ρ := rfl
theorem z_e12 {o : Cp} {a b : ME} : ev G c (.cmp o a b) ρ = (ev G c a ρ).bind (kk1 G c b (opB (cmpD o))) := by rw [ev]; rfl
theorem z_e13 {a : ME} : ev G c (.isN a) ρ = (ev G c a ρ).bind (uu1 isND) := by
  rw [ev]; congr 1; funext x ρ; unfold uu1 uu2
  cases look ρ x with
  | none => rfl
  | some d => cases d <;> rfl
theorem z_e14 {a : ME} : ev G c (.notN a) ρ = (ev G c a ρ).bind (uu1 nnD) := by
  rw [ev]; congr 1; funext x ρ; unfold uu1 uu2
  cases look ρ x with
  | none => rfl
  | some d => cases d <;> rfl
theorem z_e15 {a b : ME} : ev G c (.isin a b) ρ = (ev G c a ρ).bind (kk1 G c b (opB isinD)) := by rw [ev]; rfl
theorem z_e16 {a b : ME} : ev G c (.nin a b) ρ = (ev G c a ρ).bind (kk1 G c b (opB ninD)) := by
  rw [ev]; congr 1; funext x ρ; unfold kk1; congr 1; funext y ρ; unfold kk2 kk3
  cases look ρ x with
  | none => rfl
  | some x => cases look ρ y with
    | none => rfl
    | some y =>
      show ofO ((isinD x y).map fun b => .dat (.bl (!b))) ρ = ofO (((isinD x y).map (!·)).map rb) ρ
      cases isinD x y <;> rfl
theorem z_e17 {z_o1 z_o2 : Cp} {a b e : ME} : ev G c (.ch z_o1 z_o2 a b e) ρ = (ev G c a ρ).bind (kc1 G c z_o1 z_o2 b e) := by rw [ev]; rfl
theorem z_e17a {z_o1 z_o2 : Cp} {b e : ME} {x : Res} : kc1 G c z_o1 z_o2 b e x ρ = (ev G c b ρ).bind (kc2 G c z_o1 z_o2 e x) := rfl
theorem z_e17b {z_o1 z_o2 : Cp} {e : ME} {x y : Res} : kc2 G c z_o1 z_o2 e x y ρ = kc3 G c z_o1 z_o2 e y ρ (look ρ x) (look ρ y) := rfl
theorem z_e17c {z_o1 z_o2 : Cp} {e : ME} {y : Res} {x y' : D} : kc3 G c z_o1 z_o2 e y ρ (some x) (some y') = (ofO (cmpD z_o1 x y') ρ).bind (kc4 G c z_o2 e y) := rfl
theorem z_e17d {z_o2 : Cp} {e : ME} {y : Res} : kc4 G c z_o2 e y true ρ = (ev G c e ρ).bind (kc6 z_o2 y) := rfl
theorem z_e17e {z_o2 : Cp} {e : ME} {y : Res} : kc4 G c z_o2 e y false ρ = .ok (.dat (.bl false)) ρ := rfl
theorem z_e17f {z_o2 : Cp} {y z : Res} : kc6 z_o2 y z ρ = kk3 (opB (cmpD z_o2)) ρ (look ρ y) (look ρ z) := rfl
theorem z_e18 {a b : ME} : ev G c (.and a b) ρ = (asT (ev G c a ρ)).bind (kAnd G c b) := by rw [ev]; rfl
theorem z_e18a {b : ME} : kAnd G c b true ρ = (asT (ev G c b ρ)).bind kBl := rfl
theorem z_e18b {b : ME} : kAnd G c b false ρ = .ok (.dat (.bl false)) ρ := rfl
theorem z_e18c {b : Bool} : kBl b ρ = .ok (.dat (.bl b)) ρ := rfl
theorem z_e19 {a b : ME} : ev G c (.or a b) ρ = (asT (ev G c a ρ)).bind (kOr G c b) := by rw [ev]; rfl
theorem z_e19a {b : ME} : kOr G c b false ρ = (asT (ev G c b ρ)).bind kBl := rfl
theorem z_e19b {b : ME} : kOr G c b true ρ = .ok (.dat (.bl true)) ρ := rfl
theorem z_e20 {x a b : ME} : ev G c (.ife x a b) ρ = (asT (ev G c x ρ)).bind (kIfe G c a b) := by rw [ev]; rfl
theorem z_e20a {a b : ME} : kIfe G c a b true ρ = ev G c a ρ := rfl
theorem z_e20b {a b : ME} : kIfe G c a b false ρ = ev G c b ρ := rfl
theorem z_e21 {a b : ME} : ev G c (.idx a b) ρ = (ev G c a ρ).bind (kk1 G c b opIdx) := by rw [ev]; rfl
theorem z_e22 {a l : ME} : ev G c (.slF a l) ρ = (ev G c a ρ).bind (kS1 G c l slFO) := by rw [ev]; rfl
theorem z_e23 {a l : ME} : ev G c (.slT a l) ρ = (ev G c a ρ).bind (kS1 G c l slTO) := by rw [ev]; rfl
theorem z_e22a {l : ME} {op : Int → D → Option Res} {x : Res} : kS1 G c l op x ρ = (asI (ev G c l ρ)).bind (kS2 op x) := rfl
theorem z_e22b {op : Int → D → Option Res} {x : Res} {i : Int} : kS2 op x i ρ = uu2 (op i) ρ (look ρ x) := rfl
theorem z_e24 {a l h : ME} : ev G c (.slB a l h) ρ = (ev G c a ρ).bind (kB1 G c l h) := by rw [ev]; rfl
theorem z_e24a {l h : ME} {x : Res} : kB1 G c l h x ρ = (asI (ev G c l ρ)).bind (kB2 G c h x) := rfl
theorem z_e24b {h : ME} {x : Res} {i : Int} : kB2 G c h x i ρ = (asI (ev G c h ρ)).bind (kB3 x i) := rfl
theorem z_e24c {x : Res} {i j : Int} : kB3 x i j ρ = uu2 (slBO i j) ρ (look ρ x) := rfl
theorem z_e25 {f : Str} {es : MEs} : ev G c (.call f es) ρ = kC0 G c f es ρ (G.fn f) := by
  rw [ev]; unfold kC0
  cases h : G.fn f with
  | none => rfl
  | some F => rfl
theorem z_e25a {f : Str} {es : MEs} {F : Fi} : kC0 G c f es ρ (some F) = (evAs G c es ρ).bind (doCall c f) := rfl
theorem z_e26 {f : Bl} {a : ME} : ev G c (.blt f a) ρ = (ev G c a ρ).bind (uu1 (bltR f)) := by rw [ev]; rfl
theorem z_e42 {i : Nat} {b : ME} : ev G c (.cnt i b) ρ = kCn0 G c i b ρ (lstS ρ[i]?) := by
  rw [ev]; unfold kCn0
  cases lstS ρ[i]? <;> rfl
theorem z_e42a {i : Nat} {b : ME} {xs : List D} : kCn0 G c i b ρ (some xs) = (asI (ev G c b ρ)).bind (kCn1 i) := rfl
theorem z_e42b {i : Nat} {k : Int} : kCn1 i k ρ = kCn2 k ρ (lstS ρ[i]?) := by unfold kCn1 kCn2; cases lstS ρ[i]? <;> rfl
theorem z_e42c {k : Int} {xs : List D} : kCn2 k ρ (some xs) = ofO (cntR xs k) ρ := rfl
theorem z_e42d {xs : List D} : lstS (some (.dat (.lst xs))) = some xs := rfl
theorem z_e42e {xs : List D} : lstS (some (.own xs)) = some xs := rfl
theorem z_e42f {xs : List D} : lstS (some (.lent xs)) = some xs := rfl
theorem z_e41 {a : ME} : ev G c (.sRvt a) ρ = (ev G c a ρ).bind (uu1 revT) := by rw [ev]; rfl
theorem z_e41a {xs : List D} : revT (.tup xs) = some (.dat (.tup xs.reverse)) := rfl
theorem z_e40 {a : ME} : ev G c (.sRev a) ρ = (ev G c a ρ).bind (uu1 revR) := by rw [ev]; rfl
theorem z_e40a {xs : List D} : revR (.lst xs) = some (.dat (.tup xs.reverse)) := rfl
theorem z_e27 {a : ME} {t : Ty} : ev G c (.isi a t) ρ = (ev G c a ρ).bind (uu1 (isiD t)) := by rw [ev]; rfl
theorem z_e28 {elt : ME} {t : Tg} {it : MI} {q : MC} {own : List Nat} : ev G c (.lc elt t it q own) ρ = (evI G c it ρ).bind (kLc G c elt t q own) := by rw [ev]; rfl
theorem z_e29 {d : Str} {k a : ME} : ev G c (.dcall d k a) ρ = kdc G c k a ρ (G.dic d) := by
  rw [ev]; unfold kdc
  cases G.dic d with
  | none => rfl
  | some tb =>
    dsimp only
    congr 1; funext k ρ; unfold kd0 kd1
    cases dGet tb k with
    | none => rfl
    | some o => cases o with
      | none => rfl
      | some f =>
        dsimp only
        unfold kd15
        cases G.fn f with
        | none => rfl
        | some F => rfl
theorem z_e29a {k a : ME} {tb : List (D × Str)} : kdc G c k a ρ (some tb) = (asD (ev G c k ρ)).bind (kd0 G c tb a) := rfl
theorem z_e29b {a : ME} {tb : List (D × Str)} {k : D} : kd0 G c tb a k ρ = kd1 G c a ρ (dGet tb k) := rfl
theorem z_e29c {a : ME} {f : Str} : kd1 G c a ρ (some (some f)) = kd15 G c f a ρ (G.fn f) := rfl
theorem z_e29d {a : ME} {f : Str} {F : Fi} : kd15 G c f a ρ (some F) = (asD (ev G c a ρ)).bind (kd2 c f) := rfl
theorem z_e29e {f : Str} {x : D} : kd2 c f x ρ = doCall c f [.dat x] ρ := rfl
theorem z_e30 {d : Str} {k : ME} : ev G c (.din d k) ρ = kdi G c false k ρ (G.dic d) := by
  rw [ev]; unfold kdi
  cases G.dic d with
  | none => rfl
  | some tb => dsimp only; congr 1; funext k ρ; unfold di0 di1; congr 2; funext o; simp
theorem z_e31 {d : Str} {k : ME} : ev G c (.dnin d k) ρ = kdi G c true k ρ (G.dic d) := by
  rw [ev]; unfold kdi
  cases G.dic d with
  | none => rfl
  | some tb => dsimp only; congr 1; funext k ρ; unfold di0 di1; congr 2; funext o; simp
theorem z_e30a {b : Bool} {k : ME} {tb : List (D × Str)} : kdi G c b k ρ (some tb) = (asD (ev G c k ρ)).bind (di0 b tb) := rfl
theorem z_e30b {b : Bool} {k : D} {tb : List (D × Str)} : di0 b tb k ρ = ofO ((dGet tb k).map (di1 b)) ρ := rfl
theorem z_e30c {b : Bool} {o : Option Str} : di1 b o = .dat (.bl (b != o.isSome)) := rfl
end
section
variable (G : Gm) (c : CF)
def kDs2 (d : D) (ds : List D) (ρ : Ro) : Out (List D) := if ds.length < LIM then .ok (d :: ds) ρ else .no
def kDs1 (r : MEs) (d : D) (ρ : Ro) : Out (List D) := (evDs G c r ρ).bind (kDs2 d)
def kAs2 (x : Res) (as : List Ar) (ρ : Ro) : Out (List Ar) := match x with | .dat d => .ok (.dat d :: as) ρ | .new l => .ok (.dat (.lst l) :: as) ρ | .var i => .ok (.cel i :: as) ρ
def kAs1 (r : MEs) (x : Res) (ρ : Ro) : Out (List Ar) := (evAs G c r ρ).bind (kAs2 x)
def kSq (d : D) (ρ : Ro) : Out (List D) := match d with | .tup xs => .ok xs ρ | .lst xs => .ok xs ρ | _ => .no
def kZ2 (d d' : D) (ρ : Ro) : Out (List D) := match d, d' with | .tup xs, .tup ys => .ok (zipD xs ys) ρ | _, _ => .no
def kZ1 (b : ME) (d : D) (ρ : Ro) : Out (List D) := (asD (ev G c b ρ)).bind (kZ2 d)
def kR1 (d : D) (ρ : Ro) : Out (List D) := match d with | .int n => if n.natAbs < 2 ^ 60 then .ok (rngL 0 n.toNat) ρ else .no | _ => .no
def kR2b (d d' : D) (ρ : Ro) : Out (List D) := match d, d' with | .int m, .int n => if m.natAbs < 2 ^ 60 ∧ n.natAbs < 2 ^ 60 then .ok (rngL m (n - m).toNat) ρ else .no | _, _ => .no
def kR2 (b : ME) (d : D) (ρ : Ro) : Out (List D) := (asD (ev G c b ρ)).bind (kR2b d)
def kRD (d : D) (ρ : Ro) : Out (List D) := match d with | .int n => if n.natAbs < 2 ^ 60 then .ok (dnL n.toNat) ρ else .no | _ => .no
variable {G c} {ρ : Ro}
theorem z_m1 : evDs G c .nil ρ = .ok [] ρ := by rw [evDs]
theorem z_m2 {e : ME} {r : MEs} : evDs G c (.cons e r) ρ = (asD (ev G c e ρ)).bind (kDs1 G c r) := by rw [evDs]; rfl
theorem z_m2a {r : MEs} {d : D} : kDs1 G c r d ρ = (evDs G c r ρ).bind (kDs2 d) := rfl
theorem z_m2b {d : D} {ds : List D} (h : ds.length < LIM) : kDs2 d ds ρ = .ok (d :: ds) ρ := by exact if_pos h
theorem z_m3 : evAs G c .nil ρ = .ok [] ρ := by rw [evAs]
theorem z_m4 {e : ME} {r : MEs} : evAs G c (.cons e r) ρ = (ev G c e ρ).bind (kAs1 G c r) := by rw [evAs]; rfl
theorem z_m4a {r : MEs} {x : Res} : kAs1 G c r x ρ = (evAs G c r ρ).bind (kAs2 x) := rfl
theorem z_m4b {d : D} {as : List Ar} : kAs2 (.dat d) as ρ = .ok (.dat d :: as) ρ := rfl
theorem z_m4c {d : List D} {as : List Ar} : kAs2 (.new d) as ρ = .ok (.dat (.lst d) :: as) ρ := rfl
theorem z_m4d {d : Nat} {as : List Ar} : kAs2 (.var d) as ρ = .ok (.cel d :: as) ρ := rfl
theorem z_m12 {a b : ME} : evI G c (.zip a b) ρ = (asD (ev G c a ρ)).bind (kZ1 G c b) := by rw [evI]; rfl
theorem z_m13 {b : ME} {d : D} : kZ1 G c b d ρ = (asD (ev G c b ρ)).bind (kZ2 d) := rfl
theorem z_m14 {xs ys : List D} : kZ2 (.tup xs) (.tup ys) ρ = .ok (zipD xs ys) ρ := rfl
theorem z_m5 {e : ME} : evI G c (.seq e) ρ = (asD (ev G c e ρ)).bind kSq := by rw [evI]; rfl
theorem z_m5a {xs : List D} : kSq (.tup xs) ρ = .ok xs ρ := rfl
theorem z_m5b {xs : List D} : kSq (.lst xs) ρ = .ok xs ρ := rfl
theorem z_m6 {e : ME} : evI G c (.rng1 e) ρ = (asD (ev G c e ρ)).bind kR1 := by rw [evI]; rfl
theorem z_m6a {n : Int} (h : n.natAbs < 2 ^ 60) : kR1 (.int n) ρ = .ok (rngL 0 n.toNat) ρ := by exact if_pos h
theorem z_m7 {a b : ME} : evI G c (.rng2 a b) ρ = (asD (ev G c a ρ)).bind (kR2 G c b) := by rw [evI]; rfl
theorem z_m7a {b : ME} {d : D} : kR2 G c b d ρ = (asD (ev G c b ρ)).bind (kR2b d) := rfl
theorem z_m7b {m n : Int} (h : m.natAbs < 2 ^ 60 ∧ n.natAbs < 2 ^ 60) : kR2b (.int m) (.int n) ρ = .ok (rngL m (n - m).toNat) ρ := by exact if_pos h
theorem z_m8 {e : ME} : evI G c (.rngD e) ρ = (asD (ev G c e ρ)).bind kRD := by rw [evI]; rfl
theorem z_m8a {n : Int} (h : n.natAbs < 2 ^ 60) : kRD (.int n) ρ = .ok (dnL n.toNat) ρ := by exact if_pos h
theorem z_m9 : evC G c .yes ρ = .ok true ρ := by rw [evC]
theorem z_m10 {q : ME} : evC G c (.one q) ρ = asT (ev G c q ρ) := by rw [evC]
theorem z_m11 {e : ME} : eD G c e ρ = asD (ev G c e ρ) := rfl
/-! ### calls -/
def dc2 (as : List Ar) (ρ : Ro) : OutC → Out Res
  | .ok r q => .ok (agRes r) (back ρ as q)
  | .ex c fs => if Ar.cels as = [] then .ex c fs ρ else .no
  | .no => .no
def dc1 (call : CF) (f : Str) (as : List Ar) (ρ : Ro) : Option (List Ag) → Out Res
  | none => .no
  | some ags => dc2 as ρ (call f ags)
def oneB : List Nat → Bool | [] => true | [_] => true | _ => false
theorem z_nb0 : oneB [] = true := id rfl
theorem z_nb1 {i : Nat} : oneB [i] = true := id rfl
theorem z_nb2 : List.isEmpty ([] : List Nat) = true := id rfl
theorem z_n1 {call : CF} {f : Str} {as : List Ar} (h : oneB (Ar.cels as) = true) : doCall call f as ρ = dc1 call f as ρ (toAg ρ as) := by
  have h : (Ar.cels as).Nodup := by
    revert h
    generalize Ar.cels as = l
    intro h
    match l, h with
    | [], _ => exact List.nodup_nil
    | [i], _ => simp
  unfold doCall dc1
  rw [if_pos h]
  cases toAg ρ as with
  | none => rfl
  | some ags => dsimp only; unfold dc2; rfl
theorem z_n2 {call : CF} {f : Str} {as : List Ar} {ags : List Ag} : dc1 call f as ρ (some ags) = dc2 as ρ (call f ags) := rfl
theorem z_n3 {as : List Ar} {r : Ag} {q : List Ag} : dc2 as ρ (.ok r q) = .ok (agRes r) (back ρ as q) := rfl
theorem z_n4 {as : List Ar} {k : Str} {fs : List D} (h : (Ar.cels as).isEmpty = true) : dc2 as ρ (.ex k fs) = .ex k fs ρ := by exact if_pos (List.isEmpty_iff.mp h)
theorem z_n5 : Ar.cels [] = [] := rfl
theorem z_n6 {d : D} {r : List Ar} : Ar.cels (.dat d :: r) = Ar.cels r := rfl
theorem z_n7 {d : Nat} {r : List Ar} : Ar.cels (.cel d :: r) = d :: Ar.cels r := rfl
theorem z_n8 : toAg ρ [] = some [] := rfl
def agC (d : D) (q : List Ag) : List Ag := .dat d :: q
theorem z_n9 {d : D} {r : List Ar} : toAg ρ (.dat d :: r) = (toAg ρ r).map (agC d) := rfl
theorem z_n9a {d : D} {r : List Ag} : agC d r = .dat d :: r := rfl
def agL : Option (List D) → Option (List Ag) → Option (List Ag) | some l, some q => some (.len l :: q) | _, _ => none
theorem z_n10 {i : Nat} {r : List Ar} : toAg ρ (.cel i :: r) = agL (cellAt ρ i) (toAg ρ r) := by
  rw [toAg]; unfold agL; split <;> simp_all
theorem z_n10a {l : List D} {q : List Ag} : agL (some l) (some q) = some (.len l :: q) := rfl
theorem z_n11 : back ρ [] [] = ρ := rfl
theorem z_n12 {d : D} {r : List Ar} {g : Ag} {q : List Ag} : back ρ (.dat d :: r) (g :: q) = back ρ r q := by rw [back]; intros; contradiction
theorem z_n13 {i : Nat} {r : List Ar} {l : List D} {q : List Ag} : back ρ (.cel i :: r) (.len l :: q) = back (setCell ρ i l) r q := by rw [back]
theorem z_n14 {d : D} : agRes (.dat d) = .dat d := rfl
theorem z_n15 {d : List D} : agRes (.len d) = .new d := rfl
end
/-! ### statements -/
section
variable (G : Gm) (c : CF)
def sSet (i : Nat) (d : D) (ρ : Ro) : Fl := nxO (setD ρ i d)
def sOwn2 (i : Nat) (l : List D) (ρ : Ro) : Option Sl → Fl | some (.lent _) => .no | none => .no | _ => .nx (ρ.set i (.own l))
def sOwn (i : Nat) (x : Res) (ρ : Ro) : Fl := match x with | .new l => sOwn2 i l ρ ρ[i]? | _ => .no
def sMv2 (i j : Nat) (ρ : Ro) : Option Sl → Fl | some (.own l) => nxO (setD (ρ.set j (.dat (.lst l))) i (.lst l)) | _ => .no
def sPar3 (i j : Nat) (x y : D) (ρ : Ro) : Fl := if i = j then .no else nxO ((setD ρ i x).bind (setD2 j y))
def sPar2 (i j : Nat) (b : ME) (x : D) (ρ : Ro) : Fl := (asD (ev G c b ρ)).fl (sPar3 i j x)
def sSto3 (i : Nat) (d k : D) (ρ : Ro) : Fl := match k with | .int k => nxO (stoR ρ i k d) | _ => .no
def sSto2 (k : ME) (i : Nat) (d : D) (ρ : Ro) : Option (List D) → Fl | none => .no | some _ => (asD (ev G c k ρ)).fl (sSto3 i d)
def sSto1 (k : ME) (i : Nat) (d : D) (ρ : Ro) : Fl := sSto2 G c k i d ρ (cellAt ρ i)
def sApp3 (i : Nat) (d : D) (ρ : Ro) : Option (List D) → Fl | some l => if l.length < LIM then .nx (setCell ρ i (l ++ [d])) else .no | none => .no
def sApp2 (i : Nat) (d : D) (ρ : Ro) : Fl := sApp3 i d ρ (cellAt ρ i)
def sApp1 (i : Nat) (e : ME) (ρ : Ro) : Option (List D) → Fl | none => .no | some _ => (asD (ev G c e ρ)).fl (sApp2 i)
def sExt3 (i : Nat) (ys : List D) (ρ : Ro) : Option (List D) → Fl | some l => if l.length + ys.length ≤ LIM then .nx (setCell ρ i (l ++ ys)) else .no | none => .no
def sExt2 (i : Nat) (x : Res) (ρ : Ro) : Fl := match x with | .new ys => sExt3 i ys ρ (cellAt ρ i) | _ => .no
def sExt1 (i : Nat) (e : ME) (ρ : Ro) : Option (List D) → Fl | none => .no | some _ => (ev G c e ρ).fl (sExt2 i)
def sAui2 (i : Nat) (ρ : Ro) : Option Int → Fl | some z => nxO (setD ρ i (.int z)) | none => .no
def sAui1 (i : Nat) (o : Op) (m : Int) (d : D) (ρ : Ro) : Fl := sAui2 i ρ (sauO o m d)
def sAui0 (i : Nat) (o : Op) (e : ME) (ρ : Ro) : Option Int → Fl | none => .no | some m => (asD (ev G c e ρ)).fl (sAui1 i o m)
def sSau4 (i : Nat) (k : Int) (ρ : Ro) : Option Int → Fl | some z => nxO (stoR ρ i k (.int z)) | none => .no
def sSau3 (i : Nat) (o : Op) (k m : Int) (d : D) (ρ : Ro) : Fl := sSau4 i k ρ (sauO o m d)
def sSau2 (i : Nat) (o : Op) (k : Int) (e : ME) (ρ : Ro) : Option D → Fl | some (.int m) => (eD G c e ρ).fl (sSau3 i o k m) | _ => .no
def sSau1 (i : Nat) (o : Op) (e : ME) (kd : D) (ρ : Ro) : Fl := match kd with | .int k => sSau2 G c i o k e ρ ((cellAt ρ i).bind fun l => L2.atI l k) | _ => .no
def sSau0 (i : Nat) (o : Op) (k e : ME) (ρ : Ro) : Option (List D) → Fl | none => .no | some _ => (asD (ev G c k ρ)).fl (sSau1 G c i o e)
def sRet2 (ρ : Ro) : Option Ag → Fl | some r => .rt r ρ | none => .no
def cellI (k : Int) (o : Option (List D)) : Option D := o.bind fun l => L2.atI l k
def kRetZ (x : Res) (ρ : Ro) : Fl := sRet2 ρ (toAg1 x)
def sRetv (i : Nat) (ρ : Ro) : Option Sl → Fl | some (.own l) => .rt (.len l) (ρ.set i .no) | _ => .no
def kIfZ (a b : MSs) (t : Bool) (ρ : Ro) : Fl := if t = true then exs G c a ρ else exs G c b ρ
def kWc (q : ME) (ρ : Ro) : Out Bool := asT (ev G c q ρ)
def kAug1 (i : Nat) (xs : List D) (d : D) (ρ : Ro) : Fl := augR i xs d ρ
def kAug (i : Nat) (e : ME) (ρ : Ro) : Option (List D) → Fl | none => .no | some xs => (asD (ev G c e ρ)).fl (kAug1 i xs)
def kUnp (i j : Nat) (d : D) (ρ : Ro) : Fl := nxO (asg (.two i j) d ρ)
def kForZ (t : Tg) (b : MSs) (ds : List D) (ρ : Ro) : Fl := forL t (exs G c b) ds ρ
def sEx (_ : Res) (ρ : Ro) : Fl := .nx ρ
def sRs (k : Str) (n : Nat) (ds : List D) (ρ : Ro) : Fl := if ds.length = n then .ex k ds ρ else .no
def sRs0 (k : Str) (es : MEs) (ρ : Ro) : Option Nat → Fl | none => .no | some n => (evDs G c es ρ).fl (sRs k n)
def kTryZ (k : Str) : Out D → Fl
  | .ok d ρ => .rt (.dat d) ρ
  | .ex c' fs ρ => if k = c' ∧ fs.length = 2 then .rt (.dat (.tup fs)) ρ else .no
  | .no => .no
variable {G c} {ρ : Ro}
theorem z_s1 : exs G c .nil ρ = .nx ρ := by rw [exs]
theorem z_s2 {s : MS} {r : MSs} : exs G c (.cons s r) ρ = (exe G c s ρ).seq (exs G c r) := by rw [exs]
theorem z_s3 {i : Nat} {e : ME} : exe G c (.set i e) ρ = (asD (ev G c e ρ)).fl (sSet i) := by rw [exe]; rfl
theorem z_s3a {i : Nat} {d : D} : sSet i d ρ = nxO (setD ρ i d) := rfl
theorem z_s4 {i : Nat} {e : ME} : exe G c (.own i e) ρ = (ev G c e ρ).fl (sOwn i) := by rw [exe]; rfl
theorem z_s4a {i : Nat} {l : List D} : sOwn i (.new l) ρ = sOwn2 i l ρ ρ[i]? := rfl
theorem z_s4b {i : Nat} {l : List D} : sOwn2 i l ρ (some .no) = .nx (ρ.set i (.own l)) := rfl
theorem z_s4c {i : Nat} {l : List D} {d : D} : sOwn2 i l ρ (some (.dat d)) = .nx (ρ.set i (.own l)) := rfl
theorem z_s4d {i : Nat} {l m : List D} : sOwn2 i l ρ (some (.own m)) = .nx (ρ.set i (.own l)) := rfl
theorem z_s5 {i j : Nat} (h : i ≠ j) : exe G c (.mv i j) ρ = sMv2 i j ρ ρ[j]? := by
  rw [exe, if_neg h]; unfold sMv2; split <;> simp_all
theorem z_s5a {i j : Nat} {l : List D} : sMv2 i j ρ (some (.own l)) = nxO (setD (ρ.set j (.dat (.lst l))) i (.lst l)) := rfl
theorem z_s6 {i j : Nat} {a b : ME} : exe G c (.par i j a b) ρ = (asD (ev G c a ρ)).fl (sPar2 G c i j b) := by rw [exe]; rfl
theorem z_s6a {i j : Nat} {b : ME} {x : D} : sPar2 G c i j b x ρ = (asD (ev G c b ρ)).fl (sPar3 i j x) := rfl
theorem z_s6b {i j : Nat} {x y : D} (h : i ≠ j) : sPar3 i j x y ρ = nxO ((setD ρ i x).bind (setD2 j y)) := by unfold sPar3; rw [if_neg h]
theorem z_s7 {i : Nat} {k e : ME} : exe G c (.sto i k e) ρ = (asD (ev G c e ρ)).fl (sSto1 G c k i) := by
  rw [exe]; rfl
theorem z_s7a {i : Nat} {k : ME} {d : D} : sSto1 G c k i d ρ = sSto2 G c k i d ρ (cellAt ρ i) := rfl
theorem z_s7b {i : Nat} {k : ME} {d : D} {l : List D} : sSto2 G c k i d ρ (some l) = (asD (ev G c k ρ)).fl (sSto3 i d) := rfl
theorem z_s7c {i : Nat} {d : D} {k : Int} : sSto3 i d (.int k) ρ = nxO (stoR ρ i k d) := rfl
theorem z_s8 {i a b d e : Nat} : exe G c (.swp i a b d e) ρ = nxO (swpR ρ i a b d e) := by rw [exe]
theorem z_s9 {i : Nat} {e : ME} : exe G c (.app i e) ρ = sApp1 G c i e ρ (cellAt ρ i) := by
  rw [exe]; rfl
theorem z_s9a {i : Nat} {e : ME} {l : List D} : sApp1 G c i e ρ (some l) = (asD (ev G c e ρ)).fl (sApp2 i) := rfl
theorem z_s9b {i : Nat} {d : D} : sApp2 i d ρ = sApp3 i d ρ (cellAt ρ i) := rfl
theorem z_s9c {i : Nat} {d : D} {l : List D} (h : l.length < LIM) : sApp3 i d ρ (some l) = .nx (setCell ρ i (l ++ [d])) := by unfold sApp3; simp [h]
theorem z_w1 {i : Nat} {e : ME} : exe G c (.ext i e) ρ = sExt1 G c i e ρ (cellAt ρ i) := by
  rw [exe.eq_def]; unfold sExt1; dsimp only
  cases cellAt ρ i with
  | none => rfl
  | some l =>
    dsimp only
    congr 1; funext x ρ; unfold sExt2 sExt3
    cases x with
    | new ys => dsimp only; cases cellAt ρ i <;> rfl
    | _ => rfl
theorem z_w1a {i : Nat} {e : ME} {l : List D} : sExt1 G c i e ρ (some l) = (ev G c e ρ).fl (sExt2 i) := rfl
theorem z_w1b {i : Nat} {ys : List D} : sExt2 i (.new ys) ρ = sExt3 i ys ρ (cellAt ρ i) := rfl
theorem z_w1c {i : Nat} {ys l : List D} (h : l.length + ys.length ≤ LIM) : sExt3 i ys ρ (some l) = .nx (setCell ρ i (l ++ ys)) := by exact if_pos h
def datIS : Option Sl → Option Int | some (.dat (.int k)) => some k | _ => none
theorem z_w2 {i : Nat} {o : Op} {e : ME} : exe G c (.aui i o e) ρ = sAui0 G c i o e ρ (datIS ρ[i]?) := by
  have ed : datI ρ i = datIS ρ[i]? := by unfold datI datIS; split <;> simp_all
  rw [exe, ed]; unfold sAui0
  cases datIS ρ[i]? with
  | none => rfl
  | some m =>
    dsimp only
    congr 1
theorem z_w2a {i : Nat} {o : Op} {e : ME} {m : Int} : sAui0 G c i o e ρ (some m) = (asD (ev G c e ρ)).fl (sAui1 i o m) := rfl
theorem z_w2b {i : Nat} {o : Op} {m : Int} {d : D} : sAui1 i o m d ρ = sAui2 i ρ (sauO o m d) := rfl
theorem z_w2c {i : Nat} {z : Int} : sAui2 i ρ (some z) = nxO (setD ρ i (.int z)) := rfl
theorem z_w2d {k : Int} : datIS (some (.dat (.int k))) = some k := rfl
theorem z_w2e {m z : Int} : sauO .add m (.int z) = some (m + z) := rfl
theorem z_w2f {m z : Int} : sauO .sub m (.int z) = some (m - z) := rfl
theorem z_w3 {i : Nat} {o : Op} {k e : ME} : exe G c (.sau i o k e) ρ = sSau0 G c i o k e ρ (cellAt ρ i) := by
  rw [exe]; unfold sSau0
  cases cellAt ρ i with
  | none => rfl
  | some l =>
    dsimp only
    congr 1
theorem z_w3a {i : Nat} {o : Op} {k e : ME} {l : List D} : sSau0 G c i o k e ρ (some l) = (asD (ev G c k ρ)).fl (sSau1 G c i o e) := rfl
theorem z_w3b {i : Nat} {o : Op} {k : Int} {e : ME} : sSau1 G c i o e (.int k) ρ = sSau2 G c i o k e ρ (cellI k (cellAt ρ i)) := rfl
theorem z_w3c {i : Nat} {o : Op} {k m : Int} {e : ME} : sSau2 G c i o k e ρ (some (.int m)) = (eD G c e ρ).fl (sSau3 i o k m) := rfl
theorem z_w3d {i : Nat} {o : Op} {k m : Int} {d : D} : sSau3 i o k m d ρ = sSau4 i k ρ (sauO o m d) := rfl
theorem z_w3e {i : Nat} {k z : Int} : sSau4 i k ρ (some z) = nxO (stoR ρ i k (.int z)) := rfl
theorem z_w3f {k : Int} {l : List D} : cellI k (some l) = L2.atI l k := rfl
theorem z_s10 {e : ME} : exe G c (.ret e) ρ = (ev G c e ρ).fl kRetZ := by rw [exe]; rfl
theorem z_s10a {d : D} : kRetZ (.dat d) ρ = .rt (.dat d) ρ := rfl
theorem z_s10b {d : List D} : kRetZ (.new d) ρ = .rt (.len d) ρ := rfl
theorem z_s11 {i : Nat} : exe G c (.retv i) ρ = sRetv i ρ ρ[i]? := by rw [exe]; unfold sRetv; split <;> simp_all
theorem z_s11a {i : Nat} {l : List D} : sRetv i ρ (some (.own l)) = .rt (.len l) (ρ.set i .no) := rfl
theorem z_s12 {x : ME} {a b : MSs} : exe G c (.ifs x a b) ρ = (asT (ev G c x ρ)).fl (kIfZ G c a b) := by rw [exe]; rfl
theorem z_s12a {a b : MSs} : kIfZ G c a b true ρ = exs G c a ρ := rfl
theorem z_s12b {a b : MSs} : kIfZ G c a b false ρ = exs G c b ρ := rfl
theorem z_s13 {t : Tg} {it : MI} {b : MSs} : exe G c (.for_ t it b) ρ = (evI G c it ρ).fl (kForZ G c t b) := by rw [exe]; rfl
theorem z_s13a {t : Tg} {b : MSs} {ds : List D} : kForZ G c t b ds ρ = forL t (exs G c b) ds ρ := rfl
theorem z_s22 {i : Nat} {e : ME} : exe G c (.aug i e) ρ = kAug G c i e ρ (tupS ρ[i]?) := by
  rw [exe]; unfold kAug
  cases tupS ρ[i]? <;> rfl
theorem z_s22a {i : Nat} {e : ME} {xs : List D} : kAug G c i e ρ (some xs) = (asD (ev G c e ρ)).fl (kAug1 i xs) := rfl
theorem z_s22b {i : Nat} {xs ys : List D} (h : xs.length + ys.length ≤ LIM) : kAug1 i xs (.tup ys) ρ = nxO (setD ρ i (.tup (xs ++ ys))) := by exact if_pos h
theorem z_s22c {xs : List D} : tupS (some (.dat (.tup xs))) = some xs := rfl
theorem z_s21 {i j : Nat} {e : ME} : exe G c (.unp i j e) ρ = (asD (ev G c e ρ)).fl (kUnp i j) := by rw [exe]; rfl
theorem z_s21a {i j : Nat} {d : D} : kUnp i j d ρ = nxO (asg (.two i j) d ρ) := rfl
theorem z_s20 {q : ME} {b : MSs} : exe G c (.whl q b) ρ = whL (kWc G c q) (exs G c b) WH ρ := by rw [exe]; rfl
theorem z_s20a {q : ME} : kWc G c q ρ = asT (ev G c q ρ) := rfl
theorem z_s14 {e : ME} : exe G c (.expr e) ρ = (ev G c e ρ).fl sEx := by rw [exe]; rfl
theorem z_s14a {x : Res} : sEx x ρ = .nx ρ := rfl
theorem z_s15 : exe G c .doc ρ = .nx ρ := by rw [exe]
theorem z_s16 {k : Str} {es : MEs} : exe G c (.raise k es) ρ = sRs0 G c k es ρ (G.xc k) := by
  rw [exe]; unfold sRs0
  cases G.xc k <;> rfl
theorem z_s16a {k : Str} {es : MEs} {n : Nat} : sRs0 G c k es ρ (some n) = (evDs G c es ρ).fl (sRs k n) := rfl
theorem z_s16b {k : Str} {n : Nat} {ds : List D} (h : ds.length = n) : sRs k n ds ρ = .ex k ds ρ := by exact if_pos h
theorem z_s17 {e : ME} {k : Str} {i : Nat} (h : i < ρ.length) : exe G c (.tryR e k i) ρ = kTryZ k (asD (ev G c e ρ)) := by
  rw [exe, if_pos h]; unfold kTryZ; split <;> simp_all
theorem z_s17a {k : Str} {d : D} : kTryZ k (.ok d ρ) = .rt (.dat d) ρ := rfl
theorem z_s17b {k : Str} {a b : D} : kTryZ k (.ex k [a, b] ρ) = .rt (.dat (.tup [a, b])) ρ := by unfold kTryZ; simp
/-! ### loops -/
def kf2 (t : Tg) (b : Ro → Fl) (r : List D) : Fl → Fl
  | .nx ρ2 => forL t b r ρ2
  | .ct ρ2 => forL t b r ρ2
  | .bk ρ2 => .nx ρ2
  | y => y
def kf1 (t : Tg) (b : Ro → Fl) (r : List D) : Option Ro → Fl | none => .no | some ρ1 => kf2 t b r (b ρ1)
theorem z_l1 {t : Tg} {b : Ro → Fl} : forL t b [] ρ = .nx ρ := rfl
theorem z_l2 {t : Tg} {b : Ro → Fl} {d : D} {r : List D} : forL t b (d :: r) ρ = kf1 t b r (asg t d ρ) := by
  rw [forL]; unfold kf1
  cases asg t d ρ with
  | none => rfl
  | some ρ1 => dsimp only; unfold kf2; split <;> simp_all
theorem z_l2a {t : Tg} {b : Ro → Fl} {r : List D} : kf1 t b r (some ρ) = kf2 t b r (b ρ) := rfl
theorem z_l2b {t : Tg} {b : Ro → Fl} {r : List D} : kf2 t b r (.nx ρ) = forL t b r ρ := rfl
theorem z_l2c {t : Tg} {b : Ro → Fl} {r : List D} {x : Ag} : kf2 t b r (.rt x ρ) = .rt x ρ := rfl
/-- .. by an invariant -/
theorem forL_inv {t : Tg} {b : Ro → Fl} (I : List D → Ro → Prop) (step : ∀ d r ρ, I (d :: r) ρ → ∃ ρ1 ρ2, asg t d ρ = some ρ1 ∧ b ρ1 = .nx ρ2 ∧ I r ρ2) :
    ∀ ds ρ, I ds ρ → ∃ ρ', forL t b ds ρ = .nx ρ' ∧ I [] ρ'
  | [], ρ, h => ⟨ρ, rfl, h⟩
  | d :: r, ρ, h => by
    obtain ⟨ρ1, ρ2, h1, h2, h3⟩ := step d r ρ h
    obtain ⟨ρ', h4, h5⟩ := forL_inv I step r ρ2 h3
    exact ⟨ρ', by rw [z_l2, h1, z_l2a, h2, z_l2b, h4], h5⟩
/-- a comprehension that leaves the frame as it is -/
theorem lcL_pure {q : Ro → Out Bool} {e : Ro → Out D} {t : Tg} {own : List Nat} (p : D → Bool) (f : D → D) :
    ∀ (ds : List D) (acc : List D), (∀ d ∈ ds, ∃ ρ1, asg t d ρ = some ρ1 ∧ wipeR ρ1 own = ρ ∧ q ρ1 = .ok (p d) ρ1 ∧ (p d = true → e ρ1 = .ok (f d) ρ1)) → acc.length + ds.length ≤ LIM →
      lcL q e t own ds ρ acc = .ok (acc ++ (ds.filter p).map f) ρ
  | [], acc, _, _ => by simp [lcL]
  | d :: r, acc, h, hl => by
    obtain ⟨ρ1, h1, h2, h3, h4⟩ := h d List.mem_cons_self
    rw [List.length_cons] at hl
    rw [lcL, h1]
    dsimp only
    rw [h3, z_zb1]
    cases hp : p d with
    | true =>
      rw [if_pos rfl, h4 hp, z_zb1, if_pos (by omega), h2, lcL_pure p f r _ (fun d hd => h d (List.mem_cons_of_mem _ hd)) (by simp; omega)]
      simp [List.filter_cons, hp]
    | false =>
      rw [if_neg (by decide), h2, lcL_pure p f r _ (fun d hd => h d (List.mem_cons_of_mem _ hd)) (by omega)]
      simp [List.filter_cons, hp]
theorem kLc_pure {elt : ME} {t : Tg} {q : MC} {own : List Nat} {ds : List D} (p : D → Bool) (f : D → D) (ho : (own.all fun i => (cellAt ρ i).isNone) = true)
    (h : ∀ d ∈ ds, ∃ ρ1, asg t d (wipeR ρ own) = some ρ1 ∧ wipeR ρ1 own = wipeR ρ own ∧ evC G c q ρ1 = .ok (p d) ρ1 ∧ (p d = true → eD G c elt ρ1 = .ok (f d) ρ1)) (hl : ds.length ≤ LIM) :
    kLc G c elt t q own ds ρ = .ok (.new ((ds.filter p).map f)) (unwipe ρ (wipeR ρ own) own) := by
  unfold kLc
  rw [if_pos ho, lcL_pure p f ds [] h (by simpa using hl)]
  rfl
/-! ### a def called -/
theorem callF_s {n : Nat} {f : Str} {F : Fi} {as : List Ag} (h : G.fn f = some F) (hl : as.length = F.np) : callF G (n + 1) f as = outC as (exs G (callF G n) F.body (as.map agSl ++ List.replicate F.nl .no)) := by
  rw [callF, h]; dsimp only; rw [if_pos hl]
def oc (r : Ag) : Option (List Ag) → OutC | some q => .ok r q | none => .no
theorem z_o1 {as : List Ag} {r : Ag} : outC as (.rt r ρ) = oc r (agBack as ρ) := by
  show (match agBack as ρ with | some q => OutC.ok r q | none => .no) = _
  unfold oc; cases agBack as ρ <;> rfl
theorem z_o2 {as : List Ag} : outC as (.nx ρ) = oc (.dat .non) (agBack as ρ) := by
  show (match agBack as ρ with | some q => OutC.ok (.dat .non) q | none => .no) = _
  unfold oc; cases agBack as ρ <;> rfl
theorem z_o3 {as : List Ag} {k : Str} {fs : List D} : outC as (.ex k fs ρ) = .ex k fs := rfl
theorem z_o4 {r : Ag} {q : List Ag} : oc r (some q) = .ok r q := rfl
theorem z_o5 : agBack [] ρ = some [] := by rw [agBack]
theorem z_o6 {d : D} {r : List Ag} {s : Sl} {q : Ro} : agBack (.dat d :: r) (s :: q) = (agBack r q).map (agC d) := by rw [agBack]; rfl
def agCl (d : List D) (q : List Ag) : List Ag := .len d :: q
theorem z_o7 {d e : List D} {r : List Ag} {q : Ro} : agBack (.len d :: r) (.lent e :: q) = (agBack r q).map (agCl e) := by rw [agBack]; rfl
theorem z_o7a {d : List D} {r : List Ag} : agCl d r = .len d :: r := rfl
theorem z_o8 {d : D} : agSl (.dat d) = .dat d := rfl
theorem z_o9 {d : List D} : agSl (.len d) = .lent d := rfl
theorem z_o10 {α : Type} {a : α} {n : Nat} : List.replicate (n + 1) a = a :: List.replicate n a := rfl
theorem z_o11 {α : Type} {a : α} : List.replicate 0 a = [] := rfl
end
end DI
namespace DI
theorem lim_pos {n : Nat} : (n < LIM) = (n < 1000000) := id rfl
end DI
namespace DI
open PySem
section
variable {ρ : Ro}
def stoT (ρ : Ro) (i : Nat) (d : D) (l : List D) : Option Nat → Option Ro | some j => some (setCell ρ i (l.set j d)) | none => none
def stoS (ρ : Ro) (i : Nat) (k : Int) (d : D) : Option (List D) → Option Ro | some l => stoT ρ i d l (L2.ixN l.length k) | none => none
theorem z_t1 {i : Nat} {k : Int} {d : D} : stoR ρ i k d = stoS ρ i k d (cellAt ρ i) := by
  unfold stoR stoS
  cases cellAt ρ i with
  | none => rfl
  | some l => show (L2.ixN l.length k).map _ = stoT ρ i d l (L2.ixN l.length k); cases L2.ixN l.length k <;> rfl
theorem z_t2 {i : Nat} {k : Int} {d : D} {l : List D} : stoS ρ i k d (some l) = stoT ρ i d l (L2.ixN l.length k) := rfl
theorem z_t3 {i j : Nat} {d : D} {l : List D} : stoT ρ i d l (some j) = some (setCell ρ i (l.set j d)) := rfl
/-- a comprehension by an invariant -/
theorem lcL_inv {q : Ro → Out Bool} {e : Ro → Out D} {t : Tg} {own : List Nat} (I : Ro → Prop) (P : D → Prop) :
    ∀ (ds : List D) (acc : List D) (ρ : Ro), (∀ d ∈ ds, ∀ ρ, I ρ → ∃ ρ1 b ρ2, asg t d ρ = some ρ1 ∧ q ρ1 = .ok b ρ2 ∧ (b = false → I (wipeR ρ2 own)) ∧ (b = true → ∃ x ρ3, e ρ2 = .ok x ρ3 ∧ P x ∧ I (wipeR ρ3 own))) → I ρ → (∀ x ∈ acc, P x) → acc.length + ds.length ≤ LIM →
      ∃ l ρ', lcL q e t own ds ρ acc = .ok l ρ' ∧ I ρ' ∧ (∀ x ∈ l, P x) ∧ l.length ≤ acc.length + ds.length
  | [], acc, ρ, _, hI, hP, hl => ⟨acc, ρ, by rw [lcL], hI, hP, by simp⟩
  | d :: r, acc, ρ, h, hI, hP, hl => by
    rw [List.length_cons] at hl
    obtain ⟨ρ1, b, ρ2, h1, h2, h3, h4⟩ := h d List.mem_cons_self ρ hI
    rw [lcL, h1]
    dsimp only
    rw [h2, z_zb1]
    cases b with
    | false =>
      rw [if_neg (by decide)]
      obtain ⟨l, ρ', a1, a2, a3, a4⟩ := lcL_inv I P r acc _ (fun d hd => h d (List.mem_cons_of_mem _ hd)) (h3 rfl) hP (by omega)
      exact ⟨l, ρ', a1, a2, a3, by rw [List.length_cons]; omega⟩
    | true =>
      obtain ⟨x, ρ3, z_e1, z_e2, z_e3⟩ := h4 rfl
      rw [if_pos rfl, z_e1, z_zb1, if_pos (by omega)]
      obtain ⟨l, ρ', a1, a2, a3, a4⟩ := lcL_inv I P r (acc ++ [x]) _ (fun d hd => h d (List.mem_cons_of_mem _ hd)) z_e3 (fun y hy => by
        rcases List.mem_append.mp hy with hy | hy
        · exact hP y hy
        · obtain rfl := List.mem_singleton.mp hy; exact z_e2) (by simp; omega)
      exact ⟨l, ρ', a1, a2, a3, by rw [List.length_cons]; simp at a4; omega⟩
end
end DI
namespace DI
open PySem
section
variable {G : Gm} {c : CF}
theorem kLc_st {elt : ME} {t : Tg} {own : List Nat} {ds : List D} {ρ : Ro} (I : Ro → Prop) (P : D → Prop) (ho : (own.all fun i => (cellAt ρ i).isNone) = true) (hI : I (wipeR ρ own))
    (h : ∀ d ∈ ds, ∀ ρ, I ρ → ∃ ρ1 x ρ2, asg t d ρ = some ρ1 ∧ eD G c elt ρ1 = .ok x ρ2 ∧ I (wipeR ρ2 own) ∧ P x) (hl : ds.length ≤ LIM) :
    ∃ l ρ', kLc G c elt t .yes own ds ρ = .ok (.new l) (unwipe ρ ρ' own) ∧ I ρ' ∧ (∀ x ∈ l, P x) ∧ l.length ≤ ds.length := by
  obtain ⟨l, ρ', a1, a2, a3, a4⟩ := lcL_inv (q := evC G c .yes) (e := eD G c elt) (t := t) (own := own) I P ds [] (wipeR ρ own) (fun d hd ρ hρ => by
    obtain ⟨ρ1, x, ρ2, b1, b2, b3, b4⟩ := h d hd ρ hρ
    exact ⟨ρ1, true, ρ1, b1, z_m9, fun z => (nomatch z), fun _ => ⟨x, ρ2, b2, b4, b3⟩⟩) hI (fun x hx => nomatch hx) (by simpa using hl)
  refine ⟨l, ρ', ?_, a2, a3, by simpa using a4⟩
  unfold kLc
  rw [if_pos ho, a1]
  rfl
theorem kLc_yes {elt : ME} {t : Tg} {own : List Nat} {ds : List D} {ρ : Ro} (P : D → Prop) (ho : (own.all fun i => (cellAt ρ i).isNone) = true) (hw : wipeR ρ own = ρ) (hu : unwipe ρ ρ own = ρ)
    (h : ∀ d ∈ ds, ∃ ρ1 x, asg t d ρ = some ρ1 ∧ eD G c elt ρ1 = .ok x ρ1 ∧ wipeR ρ1 own = ρ ∧ P x) (hl : ds.length ≤ LIM) :
    ∃ l, kLc G c elt t .yes own ds ρ = .ok (.new l) ρ ∧ (∀ x ∈ l, P x) ∧ l.length ≤ ds.length := by
  obtain ⟨l, ρ', a1, a2, a3, a4⟩ := kLc_st (G := G) (c := c) (elt := elt) (t := t) (own := own) (ds := ds) (ρ := ρ) (fun r => r = ρ) P ho hw (fun d hd r hr => by
    subst hr
    obtain ⟨ρ1, x, b1, b2, b3, b4⟩ := h d hd
    exact ⟨ρ1, x, ρ1, b1, b2, b3, b4⟩) hl
  subst a2
  exact ⟨l, by rw [a1, hu], a3, a4⟩
end
end DI
end
section
set_option maxRecDepth 100000
set_option maxHeartbeats 4000000
set_option linter.all false
set_option Elab.async false
open PySem DI
local macro_rules
  | `(tactic| simp_arith [$ls,*] $[$loc]?) => `(tactic| simp -implicitDefEqProofs only [$ls,*, z_zb1, z_zb2, z_zb3, z_zf1, z_zf2, z_zq1, z_zq2, z_zq3, z_zo1, z_zd1, z_zd2, z_zd3, z_zi1, z_zt1, z_zt3, z_zl1, z_zl2, z_zl3, z_zl4, z_zl5, z_zg1, z_zg2, z_zs1, z_zs2, z_zc0, z_zc1, z_zc2, z_zc3, z_zc4, z_zc5, z_zc6, z_zc7, z_zc8, z_zc9, z_zc10, z_zc11, z_zn1, z_zw1, z_zw2, z_zw3, z_zw4, z_zw5, z_za1, z_za2, z_za3, z_v1, z_v2, z_v3, z_v4, z_v5, z_v6, z_v7, z_v8, z_v9, z_v10, z_v11, z_v12, z_v13, z_v14, z_v15, z_v16, z_v17, z_v18, z_v19, z_v20, z_v21, z_v22, z_v23, z_v24, z_v25, z_v26, z_v27, z_v28, z_v29, z_v30, z_v31, z_v32, z_v33, z_v34, z_v35, z_v36, z_v37, z_v38, z_v39, z_v40, z_v41, z_v42, z_v43, z_v44, z_v45, z_v46, z_v47, z_v48, z_x0, z_x1, z_x2, z_x3, z_x4, z_x5, z_x6, z_x7, z_x8, z_x9, z_x10, z_x11, z_x12, z_x13, z_x14, z_x15, z_x16, z_x17, z_x18, z_x19, z_x20, z_x21, z_e1, z_e1a, z_e1b, z_e1c, z_e2, z_e3, z_e4, z_e5, z_e6, z_e7, z_e7a, z_e8, z_e8a, z_e9, z_e9a, z_e9b, z_e9c, z_e10, z_e10a, z_e10b, z_e11, z_e11a, z_e12, z_e13, z_e14, z_e15, z_e16, z_e17, z_e17a, z_e17b, z_e17c, z_e17d, z_e17e, z_e17f, z_e18, z_e18a, z_e18b, z_e18c, z_e19, z_e19a, z_e19b, z_e20, z_e20a, z_e20b, z_e21, z_e22, z_e23, z_e22a, z_e22b, z_e24, z_e24a, z_e24b, z_e24c, z_e25, z_e25a, z_e26, z_e42, z_e42a, z_e42b, z_e42c, z_e42d, z_e42e, z_e42f, z_e41, z_e41a, z_e40, z_e40a, z_e27, z_e28, z_e29, z_e29a, z_e29b, z_e29c, z_e29d, z_e29e, z_e30, z_e31, z_e30a, z_e30b, z_e30c, z_m1, z_m2, z_m2a, z_m2b, z_m3, z_m4, z_m4a, z_m4b, z_m4c, z_m4d, z_m12, z_m13, z_m14, z_m5, z_m5a, z_m5b, z_m6, z_m6a, z_m7, z_m7a, z_m7b, z_m8, z_m8a, z_m9, z_m10, z_m11, z_nb0, z_nb1, z_nb2, z_n1, z_n2, z_n3, z_n4, z_n5, z_n6, z_n7, z_n8, z_n9, z_n9a, z_n10, z_n10a, z_n11, z_n12, z_n13, z_n14, z_n15, z_s1, z_s2, z_s3, z_s3a, z_s4, z_s4a, z_s4b, z_s4c, z_s4d, z_s5, z_s5a, z_s6, z_s6a, z_s6b, z_s7, z_s7a, z_s7b, z_s7c, z_s8, z_s9, z_s9a, z_s9b, z_s9c, z_w1, z_w1a, z_w1b, z_w1c, z_w2, z_w2a, z_w2b, z_w2c, z_w2d, z_w2e, z_w2f, z_w3, z_w3a, z_w3b, z_w3c, z_w3d, z_w3e, z_w3f, z_s10, z_s10a, z_s10b, z_s11, z_s11a, z_s12, z_s12a, z_s12b, z_s13, z_s13a, z_s22, z_s22a, z_s22b, z_s22c, z_s21, z_s21a, z_s20, z_s20a, z_s14, z_s14a, z_s15, z_s16, z_s16a, z_s16b, z_s17, z_s17a, z_s17b, z_l1, z_l2, z_l2a, z_l2b, z_l2c, z_o1, z_o2, z_o3, z_o4, z_o5, z_o6, z_o7, z_o7a, z_o8, z_o9, z_o10, z_o11, z_t1, z_t2, z_t3, List.nodup_nil, List.nodup_cons, List.mem_cons, List.not_mem_nil, List.length_cons, List.length_nil, not_false_eq_true, or_false, or_self, and_self, and_true, true_and, reduceCtorEq, Bool.not_true, Bool.not_false, Nat.reduceAdd, ne_eq, List.map_cons, List.map_nil, List.cons_append, List.nil_append, List.append_nil, lim_pos, Int.reduceLT, Int.reduceLE, Int.reduceGT, Int.reduceGE, Int.reduceNeg, Int.reduceAdd, Int.reduceSub, Int.reduceMul, Int.reduceEq, Int.reduceNe, Int.reduceToNat, Int.reduceAbs, Nat.reduceLT, Nat.reduceLeDiff, Nat.reducePow, Nat.reduceMul, Nat.reduceSub, Nat.reduceEqDiff, decide_true, decide_false, Bool.false_eq_true, if_true, if_false, ge_iff_le, gt_iff_lt, true_or, or_true, not_true_eq_false, Bool.true_and, Bool.and_true, Bool.false_and, Bool.and_false, Bool.true_or, Bool.false_or, Bool.or_true, Bool.or_false, beq_self_eq_true, Int.cast_ofNat_Int, Int.natCast_zero, Int.natCast_one] $[$loc]?)
section
set_option maxRecDepth 100000
set_option linter.all false
set_option Elab.async false
set_option maxHeartbeats 4000000
/-! PA1: the pool of a law: draws. -/
namespace DI
open PySem
variable {G : Gm}
/-- what all laws k30..k46 bring along -/
structure HA (G : Gm) : Prop where
  is_integer : G.fn (Str.ofString "_law_is_integer") = some TL.f__law_is_integer
  same : G.fn (Str.ofString "_law_same") = some TL.f__law_same
  pool : G.fn (Str.ofString "_law_pool") = some TL.f__law_pool
  spread : G.fn (Str.ofString "_law_spread") = some TL.f__law_spread
  draw : G.fn (Str.ofString "_law_draw") = some TL.f__law_draw
  pick : G.fn (Str.ofString "_law_pick") = some TL.f__law_pick
  bent : G.fn (Str.ofString "_law_bent") = some TL.f__law_bent
  booled : G.fn (Str.ofString "_law_booled") = some TL.f__law_booled
  listed : G.fn (Str.ofString "_law_listed") = some TL.f__law_listed
  swapped : G.fn (Str.ofString "_law_swapped") = some TL.f__law_swapped
  changed : G.fn (Str.ofString "_law_changed") = some TL.f__law_changed
  all_ : G.fn (Str.ofString "_law_all") = some TL.f__law_all
  brackets : G.fn (Str.ofString "_law_brackets") = some TL.f__law_brackets
  bends : G.fn (Str.ofString "_law_bends") = some TL.f__law_bends
  carried : G.fn (Str.ofString "carried") = some TL.f_carried
  check : G.fn (Str.ofString "check") = some TL.f_check
  fault : G.fn (Str.ofString "fault_registry") = some TL.f_fault_registry
  must : G.fn (Str.ofString "must_be_family") = some TL.f_must_be_family
  bad : G.xc (Str.ofString "BadShape") = some 2
theorem p_is_integer (h : HA G) (n : Nat) (d : D) : callF G (n+1) (Str.ofString "_law_is_integer") [.dat d] = .ok (.dat (.bl (tyIs .int d && !tyIs .bool d))) [.dat d] := by
  rw [callF_s h.is_integer rfl]
  simp_arith [TL.f__law_is_integer, TL.b__law_is_integer]
  cases tyIs .int d <;> simp_arith [Bool.true_and, Bool.false_and]
theorem rng4 : rngL 0 4 = [.int 0, .int 1, .int 2, .int 3] := rfl
theorem rng3 : rngL 0 3 = [.int 0, .int 1, .int 2] := rfl
theorem p_spread (h : HA G) (n : Nat) (c : Int) : ∃ r, callF G (n+1) (Str.ofString "_law_spread") [.dat (.int c)] = .ok (.dat (.int r)) [.dat (.int c)] := by
  rw [callF_s h.spread rfl]
  simp_arith [TL.f__law_spread, TL.b__law_spread, Int.reduceToNat, rng4]
  exact ⟨_, rfl⟩
/-- the pool: the numbers, the next one's place, what is drawn from, how often, the salt -/
def PoolOk (l : List D) : Prop := ∃ (ns : List Int) (i : Nat) (c k s : Int), l = [.lst (ns.map D.int), .int i, .int c, .int k, .int s]
theorem ix5 (a b c d e : D) : L2.atI [a,b,c,d,e] 0 = some a ∧ L2.atI [a,b,c,d,e] 1 = some b ∧ L2.atI [a,b,c,d,e] 2 = some c ∧ L2.atI [a,b,c,d,e] 3 = some d ∧ L2.atI [a,b,c,d,e] 4 = some e := ⟨rfl, rfl, rfl, rfl, rfl⟩
theorem i50 {a b c d e : D} : L2.atI [a,b,c,d,e] 0 = some a := rfl
theorem i51 {a b c d e : D} : L2.atI [a,b,c,d,e] 1 = some b := rfl
theorem i52 {a b c d e : D} : L2.atI [a,b,c,d,e] 2 = some c := rfl
theorem i53 {a b c d e : D} : L2.atI [a,b,c,d,e] 3 = some d := rfl
theorem i54 {a b c d e : D} : L2.atI [a,b,c,d,e] 4 = some e := rfl
theorem j51 : L2.ixN (0+1+1+1+1+1) 1 = some 1 := rfl
theorem j52 : L2.ixN (0+1+1+1+1+1) 2 = some 2 := rfl
theorem j53 : L2.ixN (0+1+1+1+1+1) 3 = some 3 := rfl
theorem k51 : L2.ixN 5 1 = some 1 := rfl
theorem k52 : L2.ixN 5 2 = some 2 := rfl
theorem k53 : L2.ixN 5 3 = some 3 := rfl
/-- behind the first test -/
theorem draw_end (n : Nat) (c0 : CF) (ns : List Int) (i : Nat) (c k s m : Int) (s3 s4 : Sl) (h0 : 0 < m) (h1 : m < 1073741824) (hs3 : s3 = .no ∨ ∃ d, s3 = .dat d) :
    ∃ r l' s0 ρ', PoolOk l' ∧ 0 ≤ r ∧ r < m ∧ exs G c0 (match TL.b__law_draw with | .cons _ r => r | .nil => .nil) [.lent [.lst (ns.map D.int), .int i, .int c, .int k, .int s], .dat (.int m), .no, s3, .no] = .rt (.dat (.int r)) (.lent l' :: s0 :: ρ') := by
  have hm : (0 < m) = True := eq_true h0
  have hm1 : (m < 1073741824) = True := eq_true h1
  by_cases hc : c ≤ 0
  · refine ⟨?r, ?l, ?s0, ?q, ?a, ?b, ?c, ?d⟩
    case d =>
      simp_arith [TL.b__law_draw, i50, i51, i52, i53, i54, j51, j52, j53, k51, k52, k53, hc, decide_true, hm, hm1]
      rfl
    case a => exact ⟨ns, i, c, k + 1, s, rfl⟩
    case b => exact Int.emod_nonneg _ (by omega)
    case c => exact Int.emod_lt_of_pos _ h0
  · refine ⟨?r2, ?l2, ?s02, ?q2, ?a2, ?b2, ?c2, ?d2⟩
    case d2 =>
      simp_arith [TL.b__law_draw, i50, i51, i52, i53, i54, j51, j52, j53, k51, k52, k53, hc, decide_false, hm, hm1]
      rfl
    case a2 => exact ⟨ns, i, c / m, k + 1, s, rfl⟩
    case b2 => exact Int.emod_nonneg _ (by omega)
    case c2 => exact Int.emod_lt_of_pos _ h0
theorem p_draw (h : HA G) {l : List D} (hp : PoolOk l) {m : Int} (h0 : 0 < m) (h1 : m < 1073741824) (n : Nat) :
    ∃ r l', PoolOk l' ∧ 0 ≤ r ∧ r < m ∧ callF G (n+2) (Str.ofString "_law_draw") [.len l, .dat (.int m)] = .ok (.dat (.int r)) [.len l', .dat (.int m)] := by
  obtain ⟨ns, i, c, k, s, rfl⟩ := hp
  have go : ∀ (i' : Nat) (c' : Int) (s3 : Sl), (s3 = .no ∨ ∃ d, s3 = .dat d) →
      exe G (callF G (n+1)) (match TL.b__law_draw with | .cons s _ => s | .nil => .doc) [.lent [.lst (ns.map D.int), .int i, .int c, .int k, .int s], .dat (.int m), .no, .no, .no] = .nx [.lent [.lst (ns.map D.int), .int i', .int c', .int k, .int s], .dat (.int m), .no, s3, .no] →
      ∃ r l', PoolOk l' ∧ 0 ≤ r ∧ r < m ∧ callF G (n+2) (Str.ofString "_law_draw") [.len [.lst (ns.map D.int), .int i, .int c, .int k, .int s], .dat (.int m)] = .ok (.dat (.int r)) [.len l', .dat (.int m)] := by
    intro i' c' s3 hs3 he
    obtain ⟨r, l', s0, ρ', a1, a2, a3, a4⟩ := draw_end (G := G) n (callF G (n+1)) ns i' c' k s m s3 .no h0 h1 hs3
    refine ⟨r, l', a1, a2, a3, ?_⟩
    rw [callF_s h.draw rfl]
    have e : exs G (callF G (n+1)) TL.b__law_draw [.lent [.lst (ns.map D.int), .int i, .int c, .int k, .int s], .dat (.int m), .no, .no, .no] = .rt (.dat (.int r)) (.lent l' :: s0 :: ρ') := by
      rw [show TL.b__law_draw = .cons (match TL.b__law_draw with | .cons s _ => s | .nil => .doc) (match TL.b__law_draw with | .cons _ r => r | .nil => .nil) from rfl, z_s2]
      rw [he, z_zq1, a4]
    show outC _ (exs G (callF G (n+1)) TL.b__law_draw [.lent [.lst (ns.map D.int), .int i, .int c, .int k, .int s], .dat (.int m), .no, .no, .no]) = _
    rw [e]
    simp_arith [if_true]
  by_cases hc : c ≤ 0
  · by_cases hi : i < ns.length
    · have hi' : (i : Int) < (ns.length : Int) := by omega
      have hx : L2.atI (ns.map D.int) (i : Int) = some (.int ns[i]) := L2.atI_nat (by simp [hi])
      by_cases hb : ns[i] < 1000000000000000000
      · obtain ⟨r, hr⟩ := p_spread h n ns[i]
        refine go (i + 1) r (.dat (.int ns[i])) (.inr ⟨_, rfl⟩) ?_
        simp_arith [TL.b__law_draw, i50, i51, i52, i53, i54, j51, j52, j53, k51, k52, k53, hc, hi', List.length_map, hx, hb, h.spread, hr]
        rfl
      · refine go (i + 1) ns[i] (.dat (.int ns[i])) (.inr ⟨_, rfl⟩) ?_
        simp_arith [TL.b__law_draw, i50, i51, i52, i53, i54, j51, j52, j53, k51, k52, k53, hc, hi', List.length_map, hx, hb]
        rfl
    · refine go i c .no (.inl rfl) ?_
      have hi' : ¬ (i : Int) < (ns.length : Int) := by omega
      simp_arith [TL.b__law_draw, i50, i51, i52, i53, i54, j51, j52, j53, k51, k52, k53, hc, hi', List.length_map]
  · refine go i c .no (.inl rfl) ?_
    simp_arith [TL.b__law_draw, i50, i51, i52, i53, i54, j51, j52, j53, k51, k52, k53, hc]
end DI
end
section
set_option maxRecDepth 100000
set_option linter.all false
set_option Elab.async false
set_option maxHeartbeats 4000000
/-! PA2: sizes of data; picks; equal data; lists of words. -/
namespace DI
open PySem
variable {G : Gm}
def agD : Ag → D | .dat d => d | .len l => .lst l
theorem z_g1 {r : Ag} {ρ : Ro} : asD (.ok (agRes r) ρ) = .ok (agD r) ρ := by cases r <;> rfl
theorem z_g2 {r : Ag} {ρ : Ro} : look ρ (agRes r) = some (agD r) := by cases r <;> rfl
theorem z_g3 {r : Ag} : agD r = match r with | .dat d => d | .len l => .lst l := by cases r <;> rfl
def okS (x : Str) : Bool := PyData.strOk x && decide (x.length ≤ 100)
def NR : Nat := 5000
/-- data of at most so deep -/
def okD : Nat → D → Bool
  | 0, d => match d with | .tup _ => false | .lst _ => false | .str x => okS x | _ => true
  | k + 1, d => match d with | .tup xs => decide (xs.length ≤ NR) && xs.all (okD k) | .lst xs => decide (xs.length ≤ NR) && xs.all (okD k) | .str x => okS x | _ => true
/-- rows of rows of ints -/
def shD : Nat → D → Bool
  | 0, d => match d with | .int _ => true | _ => false
  | k + 1, d => match d with | .tup xs => decide (xs.length ≤ 1000) && xs.all (shD k) | .int _ => true | _ => false
theorem okD_int {k : Nat} {i : Int} : okD k (.int i) = true := by cases k <;> rfl
theorem okD_bl {k : Nat} {i : Bool} : okD k (.bl i) = true := by cases k <;> rfl
theorem okD_non {k : Nat} : okD k .non = true := by cases k <;> rfl
theorem okD_str {k : Nat} {x : Str} (h : okS x = true) : okD k (.str x) = true := by cases k <;> exact h
theorem okD_tup {k : Nat} {xs : List D} (h : xs.length ≤ NR) (h2 : ∀ x ∈ xs, okD k x = true) : okD (k + 1) (.tup xs) = true := by
  show (decide (xs.length ≤ NR) && xs.all (okD k)) = true
  rw [Bool.and_eq_true, decide_eq_true_eq, List.all_eq_true]; exact ⟨h, h2⟩
theorem okD_lst {k : Nat} {xs : List D} (h : xs.length ≤ NR) (h2 : ∀ x ∈ xs, okD k x = true) : okD (k + 1) (.lst xs) = true := by
  show (decide (xs.length ≤ NR) && xs.all (okD k)) = true
  rw [Bool.and_eq_true, decide_eq_true_eq, List.all_eq_true]; exact ⟨h, h2⟩
theorem okD_tup' {k : Nat} {xs : List D} (h : okD k (.tup xs) = true) : xs.length ≤ NR ∧ ∃ j, k = j + 1 ∧ ∀ x ∈ xs, okD j x = true := by
  cases k with
  | zero => cases h
  | succ k =>
    have h : (decide (xs.length ≤ NR) && xs.all (okD k)) = true := h
    rw [Bool.and_eq_true, decide_eq_true_eq, List.all_eq_true] at h
    exact ⟨h.1, k, rfl, h.2⟩
theorem okD_lst' {k : Nat} {xs : List D} (h : okD k (.lst xs) = true) : xs.length ≤ NR ∧ ∃ j, k = j + 1 ∧ ∀ x ∈ xs, okD j x = true := by
  cases k with
  | zero => cases h
  | succ k =>
    have h : (decide (xs.length ≤ NR) && xs.all (okD k)) = true := h
    rw [Bool.and_eq_true, decide_eq_true_eq, List.all_eq_true] at h
    exact ⟨h.1, k, rfl, h.2⟩
theorem okD_mono : ∀ {k : Nat} {d : D}, okD k d = true → okD (k + 1) d = true
  | 0, d, h => by cases d <;> first | exact h | rfl | (cases h; done)
  | k + 1, d, h => by
    cases d with
    | tup xs => obtain ⟨h1, j, e, h2⟩ := okD_tup' h; cases e; exact okD_tup h1 fun x hx => okD_mono (h2 x hx)
    | lst xs => obtain ⟨h1, j, e, h2⟩ := okD_lst' h; cases e; exact okD_lst h1 fun x hx => okD_mono (h2 x hx)
    | _ => exact h
theorem okD_le {k j : Nat} {d : D} (hk : k ≤ j) (h : okD k d = true) : okD j d = true := by
  induction hk with
  | refl => exact h
  | step _ ih => exact okD_mono ih
theorem shD_tup' {k : Nat} {xs : List D} (h : shD k (.tup xs) = true) : xs.length ≤ 1000 ∧ ∃ j, k = j + 1 ∧ ∀ x ∈ xs, shD j x = true := by
  cases k with
  | zero => cases h
  | succ k =>
    have h : (decide (xs.length ≤ 1000) && xs.all (shD k)) = true := h
    rw [Bool.and_eq_true, decide_eq_true_eq, List.all_eq_true] at h
    exact ⟨h.1, k, rfl, h.2⟩
theorem shD_tup {k : Nat} {xs : List D} (h : xs.length ≤ 1000) (h2 : ∀ x ∈ xs, shD k x = true) : shD (k + 1) (.tup xs) = true := by
  show (decide (xs.length ≤ 1000) && xs.all (shD k)) = true
  rw [Bool.and_eq_true, decide_eq_true_eq, List.all_eq_true]; exact ⟨h, h2⟩
theorem shD_kind {k : Nat} {d : D} (h : shD k d = true) : (∃ i, d = .int i) ∨ ∃ xs, d = .tup xs := by
  cases k <;> cases d <;> first | exact .inl ⟨_, rfl⟩ | exact .inr ⟨_, rfl⟩ | (cases h; done)
theorem shD_ok : ∀ {k : Nat} {d : D}, shD k d = true → okD k d = true
  | 0, d, h => by cases d <;> first | rfl | (cases h; done)
  | k + 1, d, h => by
    cases d with
    | tup xs => obtain ⟨h1, j, e, h2⟩ := shD_tup' h; cases e; exact okD_tup (by unfold NR; omega) fun x hx => shD_ok (h2 x hx)
    | int i => rfl
    | _ => cases h
/-! ### what the model asks of data -/
theorem toPys_mapP : ∀ xs : List D, toPys xs = xs.map toPy
  | [] => by rw [toPys]; rfl
  | x :: r => by rw [toPys, toPys_mapP r]; rfl
theorem lay_all : ∀ {xs : List D}, (∀ x ∈ xs, (toPy x).canLay0 = true) → PyData.canLayAll0 (toPys xs) = true
  | [], _ => by rw [toPys]; rfl
  | x :: r, h => by
    rw [toPys]
    show ((toPy x).canLay0 && PyData.canLayAll0 (toPys r)) = true
    rw [h x List.mem_cons_self, lay_all fun y hy => h y (List.mem_cons_of_mem _ hy)]; rfl
theorem depth_all {n : Nat} : ∀ {xs : List D}, (∀ x ∈ xs, (toPy x).depth ≤ n) → PyData.depthAll (toPys xs) ≤ n
  | [], _ => by rw [toPys]; exact Nat.zero_le _
  | x :: r, h => by
    rw [toPys]
    show max (toPy x).depth (PyData.depthAll (toPys r)) ≤ n
    exact Nat.max_le.mpr ⟨h x List.mem_cons_self, depth_all fun y hy => h y (List.mem_cons_of_mem _ hy)⟩
theorem okD_lay : ∀ {k : Nat} {d : D}, okD k d = true → (toPy d).canLay0 = true ∧ (toPy d).depth ≤ k
  | 0, d, h => by
    cases d with
    | tup _ => cases h
    | lst _ => cases h
    | str x => rw [toPy]; exact ⟨(Bool.and_eq_true_iff.mp h).1, Nat.le_refl _⟩
    | _ => rw [toPy]; exact ⟨rfl, Nat.le_refl _⟩
  | k + 1, d, h => by
    cases d with
    | tup xs =>
      obtain ⟨_, j, e, h2⟩ := okD_tup' h; cases e
      rw [toPy]
      exact ⟨lay_all fun x hx => (okD_lay (h2 x hx)).1, Nat.succ_le_succ (depth_all fun x hx => (okD_lay (h2 x hx)).2)⟩
    | lst xs =>
      obtain ⟨_, j, e, h2⟩ := okD_lst' h; cases e
      rw [toPy]
      exact ⟨lay_all fun x hx => (okD_lay (h2 x hx)).1, Nat.succ_le_succ (depth_all fun x hx => (okD_lay (h2 x hx)).2)⟩
    | str x => rw [toPy]; exact ⟨(Bool.and_eq_true_iff.mp h).1, Nat.zero_le _⟩
    | _ => rw [toPy]; exact ⟨rfl, Nat.zero_le _⟩
theorem okD_shaped {k : Nat} {d : D} (h : okD k d = true) (hk : k ≤ 64) : SeqAt.shaped (toPy d) = true := by
  obtain ⟨h1, h2⟩ := okD_lay h
  unfold SeqAt.shaped
  rw [h1, Bool.true_and]
  exact decide_eq_true (Nat.le_trans h2 hk)
theorem eqD_ok {k : Nat} {x y : D} (hx : okD k x = true) (hy : okD k y = true) (hk : k ≤ 64) : eqD x y = some (PyData.eqv (toPy x) (toPy y)) := by
  unfold eqD
  rw [okD_shaped hx hk, okD_shaped hy hk]
  rfl
theorem eqD_self {k : Nat} {x : D} (hx : okD k x = true) (hk : k ≤ 64) : eqD x x = some true := by
  rw [eqD_ok hx hx hk, SeqAt.eqv_refl _ (okD_lay hx).1]
/-! ### places, cuts -/
theorem at_ok {xs : List D} {r : Int} (h0 : 0 ≤ r) (h1 : r < xs.length) : ∃ x, x ∈ xs ∧ L2.atI xs r = some x := by
  obtain ⟨j, rfl⟩ : ∃ j : Nat, r = j := ⟨r.toNat, by omega⟩
  have hj : j < xs.length := by omega
  exact ⟨xs[j], List.getElem_mem hj, L2.atI_nat (by simp [hj])⟩
theorem cut_mem {xs : List D} {lo hi : Option Int} {x : D} (h : x ∈ cutD xs lo hi) : x ∈ xs := List.mem_of_mem_drop (List.mem_of_mem_take h)
theorem cut_len {xs : List D} {lo hi : Option Int} : (cutD xs lo hi).length ≤ xs.length := by
  unfold cutD
  rw [List.length_take, List.length_drop]; omega
theorem p_draw' (h : HA G) {l : List D} (hp : PoolOk l) {m : Int} (h0 : 0 < m) (h1 : m < 1073741824) {n : Nat} (hn : 2 ≤ n) :
    ∃ r l', PoolOk l' ∧ 0 ≤ r ∧ r < m ∧ callF G n (Str.ofString "_law_draw") [.len l, .dat (.int m)] = .ok (.dat (.int r)) [.len l', .dat (.int m)] := by
  obtain ⟨j, rfl⟩ : ∃ j, n = j + 2 := ⟨n - 2, by omega⟩
  exact p_draw h hp h0 h1 j
theorem p_pick (h : HA G) {l : List D} (hp : PoolOk l) {xs : List D} (hx : 0 < xs.length) (hx2 : xs.length < 1000000) {n : Nat} (hn : 3 ≤ n) :
    ∃ x l', PoolOk l' ∧ x ∈ xs ∧ callF G n (Str.ofString "_law_pick") [.len l, .dat (.lst xs)] = .ok (.dat x) [.len l', .dat (.lst xs)] := by
  obtain ⟨j, rfl⟩ : ∃ j, n = j + 1 := ⟨n - 1, by omega⟩
  obtain ⟨r, l', a1, a2, a3, a4⟩ := p_draw' h hp (m := xs.length) (by omega) (by omega) (n := j) (by omega)
  obtain ⟨x, b1, b2⟩ := at_ok (xs := xs) a2 a3
  refine ⟨x, l', a1, b1, ?_⟩
  rw [callF_s h.pick rfl]
  simp_arith [TL.f__law_pick, TL.b__law_pick, h.draw, a4, b2]
theorem p_pool (h : HA G) (ns : List Int) {n : Nat} (hn : 1 ≤ n) : ∃ l, PoolOk l ∧ callF G n (Str.ofString "_law_pool") [.dat (.lst (ns.map D.int))] = .ok (.len l) [.dat (.lst (ns.map D.int))] := by
  obtain ⟨j, rfl⟩ : ∃ j, n = j + 1 := ⟨n - 1, by omega⟩
  have key : ∀ ds : List D, (∀ d ∈ ds, ∃ i, d = .int i) → ∀ (s : Int) (s2 : Sl), (s2 = .no ∨ ∃ d, s2 = .dat d) → ∃ (s' : Int) (s2' : Sl), forL (.nm 2) (exs G (callF G j) (.cons (.set 1 (.bin .mod (.blt .int (.bin .add (.bin .mul (.var 1) (.int 31)) (.var 2))) (.int 1000003))) .nil)) ds [.dat (.lst (ns.map D.int)), .dat (.int s), s2] = .nx [.dat (.lst (ns.map D.int)), .dat (.int s'), s2'] := by
    intro ds
    induction ds with
    | nil => exact fun _ s s2 _ => ⟨s, s2, rfl⟩
    | cons d r ih =>
      intro hd s s2 hs
      obtain ⟨i, rfl⟩ := hd d List.mem_cons_self
      obtain ⟨s', s2', e⟩ := ih (fun d h => hd d (List.mem_cons_of_mem _ h)) ((s * 31 + i) % 1000003) (.dat (.int i)) (.inr ⟨_, rfl⟩)
      refine ⟨s', s2', ?_⟩
      rcases hs with rfl | ⟨d, rfl⟩
      · simp_arith [if_true]; exact e
      · simp_arith [if_true]; exact e
  obtain ⟨s', s2', e⟩ := key (cutD (ns.map D.int) none (some 63)) (fun d hd => by obtain ⟨i, _, rfl⟩ := List.mem_map.mp (cut_mem hd); exact ⟨i, rfl⟩) 7 .no (.inl rfl)
  refine ⟨[.lst (ns.map D.int), .int ((0 : Nat) : Int), .int 0, .int 0, .int s'], ⟨ns, 0, 0, 0, s', rfl⟩, ?_⟩
  rw [callF_s h.pool rfl]
  simp_arith [TL.f__law_pool, TL.b__law_pool, e]
end DI
end
section
set_option maxRecDepth 100000
set_option linter.all false
set_option Elab.async false
set_option maxHeartbeats 4000000
/-! PA3: the same; listed, booled, swapped, changed, bent. -/
namespace DI
open PySem
variable {G : Gm}
theorem mem_rngL {lo : Int} {n : Nat} {d : D} (h : d ∈ rngL lo n) : ∃ k : Nat, k < n ∧ d = .int (lo + k) := by
  unfold rngL at h
  obtain ⟨k, hk, rfl⟩ := List.mem_map.mp h
  exact ⟨k, List.mem_range.mp hk, rfl⟩
theorem rngL_len {lo : Int} {n : Nat} : (rngL lo n).length = n := by unfold rngL; simp
theorem filt_no {α : Type} : ∀ l : List α, l.filter (fun _ => false) = []
  | [] => rfl
  | x :: r => by rw [List.filter_cons_of_neg (by decide), filt_no r]
theorem filt_yes {α : Type} : ∀ l : List α, l.filter (fun _ => true) = l
  | [] => rfl
  | x :: r => by rw [List.filter_cons_of_pos rfl, filt_yes r]
theorem eqD_bl {a b : Bool} : eqD (.bl a) (.bl b) = some (a == b) := by
  rw [eqD_ok (k := 0) rfl rfl (by decide)]; rfl
theorem len_lim {xs : List D} (h : xs.length ≤ NR) : xs.length < 1000000 := by unfold NR at h; omega
theorem p_same (h : HA G) : ∀ (k : Nat) (d : D), okD k d = true → k ≤ 60 → ∀ n, k + 1 ≤ n → callF G n (Str.ofString "_law_same") [.dat d, .dat d] = .ok (.dat (.bl true)) [.dat d, .dat d] := by
  intro k
  induction k with
  | zero =>
    intro d hd hk n hn
    obtain ⟨j, rfl⟩ : ∃ j, n = j + 1 := ⟨n - 1, by omega⟩
    rw [callF_s h.same rfl]
    have e := eqD_self hd (by omega)
    cases d with
    | tup _ => cases hd
    | lst _ => cases hd
    | _ => simp_arith [TL.f__law_same, TL.b__law_same, tyIs, e]
  | succ k ih =>
    intro d hd hk n hn
    obtain ⟨j, rfl⟩ : ∃ j, n = j + 1 := ⟨n - 1, by omega⟩
    rw [callF_s h.same rfl]
    have e := eqD_self hd (by omega)
    have rows : ∀ xs : List D, (d = .tup xs ∨ d = .lst xs) → xs.length ≤ NR → (∀ x ∈ xs, okD k x = true) →
        kLc G (callF G j) (.var 2) (.nm 2) (.one (.nt (.call (Str.ofString "_law_same") (.cons (.idx (.var 0) (.var 2)) (.cons (.idx (.var 1) (.var 2)) .nil))))) [2] (rngL 0 ((xs.length : Int)).toNat) [.dat d, .dat d, .no] = .ok (.new []) [.dat d, .dat d, .no] := by
      intro xs hxs hl hall
      rw [kLc_pure (fun _ => false) id (by simp_arith [if_true]; rfl) ?_ (by rw [rngL_len]; unfold NR at hl; unfold LIM; omega)]
      · simp_arith [filt_no]
      · intro d' hd'
        obtain ⟨i, hi, rfl⟩ := mem_rngL hd'
        have hi : i < xs.length := by omega
        obtain ⟨x, hx, hat⟩ := at_ok (xs := xs) (r := 0 + (i : Int)) (by omega) (by omega)
        have hs := ih x (hall x hx) (by omega) j (by omega)
        rcases hxs with rfl | rfl
        · exact ⟨_, by simp_arith [if_true]; rfl, by simp_arith [if_true], by simp_arith [hat, h.same, hs], fun z => nomatch z⟩
        · exact ⟨_, by simp_arith [if_true]; rfl, by simp_arith [if_true], by simp_arith [hat, h.same, hs], fun z => nomatch z⟩
    cases d with
    | tup xs =>
      obtain ⟨h1, _, e2, h2⟩ := okD_tup' hd; cases e2
      have r := rows xs (.inl rfl) h1 h2
      have hl : ((xs.length : Int)).natAbs < 1152921504606846976 := by unfold NR at h1; omega
      simp_arith [TL.f__law_same, TL.b__law_same, tyIs, eqD_bl, beq_self_eq_true, hl, r, Int.natCast_zero]
    | lst xs =>
      obtain ⟨h1, _, e2, h2⟩ := okD_lst' hd; cases e2
      have r := rows xs (.inr rfl) h1 h2
      have hl : ((xs.length : Int)).natAbs < 1152921504606846976 := by unfold NR at h1; omega
      simp_arith [TL.f__law_same, TL.b__law_same, tyIs, eqD_bl, beq_self_eq_true, hl, r, Int.natCast_zero]
    | _ => simp_arith [TL.f__law_same, TL.b__law_same, tyIs, e]
theorem p_listed (h : HA G) : ∀ (deep : Nat) (k : Nat) (d : D), shD k d = true → ∀ n, deep + 1 ≤ n → ∃ r, callF G n (Str.ofString "_law_listed") [.dat d, .dat (.int deep)] = .ok r [.dat d, .dat (.int deep)] ∧ okD k (agD r) = true := by
  intro deep
  induction deep with
  | zero =>
    intro k d hd n hn
    obtain ⟨j, rfl⟩ : ∃ j, n = j + 1 := ⟨n - 1, by omega⟩
    rw [callF_s h.listed rfl]
    rcases shD_kind hd with ⟨i, rfl⟩ | ⟨xs, rfl⟩
    · exact ⟨.dat (.int i), by simp_arith [TL.f__law_listed, TL.b__law_listed, tyIs], okD_int⟩
    · obtain ⟨h1, j2, rfl, h2⟩ := shD_tup' hd
      refine ⟨.len xs, by simp_arith [TL.f__law_listed, TL.b__law_listed, tyIs, Int.natCast_zero], okD_lst (by unfold NR; omega) fun x hx => shD_ok (h2 x hx)⟩
  | succ deep ih =>
    intro k d hd n hn
    obtain ⟨j, rfl⟩ : ∃ j, n = j + 1 := ⟨n - 1, by omega⟩
    rw [callF_s h.listed rfl]
    rcases shD_kind hd with ⟨i, rfl⟩ | ⟨xs, rfl⟩
    · exact ⟨.dat (.int i), by simp_arith [TL.f__law_listed, TL.b__law_listed, tyIs], okD_int⟩
    · obtain ⟨h1, j2, rfl, h2⟩ := shD_tup' hd
      have nz : ¬ ((deep + 1 : Nat) : Int) = 0 := by omega
      have eq1 : ((deep + 1 : Nat) : Int) - 1 = (deep : Int) := by omega
      obtain ⟨l, a1, a3, a4⟩ := kLc_yes (G := G) (c := callF G j) (elt := .call (Str.ofString "_law_listed") (.cons (.var 2) (.cons (.bin .sub (.var 1) (.int 1)) .nil))) (t := .nm 2) (own := [2]) (ds := xs)
        (ρ := [.dat (.tup xs), .dat (.int (deep + 1 : Nat)), .no]) (fun d => okD j2 d = true) (by simp_arith [if_true]; rfl) (by simp_arith [if_true]) (by simp_arith [if_true]) (fun x hx => by
          obtain ⟨r, hr, hr2⟩ := ih j2 x (h2 x hx) j (by omega)
          exact ⟨_, agD r, by simp_arith [if_true]; rfl, by simp_arith [h.listed, eq1, hr, z_g1], by simp_arith [if_true], hr2⟩) (by unfold LIM; omega)
      refine ⟨.dat (.tup l), ?_, okD_tup (by unfold NR; omega) a3⟩
      simp_arith [TL.f__law_listed, TL.b__law_listed, tyIs, nz, a1]
theorem isin01 (i : Int) : ∃ b, isinD (.int i) (.tup [.int 0, .int 1]) = some b := ⟨_, rfl⟩
theorem p_booled (h : HA G) : ∀ (k : Nat) (d : D), shD k d = true → ∀ n, k + 2 ≤ n → ∃ r, callF G n (Str.ofString "_law_booled") [.dat d] = .ok (.dat r) [.dat d] ∧ okD k r = true := by
  intro k
  induction k with
  | zero =>
    intro d hd n hn
    obtain ⟨j, rfl⟩ : ∃ j, n = j + 1 := ⟨n - 1, by omega⟩
    obtain ⟨j', rfl⟩ : ∃ j', j = j' + 1 := ⟨j - 1, by omega⟩
    rw [callF_s h.booled rfl]
    rcases shD_kind hd with ⟨i, rfl⟩ | ⟨xs, rfl⟩
    · obtain ⟨b, hb⟩ := isin01 i
      cases b with
      | true => exact ⟨.bl (decide (i = 1)), by simp_arith [TL.f__law_booled, TL.b__law_booled, tyIs, h.is_integer, p_is_integer h, hb, Bool.not_false], okD_bl⟩
      | false => exact ⟨.int i, by simp_arith [TL.f__law_booled, TL.b__law_booled, tyIs, h.is_integer, p_is_integer h, hb, Bool.not_false], okD_int⟩
    · cases hd
  | succ k ih =>
    intro d hd n hn
    obtain ⟨j, rfl⟩ : ∃ j, n = j + 1 := ⟨n - 1, by omega⟩
    obtain ⟨j', rfl⟩ : ∃ j', j = j' + 1 := ⟨j - 1, by omega⟩
    rw [callF_s h.booled rfl]
    rcases shD_kind hd with ⟨i, rfl⟩ | ⟨xs, rfl⟩
    · obtain ⟨b, hb⟩ := isin01 i
      cases b with
      | true => exact ⟨.bl (decide (i = 1)), by simp_arith [TL.f__law_booled, TL.b__law_booled, tyIs, h.is_integer, p_is_integer h, hb, Bool.not_false], okD_bl⟩
      | false => exact ⟨.int i, by simp_arith [TL.f__law_booled, TL.b__law_booled, tyIs, h.is_integer, p_is_integer h, hb, Bool.not_false], okD_int⟩
    · obtain ⟨h1, j2, e2, h2⟩ := shD_tup' hd
      cases e2
      obtain ⟨l, a1, a3, a4⟩ := kLc_yes (G := G) (c := callF G (j' + 1)) (elt := .call (Str.ofString "_law_booled") (.cons (.var 1) .nil)) (t := .nm 1) (own := [1]) (ds := xs)
        (ρ := [.dat (.tup xs), .no]) (fun d => okD k d = true) (by simp_arith [if_true]; rfl) (by simp_arith [if_true]) (by simp_arith [if_true]) (fun x hx => by
          obtain ⟨r, hr, hr2⟩ := ih x (h2 x hx) (j' + 1) (by omega)
          exact ⟨_, r, by simp_arith [if_true]; rfl, by simp_arith [h.booled, hr], by simp_arith [if_true], hr2⟩) (by unfold LIM; omega)
      refine ⟨.tup l, ?_, okD_tup (by unfold NR; omega) a3⟩
      simp_arith [TL.f__law_booled, TL.b__law_booled, tyIs, a1]
/-- a place of a row, drawn; what stands there; the row with something else in its place -/
theorem put_len {xs l1 l2 : List D} {x : D} (h1 : l1.length ≤ xs.length) (h2 : l2.length ≤ xs.length) (h : xs.length ≤ 1000) : (l1 ++ [x] ++ l2).length ≤ NR := by
  simp only [List.length_append, List.length_cons, List.length_nil]; unfold NR; omega
theorem put_ok {k : Nat} {xs : List D} {x : D} {a b : Option Int} {c d : Option Int} (h : ∀ x ∈ xs, okD k x = true) (hx : okD k x = true) : ∀ y ∈ cutD xs a b ++ [x] ++ cutD xs c d, okD k y = true := by
  intro y hy
  rcases List.mem_append.mp hy with hy | hy
  · rcases List.mem_append.mp hy with hy | hy
    · exact h y (cut_mem hy)
    · obtain rfl := List.mem_singleton.mp hy; exact hx
  · exact h y (cut_mem hy)
theorem put_lim {xs : List D} {a b c d : Option Int} (h : xs.length ≤ 1000) : (cutD xs a b).length + 1 ≤ LIM ∧ (∀ x, (cutD xs a b ++ [x]).length + (cutD xs c d).length ≤ LIM) ∧ (cutD xs a b).length + (cutD xs c d).length ≤ LIM := by
  have h1 := cut_len (xs := xs) (lo := a) (hi := b)
  have h2 := cut_len (xs := xs) (lo := c) (hi := d)
  simp only [List.length_append, List.length_cons, List.length_nil]; unfold LIM
  exact ⟨by omega, fun _ => by omega, by omega⟩
theorem ixN_nat {n j : Nat} (hj : j < n) : L2.ixN n (j : Int) = some j := by
  unfold L2.ixN
  rw [if_pos (by omega), if_pos (by omega)]
  simp
/-- a row of which two items are exchanged -/
theorem swp_ok {l : List D} {i j : Int} {v : List D} (pl : List D) (h0 : 0 ≤ i) (h1 : i < l.length) (h2 : 0 ≤ j) (h3 : j < l.length) :
    ∃ l', swpR [.lent pl, .dat (.tup v), .dat (.int i), .dat (.int j), .own l] 4 2 3 3 2 = some [.lent pl, .dat (.tup v), .dat (.int i), .dat (.int j), .own l'] ∧ l'.length = l.length ∧ ∀ x ∈ l', x ∈ l := by
  obtain ⟨a, rfl⟩ : ∃ a : Nat, i = a := ⟨i.toNat, by omega⟩
  obtain ⟨b, rfl⟩ : ∃ b : Nat, j = b := ⟨j.toNat, by omega⟩
  have ha : a < l.length := by omega
  have hb : b < l.length := by omega
  refine ⟨(l.set a l[b]).set b l[a], ?_, by simp, fun x hx => ?_⟩
  · have e1 : L2.ixN l.length (b : Int) = some b := ixN_nat hb
    have e2 : L2.ixN l.length (a : Int) = some a := ixN_nat ha
    unfold swpR
    show (Option.bind (some l) _) = _
    simp only [Option.bind_some]
    show (match some (a : Int), some (b : Int), some (b : Int), some (a : Int) with | some a, some b, some c, some d => _ | _, _, _, _ => none) = _
    simp_arith [e1, e2, Option.bind_some, List.getElem?_eq_getElem ha, List.getElem?_eq_getElem hb, List.length_set]
  · rcases List.mem_or_eq_of_mem_set hx with hx | rfl
    · rcases List.mem_or_eq_of_mem_set hx with hx | rfl
      · exact hx
      · exact List.getElem_mem hb
    · exact List.getElem_mem ha
theorem p_swapped (h : HA G) : ∀ (k : Nat) (d : D), shD k d = true → ∀ (l : List D), PoolOk l → ∀ n, k + 3 ≤ n → ∃ r l', PoolOk l' ∧ callF G n (Str.ofString "_law_swapped") [.len l, .dat d] = .ok (.dat r) [.len l', .dat d] ∧ okD k r = true := by
  intro k
  induction k with
  | zero =>
    intro d hd l hl n hn
    obtain ⟨j, rfl⟩ : ∃ j, n = j + 1 := ⟨n - 1, by omega⟩
    rw [callF_s h.swapped rfl]
    rcases shD_kind hd with ⟨i, rfl⟩ | ⟨xs, rfl⟩
    · exact ⟨.int i, l, hl, by simp_arith [TL.f__law_swapped, TL.b__law_swapped, tyIs], okD_int⟩
    · cases hd
  | succ k ih =>
    intro d hd l hl n hn
    obtain ⟨j, rfl⟩ : ∃ j, n = j + 1 := ⟨n - 1, by omega⟩
    rw [callF_s h.swapped rfl]
    rcases shD_kind hd with ⟨i, rfl⟩ | ⟨xs, rfl⟩
    · exact ⟨.int i, l, hl, by simp_arith [TL.f__law_swapped, TL.b__law_swapped, tyIs], okD_int⟩
    obtain ⟨h1, j2, e2, h2⟩ := shD_tup' hd
    cases e2
    by_cases hz : xs.length = 0
    · exact ⟨.tup xs, l, hl, by simp_arith [TL.f__law_swapped, TL.b__law_swapped, tyIs, hz, Int.natCast_zero, z_v17], shD_ok hd⟩
    have nz : ¬ ((xs.length : Nat) : Int) = 0 := by omega
    obtain ⟨r1, l1, b1, b2, b3, b4⟩ := p_draw' h hl (m := xs.length) (by omega) (by omega) (n := j) (by omega)
    obtain ⟨x, hx, hat⟩ := at_ok (xs := xs) b2 b3
    have hxs := h2 x hx
    -- the exchange
    have lim := put_lim (xs := xs) (a := none) (b := some r1) (c := some (r1 + 1)) (d := none) h1
    have exch : ∀ lq, PoolOk lq → ∃ l2 r2 l3, PoolOk l2 ∧ callF G j (Str.ofString "_law_draw") [.len lq, .dat (.int xs.length)] = .ok (.dat (.int r2)) [.len l2, .dat (.int xs.length)] ∧
        swpR [.lent l2, .dat (.tup xs), .dat (.int r1), .dat (.int r2), .own xs] 4 2 3 3 2 = some [.lent l2, .dat (.tup xs), .dat (.int r1), .dat (.int r2), .own l3] ∧ okD (k + 1) (.tup l3) = true := by
      intro lq hq
      obtain ⟨r2, l2, c1, c2, c3, c4⟩ := p_draw' h hq (m := xs.length) (by omega) (by omega) (n := j) (by omega)
      obtain ⟨l3, d1, d2, d3⟩ := swp_ok (v := xs) l2 b2 b3 c2 c3
      exact ⟨l2, r2, l3, c1, c4, d1, okD_tup (by unfold NR; omega) fun x hx => shD_ok (h2 x (d3 x hx))⟩
    rcases shD_kind hxs with ⟨i, rfl⟩ | ⟨ys, rfl⟩
    · obtain ⟨l2, r2, l3, c1, c2, c3, c4⟩ := exch l1 b1
      refine ⟨.tup l3, l2, c1, ?_, c4⟩
      simp_arith [TL.f__law_swapped, TL.b__law_swapped, tyIs, nz, h.draw, b4, hat, c2, c3]
    · obtain ⟨r2, l2, c1, c2, c3, c4⟩ := p_draw' h b1 (m := 4) (by omega) (by omega) (n := j) (by omega)
      by_cases hr : 0 < r2
      · obtain ⟨y, l3, d1, d2, d3⟩ := ih (.tup ys) hxs l2 c1 j (by omega)
        refine ⟨.tup (cutD xs none (some r1) ++ [y] ++ cutD xs (some (r1 + 1)) none), l3, d1, ?_, okD_tup (put_len cut_len cut_len h1) (put_ok (fun x hx => shD_ok (h2 x hx)) d3)⟩
        simp_arith [TL.f__law_swapped, TL.b__law_swapped, tyIs, nz, h.draw, b4, hat, c4, hr, h.swapped, d2, lim.1, lim.2.1]
      · obtain ⟨l3, r3, l4, d1, d2, d3, d4⟩ := exch l2 c1
        refine ⟨.tup l4, l3, d1, ?_, d4⟩
        simp_arith [TL.f__law_swapped, TL.b__law_swapped, tyIs, nz, h.draw, b4, hat, c4, hr, d2, d3]
theorem p_changed (h : HA G) {th : List D} (ht : ∀ x ∈ th, okD 3 x = true) (ht1 : 0 < th.length) (ht2 : th.length < 1000000) : ∀ (k : Nat) (d : D), shD k d = true → ∀ (l : List D), PoolOk l → ∀ n, k + 5 ≤ n →
    ∃ r l', PoolOk l' ∧ callF G n (Str.ofString "_law_changed") [.len l, .dat d, .dat (.lst th)] = .ok (.dat r) [.len l', .dat d, .dat (.lst th)] ∧ okD (k + 3) r = true := by
  intro k
  induction k with
  | zero =>
    intro d hd l hl n hn
    obtain ⟨j, rfl⟩ : ∃ j, n = j + 1 := ⟨n - 1, by omega⟩
    rw [callF_s h.changed rfl]
    rcases shD_kind hd with ⟨i, rfl⟩ | ⟨xs, rfl⟩
    · obtain ⟨x, l2, b1, b2, b3⟩ := p_pick h hl ht1 ht2 (n := j) (by omega)
      exact ⟨x, l2, b1, by simp_arith [TL.f__law_changed, TL.b__law_changed, tyIs, h.pick, b3], okD_le (by omega) (ht x b2)⟩
    · cases hd
  | succ k ih =>
    intro d hd l hl n hn
    obtain ⟨j, rfl⟩ : ∃ j, n = j + 1 := ⟨n - 1, by omega⟩
    rw [callF_s h.changed rfl]
    rcases shD_kind hd with ⟨i, rfl⟩ | ⟨xs, rfl⟩
    · obtain ⟨x, l2, b1, b2, b3⟩ := p_pick h hl ht1 ht2 (n := j) (by omega)
      exact ⟨x, l2, b1, by simp_arith [TL.f__law_changed, TL.b__law_changed, tyIs, h.pick, b3], okD_le (by omega) (ht x b2)⟩
    obtain ⟨h1, j2, e2, h2⟩ := shD_tup' hd
    cases e2
    by_cases hz : xs.length = 0
    · obtain ⟨x, l2, b1, b2, b3⟩ := p_pick h hl ht1 ht2 (n := j) (by omega)
      exact ⟨x, l2, b1, by simp_arith [TL.f__law_changed, TL.b__law_changed, tyIs, hz, Int.natCast_zero, h.pick, b3], okD_le (by omega) (ht x b2)⟩
    have nz : ¬ ((xs.length : Nat) : Int) = 0 := by omega
    obtain ⟨r0, l0, a1, a2, a3, a4⟩ := p_draw' h hl (m := 7) (by omega) (by omega) (n := j) (by omega)
    by_cases hr0 : r0 = 0
    · obtain ⟨x, l2, b1, b2, b3⟩ := p_pick h a1 ht1 ht2 (n := j) (by omega)
      exact ⟨x, l2, b1, by simp_arith [TL.f__law_changed, TL.b__law_changed, tyIs, nz, h.draw, a4, hr0, h.pick, b3], okD_le (by omega) (ht x b2)⟩
    obtain ⟨r1, l1, b1, b2, b3, b4⟩ := p_draw' h a1 (m := xs.length) (by omega) (by omega) (n := j) (by omega)
    obtain ⟨x, hx, hat⟩ := at_ok (xs := xs) b2 b3
    have lim := put_lim (xs := xs) (a := none) (b := some r1) (c := some (r1 + 1)) (d := none) h1
    obtain ⟨y, l3, d1, d2, d3⟩ := ih x (h2 x hx) l1 b1 j (by omega)
    refine ⟨.tup (cutD xs none (some r1) ++ [y] ++ cutD xs (some (r1 + 1)) none), l3, d1, ?_, okD_tup (put_len cut_len cut_len h1) (put_ok (fun x hx => okD_le (by omega) (shD_ok (h2 x hx))) d3)⟩
    simp_arith [TL.f__law_changed, TL.b__law_changed, tyIs, nz, h.draw, a4, hr0, b4, hat, h.changed, d2, lim.1, lim.2.1]
end DI
end
section
set_option maxRecDepth 100000
set_option linter.all false
set_option Elab.async false
set_option maxHeartbeats 4000000
/-! PA4: bent values. -/
namespace DI
open PySem
variable {G : Gm}
abbrev tens : List D := [.str (Str.ofString "x"), .bl true, .tup [], .int 0, .int (-1), .non, .bl false, .lst [], .str (Str.ofString "in"), .int 1]
theorem tens_ok : ∀ x ∈ tens, okD 1 x = true := by decide +kernel
abbrev fours : List D := [.int 1, .int (-1), .int 2, .int 0]
theorem fours_int {r : Int} (h0 : 0 ≤ r) (h1 : r < 4) : ∃ i, L2.atI fours r = some (.int i) := by
  obtain ⟨x, hx, e⟩ := at_ok (xs := fours) h0 h1
  simp only [List.mem_cons, List.not_mem_nil, or_false] at hx
  rcases hx with rfl | rfl | rfl | rfl <;> exact ⟨_, e⟩
theorem p_bent (h : HA G) : ∀ (k : Nat) (d : D), shD k d = true → ∀ (l : List D), PoolOk l → ∀ n, k + 5 ≤ n →
    ∃ r l', PoolOk l' ∧ callF G n (Str.ofString "_law_bent") [.len l, .dat d] = .ok r [.len l', .dat d] ∧ okD (k + 2) (agD r) = true := by
  intro k
  induction k with
  | zero =>
    intro d hd l hl n hn
    obtain ⟨j, rfl⟩ : ∃ j, n = j + 1 + 1 := ⟨n - 2, by omega⟩
    rw [callF_s h.bent rfl]
    rcases shD_kind hd with ⟨i, rfl⟩ | ⟨xs, rfl⟩
    · obtain ⟨r0, l0, a1, a2, a3, a4⟩ := p_draw' h hl (m := 9) (by omega) (by omega) (n := j + 1) (by omega)
      by_cases hr : r0 = 0
      · obtain ⟨r1, l1, b1, b2, b3, b4⟩ := p_draw' h a1 (m := 10) (by omega) (by omega) (n := j + 1) (by omega)
        obtain ⟨x, hx, hat⟩ := at_ok (xs := tens) b2 b3
        exact ⟨.dat x, l1, b1, by simp_arith [TL.f__law_bent, TL.b__law_bent, tyIs, h.draw, a4, hr, b4, hat], okD_le (by omega) (tens_ok x hx)⟩
      · obtain ⟨r1, l1, b1, b2, b3, b4⟩ := p_draw' h a1 (m := 4) (by omega) (by omega) (n := j + 1) (by omega)
        obtain ⟨i', hat⟩ := fours_int b2 b3
        exact ⟨.dat (.int (i + i')), l1, b1, by simp_arith [TL.f__law_bent, TL.b__law_bent, tyIs, h.draw, a4, hr, h.is_integer, p_is_integer h, b4, hat], okD_int⟩
    · cases hd
  | succ k ih =>
    intro d hd l hl n hn
    obtain ⟨j, rfl⟩ : ∃ j, n = j + 1 + 1 := ⟨n - 2, by omega⟩
    rw [callF_s h.bent rfl]
    rcases shD_kind hd with ⟨i, rfl⟩ | ⟨xs, rfl⟩
    · obtain ⟨r0, l0, a1, a2, a3, a4⟩ := p_draw' h hl (m := 9) (by omega) (by omega) (n := j + 1) (by omega)
      by_cases hr : r0 = 0
      · obtain ⟨r1, l1, b1, b2, b3, b4⟩ := p_draw' h a1 (m := 10) (by omega) (by omega) (n := j + 1) (by omega)
        obtain ⟨x, hx, hat⟩ := at_ok (xs := tens) b2 b3
        exact ⟨.dat x, l1, b1, by simp_arith [TL.f__law_bent, TL.b__law_bent, tyIs, h.draw, a4, hr, b4, hat], okD_le (by omega) (tens_ok x hx)⟩
      · obtain ⟨r1, l1, b1, b2, b3, b4⟩ := p_draw' h a1 (m := 4) (by omega) (by omega) (n := j + 1) (by omega)
        obtain ⟨i', hat⟩ := fours_int b2 b3
        exact ⟨.dat (.int (i + i')), l1, b1, by simp_arith [TL.f__law_bent, TL.b__law_bent, tyIs, h.draw, a4, hr, h.is_integer, p_is_integer h, b4, hat], okD_int⟩
    obtain ⟨h1, j2, e2, h2⟩ := shD_tup' hd
    cases e2
    have h3 : ∀ x ∈ xs, okD (k + 2) x = true := fun x hx => okD_le (by omega) (shD_ok (h2 x hx))
    by_cases hz : xs.length = 0
    · obtain rfl := List.eq_nil_of_length_eq_zero hz
      obtain ⟨r0, l0, a1, a2, a3, a4⟩ := p_draw' h hl (m := 9) (by omega) (by omega) (n := j + 1) (by omega)
      by_cases hr : r0 = 0
      · obtain ⟨r1, l1, b1, b2, b3, b4⟩ := p_draw' h a1 (m := 10) (by omega) (by omega) (n := j + 1) (by omega)
        obtain ⟨x, hx, hat⟩ := at_ok (xs := tens) b2 b3
        exact ⟨.dat x, l1, b1, by simp_arith [TL.f__law_bent, TL.b__law_bent, tyIs, h.draw, a4, hr, b4, hat, Int.natCast_zero], okD_le (by omega) (tens_ok x hx)⟩
      · by_cases h5 : r0 < 5
        · exact ⟨.dat (.tup [.tup [], .int 0]), l0, a1, by simp_arith [TL.f__law_bent, TL.b__law_bent, tyIs, h.draw, a4, hr, h.is_integer, p_is_integer h, h5, Int.natCast_zero], okD_le (k := 2) (by omega) rfl⟩
        · exact ⟨.dat (.tup []), l0, a1, by simp_arith [TL.f__law_bent, TL.b__law_bent, tyIs, h.draw, a4, hr, h.is_integer, p_is_integer h, h5, Int.natCast_zero], okD_le (k := 1) (by omega) rfl⟩
    have nz : ¬ ((xs.length : Nat) : Int) = 0 := by omega
    have pz : (0 : Int) < ((xs.length : Nat) : Int) := by omega
    obtain ⟨q0, m0, g1, g2, g3, g4⟩ := p_draw' h hl (m := 4) (by omega) (by omega) (n := j + 1) (by omega)
    by_cases hq : 0 < q0
    · obtain ⟨r1, l1, b1, b2, b3, b4⟩ := p_draw' h g1 (m := xs.length) (by omega) (by omega) (n := j + 1) (by omega)
      obtain ⟨x, hx, hat⟩ := at_ok (xs := xs) b2 b3
      have lim := put_lim (xs := xs) (a := none) (b := some r1) (c := some (r1 + 1)) (d := none) h1
      obtain ⟨y, l3, d1, d2, d3⟩ := ih x (h2 x hx) l1 b1 (j + 1) (by omega)
      refine ⟨.dat (.tup (cutD xs none (some r1) ++ [agD y] ++ cutD xs (some (r1 + 1)) none)), l3, d1, ?_, okD_tup (put_len cut_len cut_len h1) (put_ok h3 d3)⟩
      simp_arith [TL.f__law_bent, TL.b__law_bent, tyIs, nz, pz, h.draw, g4, hq, b4, hat, h.bent, d2, z_g1, lim.1, lim.2.1]
    obtain ⟨r0, l0, a1, a2, a3, a4⟩ := p_draw' h g1 (m := 9) (by omega) (by omega) (n := j + 1) (by omega)
    by_cases hr : r0 = 0
    · obtain ⟨r1, l1, b1, b2, b3, b4⟩ := p_draw' h a1 (m := 10) (by omega) (by omega) (n := j + 1) (by omega)
      obtain ⟨x, hx, hat⟩ := at_ok (xs := tens) b2 b3
      exact ⟨.dat x, l1, b1, by simp_arith [TL.f__law_bent, TL.b__law_bent, tyIs, nz, pz, h.draw, g4, hq, a4, hr, b4, hat], okD_le (by omega) (tens_ok x hx)⟩
    obtain ⟨r1, l1, b1, b2, b3, b4⟩ := p_draw' h a1 (m := xs.length) (by omega) (by omega) (n := j + 1) (by omega)
    obtain ⟨x, hx, hat⟩ := at_ok (xs := xs) b2 b3
    have lim := put_lim (xs := xs) (a := none) (b := some r1) (c := some (r1 + 1)) (d := none) h1
    have lim' := put_lim (xs := xs) (a := none) (b := some r1) (c := some r1) (d := none) h1
    by_cases h3' : r0 < 3
    · refine ⟨.dat (.tup (cutD xs none (some r1) ++ cutD xs (some (r1 + 1)) none)), l1, b1, ?_, okD_tup ?_ fun y hy => ?_⟩
      · simp_arith [TL.f__law_bent, TL.b__law_bent, tyIs, nz, pz, h.draw, g4, hq, a4, hr, h.is_integer, p_is_integer h, b4, h3', lim.2.2]
      · have c1 := cut_len (xs := xs) (lo := none) (hi := some r1); have c2 := cut_len (xs := xs) (lo := some (r1 + 1)) (hi := none)
        rw [List.length_append]; unfold NR; omega
      · rcases List.mem_append.mp hy with hy | hy <;> exact h3 y (cut_mem hy)
    by_cases h5' : r0 < 5
    · refine ⟨.dat (.tup (cutD xs none (some r1) ++ [x] ++ cutD xs (some r1) none)), l1, b1, ?_, okD_tup (put_len cut_len cut_len h1) (put_ok h3 (h3 x hx))⟩
      simp_arith [TL.f__law_bent, TL.b__law_bent, tyIs, nz, pz, h.draw, g4, hq, a4, hr, h.is_integer, p_is_integer h, b4, h3', h5', hat, lim'.1, lim'.2.1]
    by_cases h6' : r0 = 5
    · exact ⟨.len xs, l1, b1, by simp_arith [TL.f__law_bent, TL.b__law_bent, tyIs, nz, pz, h.draw, g4, hq, a4, hr, h.is_integer, p_is_integer h, b4, h3', h5', h6'], okD_lst (by unfold NR; omega) h3⟩
    obtain ⟨r2, l2, c1, c2, c3, c4⟩ := p_draw' h b1 (m := xs.length) (by omega) (by omega) (n := j + 1) (by omega)
    obtain ⟨y, hy, hat2⟩ := at_ok (xs := xs) c2 c3
    obtain ⟨a, rfl⟩ : ∃ a : Nat, r1 = a := ⟨r1.toNat, by omega⟩
    obtain ⟨b, rfl⟩ : ∃ b : Nat, r2 = b := ⟨r2.toNat, by omega⟩
    have x1 : L2.ixN xs.length (a : Int) = some a := ixN_nat (by omega)
    have x2 : L2.ixN xs.length (b : Int) = some b := ixN_nat (by omega)
    refine ⟨.dat (.tup ((xs.set a y).set b x)), l2, c1, ?_, okD_tup (by simp; unfold NR; omega) fun z hz => ?_⟩
    · simp_arith [TL.f__law_bent, TL.b__law_bent, tyIs, nz, pz, h.draw, g4, hq, a4, hr, h.is_integer, p_is_integer h, b4, h3', h5', h6', c4, hat, hat2, x1, x2, List.length_set]
    · rcases List.mem_or_eq_of_mem_set hz with hz | rfl
      · rcases List.mem_or_eq_of_mem_set hz with hz | rfl
        · exact h3 z hz
        · exact h3 _ hy
      · exact h3 _ hx
end DI
end
section
set_option maxRecDepth 100000
set_option linter.all false
set_option Elab.async false
set_option maxHeartbeats 4000000
/-! PA5: bends; drawn brackets; all brackets. -/
namespace DI
open PySem
variable {G : Gm}
abbrev thgs : List D := [.int 0, .int 1, .int 2, .int 3, .int 4, .int 5, .int (-1), .int 1001, .tup [], .tup [.int 0], .tup [.int 1], .tup [.int 0, .int 1], .tup [.int 1, .int 0], .tup [.int 0, .int 3], .tup [.int 2, .int 0, .int 1], .tup [.tup [], .tup []], .str (Str.ofString "a"), .non, .bl true]
theorem thgs_ok : ∀ x ∈ thgs, okD 3 x = true := by decide +kernel
theorem p_bends (h : HA G) (k : Nat) (xs : List D) (hd : shD k (.tup xs) = true) (l : List D) (hl : PoolOk l) (n : Nat) (hn : k + 6 ≤ n) :
    ∃ r l', PoolOk l' ∧ callF G n (Str.ofString "_law_bends") [.len l, .dat (.tup xs)] = .ok (.len r) [.len l', .dat (.tup xs)] ∧ ∀ x ∈ r, okD (k + 3) x = true := by
  obtain ⟨j, rfl⟩ : ∃ j, n = j + 1 := ⟨n - 1, by omega⟩
  rw [callF_s h.bends rfl]
  obtain ⟨h1, k2, rfl, h2⟩ := shD_tup' hd
  have hok : okD (k2 + 1) (.tup xs) = true := shD_ok hd
  have hx : ∀ x ∈ xs, okD (k2 + 1 + 2) x = true := fun x hx => okD_le (by omega) (shD_ok (h2 x hx))
  obtain ⟨ra, a1, a2⟩ := p_listed h 1 (k2 + 1) (.tup xs) hd j (by omega)
  obtain ⟨rb, b1, b2⟩ := p_listed h 2 (k2 + 1) (.tup xs) hd j (by omega)
  obtain ⟨rc, c1, c2⟩ := p_booled h (k2 + 1) (.tup xs) hd j (by omega)
  have a1 : callF G j (Str.ofString "_law_listed") [.dat (.tup xs), .dat (.int 1)] = .ok ra [.dat (.tup xs), .dat (.int 1)] := a1
  have b1 : callF G j (Str.ofString "_law_listed") [.dat (.tup xs), .dat (.int 2)] = .ok rb [.dat (.tup xs), .dat (.int 2)] := b1
  obtain ⟨f9, hf9⟩ : ∃ f9 : List D, f9 = [.lst xs, .tup (cutD xs (some 1) none), .tup (cutD xs none (some (-1))), .tup (xs ++ cutD xs (some (-1)) none), .tup [.tup xs], agD ra, agD rb, rc, .tup []] := ⟨_, rfl⟩
  have f9l : f9.length = 9 := by rw [hf9]; rfl
  have lim : xs.length + (cutD xs (some (-1)) none).length ≤ LIM := by
    have := cut_len (xs := xs) (lo := some (-1)) (hi := none); unfold LIM; omega
  have f9ok : ∀ x ∈ f9, okD (k2 + 1 + 3) x = true := by
    intro x hxf
    simp only [hf9, List.mem_cons, List.not_mem_nil, or_false] at hxf
    have c0 := fun lo hi => cut_len (xs := xs) (lo := lo) (hi := hi)
    rcases hxf with rfl | rfl | rfl | rfl | rfl | rfl | rfl | rfl | rfl
    · exact okD_lst (by unfold NR; omega) hx
    · exact okD_tup (by have := c0 (some 1) none; unfold NR; omega) fun y hy => hx y (cut_mem hy)
    · exact okD_tup (by have := c0 none (some (-1)); unfold NR; omega) fun y hy => hx y (cut_mem hy)
    · refine okD_tup (by have := c0 (some (-1)) none; rw [List.length_append]; unfold NR; omega) fun y hy => ?_
      rcases List.mem_append.mp hy with hy | hy
      · exact hx y hy
      · exact hx y (cut_mem hy)
    · refine okD_tup (by unfold NR; simp) fun y hy => ?_
      obtain rfl := List.mem_singleton.mp hy
      exact okD_le (by omega) hok
    · exact okD_le (by omega) a2
    · exact okD_le (by omega) b2
    · exact okD_le (by omega) c2
    · exact okD_tup (by unfold NR; simp) fun y hy => nomatch hy
  have st : ∀ (found : List D) (lq : List D), PoolOk lq → ∀ (elt : ME) (m : Nat), m ≤ 20 → (∀ lq, PoolOk lq → ∀ (s : Sl), ∃ x l', PoolOk l' ∧ eD G (callF G j) elt [.lent lq, .dat (.tup xs), .dat (.lst thgs), .dat (.lst found), s] = .ok x [.lent l', .dat (.tup xs), .dat (.lst thgs), .dat (.lst found), s] ∧ okD (k2 + 1 + 3) x = true) →
      ∃ l l', PoolOk l' ∧ kLc G (callF G j) elt (.nm 4) .yes [4] (rngL 0 m) [.lent lq, .dat (.tup xs), .dat (.lst thgs), .dat (.lst found), .no] = .ok (.new l) [.lent l', .dat (.tup xs), .dat (.lst thgs), .dat (.lst found), .no] ∧ (∀ x ∈ l, okD (k2 + 1 + 3) x = true) ∧ l.length ≤ m := by
    intro found lq hq elt m hm he
    obtain ⟨l, ρ', d1, ⟨l', d2, rfl⟩, d3, d4⟩ := kLc_st (G := G) (c := callF G j) (elt := elt) (t := .nm 4) (own := [4]) (ds := rngL 0 m) (ρ := [.lent lq, .dat (.tup xs), .dat (.lst thgs), .dat (.lst found), .no])
      (fun ρ => ∃ l', PoolOk l' ∧ ρ = [.lent l', .dat (.tup xs), .dat (.lst thgs), .dat (.lst found), .no]) (fun x => okD (k2 + 1 + 3) x = true) (by rfl) ⟨lq, hq, by simp_arith [if_true]⟩ (fun d hd ρ hρ => by
        obtain ⟨lr, hr, rfl⟩ := hρ
        obtain ⟨x, l', e1, e2, e3⟩ := he lr hr (.dat d)
        exact ⟨_, x, _, by simp_arith [if_true], e2, ⟨l', e1, by simp_arith [if_true]⟩, e3⟩) (by rw [rngL_len]; unfold LIM; omega)
    exact ⟨l, l', d2, by rw [d1]; simp_arith [if_true], d3, by rwa [rngL_len] at d4⟩
  obtain ⟨y1, l1, e1, e2, e3, e4⟩ := st f9 l hl (.call (Str.ofString "_law_changed") (.cons (.var 0) (.cons (.var 1) (.cons (.var 2) .nil)))) 14 (by omega) (fun lq hq s => by
    obtain ⟨r, l', g1, g2, g3⟩ := p_changed h thgs_ok (by decide) (by decide) (k2 + 1) (.tup xs) hd lq hq j (by omega)
    exact ⟨r, l', g1, by simp_arith [h.changed, g2], g3⟩)
  obtain ⟨y2, l2, i1, i2, i3, i4⟩ := st f9 l1 e1 (.call (Str.ofString "_law_swapped") (.cons (.var 0) (.cons (.var 1) .nil))) 9 (by omega) (fun lq hq s => by
    obtain ⟨r, l', g1, g2, g3⟩ := p_swapped h (k2 + 1) (.tup xs) hd lq hq j (by omega)
    exact ⟨r, l', g1, by simp_arith [h.swapped, g2], okD_le (by omega) g3⟩)
  obtain ⟨y3, l3, j1, j2, j3, j4⟩ := st (f9 ++ y1 ++ y2) l2 i1 (.call (Str.ofString "_law_bent") (.cons (.var 0) (.cons (.var 1) .nil))) 7 (by omega) (fun lq hq s => by
    obtain ⟨r, l', g1, g2, g3⟩ := p_bent h (k2 + 1) (.tup xs) hd lq hq j (by omega)
    exact ⟨agD r, l', g1, by simp_arith [h.bent, g2, z_g1], okD_le (by omega) g3⟩)
  refine ⟨f9 ++ y1 ++ y2 ++ y3, l3, j1, ?_, fun x hxf => ?_⟩
  · have q1 : f9.length + y1.length ≤ LIM := by rw [f9l]; unfold LIM; omega
    have q2 : (f9 ++ y1).length + y2.length ≤ LIM := by simp only [f9l, List.length_append]; unfold LIM; omega
    have q3 : (f9 ++ y1 ++ y2).length + y3.length ≤ LIM := by simp only [f9l, List.length_append]; unfold LIM; omega
    simp_arith [TL.f__law_bends, TL.b__law_bends, h.listed, a1, b1, z_g1, h.booled, c1, lim, hf9.symm, e2, i2, j2, q1, q2, q3]
  · rcases List.mem_append.mp hxf with hxf | hxf
    · rcases List.mem_append.mp hxf with hxf | hxf
      · rcases List.mem_append.mp hxf with hxf | hxf
        · exact f9ok x hxf
        · exact e3 x hxf
      · exact i3 x hxf
    · exact j3 x hxf
end DI
end
section
set_option maxRecDepth 100000
set_option linter.all false
set_option Elab.async false
set_option maxHeartbeats 4000000
/-! PA6: drawn brackets; all brackets. -/
namespace DI
open PySem
variable {G : Gm}
/-- a row of signs, so many open behind it, never below -/
inductive Pre : Nat → List Int → Prop
  | nil : Pre 0 []
  | op {h : Nat} {w : List Int} : Pre h w → Pre (h + 1) (w ++ [0])
  | sh {h : Nat} {w : List Int} : Pre (h + 1) w → Pre h (w ++ [1])
def wd (w : List Int) : D := .tup (w.map D.int)
theorem wd_add {w : List Int} {i : Int} : wd (w ++ [i]) = .tup (w.map D.int ++ [.int i]) := by unfold wd; rw [List.map_append]; rfl
theorem dnL_succ (m : Nat) : dnL (m + 1) = .int ((m + 1 : Nat) : Int) :: dnL m := by
  unfold dnL
  rw [List.range_succ_eq_map, List.map_cons, List.map_map]
  congr 1
  refine List.map_congr_left fun k _ => ?_
  show D.int _ = D.int _
  congr 1
  show ((m + 1 : Nat) : Int) - ((k + 1 : Nat) : Int) = (m : Int) - (k : Int)
  omega
theorem brk_loop (hA : HA G) (c : Nat) (hc : 2 ≤ c) : ∀ (m h : Nat) (w : List Int) (l : List D) (s5 s6 : Sl) (x3 : D), Pre h w → h ≤ m → h % 2 = m % 2 → PoolOk l → w.length + m ≤ 5000 → (s5 = .no ∨ ∃ d, s5 = .dat d) → (s6 = .no ∨ ∃ d, s6 = .dat d) →
    ∃ w' l' s5' s6', Pre 0 w' ∧ PoolOk l' ∧ w'.length = w.length + m ∧ forL (.nm 5) (exs G (callF G c) (match TL.b__law_brackets with | .cons _ (.cons _ (.cons _ (.cons (.for_ _ _ b) _))) => b | _ => .nil)) (dnL m) [.lent l, .dat (.int 10), .dat x3, .dat (wd w), .dat (.int h), s5, s6] =
      .nx [.lent l', .dat (.int 10), .dat x3, .dat (wd w'), .dat (.int 0), s5', s6'] := by
  intro m
  induction m with
  | zero =>
    intro h w l s5 s6 x3 hp hh hm hl hw h5 h6
    obtain rfl : h = 0 := by omega
    exact ⟨w, l, s5, s6, hp, hl, rfl, rfl⟩
  | succ m ih =>
    intro h w l s5 s6 x3 hp hh hm hl hw h5 h6
    have lim : w.length + 1 ≤ LIM := by unfold LIM; omega
    -- one turn
    have turn : ∀ (sg : Int) (h' : Nat) (lq : List D), (sg = 0 ∨ sg = 1) → (h' : Int) = h + 1 - 2 * sg → Pre h' (w ++ [sg]) → h' ≤ m → PoolOk lq →
        exs G (callF G c) (match TL.b__law_brackets with | .cons _ (.cons _ (.cons _ (.cons (.for_ _ _ b) _))) => b | _ => .nil) [.lent l, .dat (.int 10), .dat x3, .dat (wd w), .dat (.int h), .dat (.int ((m + 1 : Nat) : Int)), s6] =
          .nx [.lent lq, .dat (.int 10), .dat x3, .dat (wd (w ++ [sg])), .dat (.int h'), .dat (.int ((m + 1 : Nat) : Int)), .dat (.int sg)] →
        ∃ w' l' s5' s6', Pre 0 w' ∧ PoolOk l' ∧ w'.length = w.length + (m + 1) ∧ forL (.nm 5) (exs G (callF G c) (match TL.b__law_brackets with | .cons _ (.cons _ (.cons _ (.cons (.for_ _ _ b) _))) => b | _ => .nil)) (dnL (m + 1)) [.lent l, .dat (.int 10), .dat x3, .dat (wd w), .dat (.int h), s5, s6] =
          .nx [.lent l', .dat (.int 10), .dat x3, .dat (wd w'), .dat (.int 0), s5', s6'] := by
      intro sg h' lq e0 e1 e2 e3 e4 e5
      obtain ⟨w', l', s5', s6', f1, f2, f3, f4⟩ := ih h' (w ++ [sg]) lq (.dat (.int ((m + 1 : Nat) : Int))) (.dat (.int sg)) x3 e2 e3 (by
        omega) e4 (by rw [List.length_append]; simp; omega) (.inr ⟨_, rfl⟩) (.inr ⟨_, rfl⟩)
      refine ⟨w', l', s5', s6', f1, f2, by rw [f3, List.length_append]; simp; omega, ?_⟩
      rw [dnL_succ, z_l2]
      have ea : asg (.nm 5) (.int ((m + 1 : Nat) : Int)) [.lent l, .dat (.int 10), .dat x3, .dat (wd w), .dat (.int h), s5, s6] = some [.lent l, .dat (.int 10), .dat x3, .dat (wd w), .dat (.int h), .dat (.int ((m + 1 : Nat) : Int)), s6] := by
        rcases h5 with rfl | ⟨d, rfl⟩ <;> simp_arith [if_true]
      rw [ea, z_l2a, e5, z_l2b, f4]
    by_cases hz : h = 0
    · subst hz
      refine turn 0 1 l (.inl rfl) (by omega) (.op hp) (by omega) hl ?_
      rcases h6 with rfl | ⟨d, rfl⟩ <;> simp_arith [TL.b__law_brackets, List.map_append, wd, List.length_map, lim, Int.natCast_zero, Int.natCast_one]
    have nz : ¬ ((h : Nat) : Int) = 0 := by omega
    have push : PoolOk l := hl
    by_cases hlt : h < m + 1
    · have hlt' : ((h : Nat) : Int) < ((m + 1 : Nat) : Int) := by omega
      obtain ⟨r, l1, a1, a2, a3, a4⟩ := p_draw' hA hl (m := 5) (by omega) (by omega) (n := c) hc
      by_cases hr : r < 3
      · have e : ((h : Nat) : Int) + 1 - 0 = ((h + 1 : Nat) : Int) := by omega
        refine turn 0 (h + 1) l1 (.inl rfl) (by omega) (.op hp) (by omega) a1 ?_
        rcases h6 with rfl | ⟨d, rfl⟩ <;> simp_arith [TL.b__law_brackets, List.map_append, wd, List.length_map, lim, nz, hlt', hA.draw, a4, hr, e]
      · obtain ⟨h0, rfl⟩ : ∃ h0, h = h0 + 1 := ⟨h - 1, by omega⟩
        refine turn 1 h0 l1 (.inr rfl) (by omega) (.sh hp) (by omega) a1 ?_
        have e : ((h0 + 1 : Nat) : Int) + 1 - 2 = (h0 : Int) := by omega
        rcases h6 with rfl | ⟨d, rfl⟩ <;> simp_arith [TL.b__law_brackets, List.map_append, wd, List.length_map, lim, nz, hlt', hA.draw, a4, hr, e]
    · obtain ⟨h0, rfl⟩ : ∃ h0, h = h0 + 1 := ⟨h - 1, by omega⟩
      have hlt' : ¬ ((h0 + 1 : Nat) : Int) < ((m + 1 : Nat) : Int) := by omega
      refine turn 1 h0 l (.inr rfl) (by omega) (.sh hp) (by omega) hl ?_
      have e : ((h0 + 1 : Nat) : Int) + 1 - 2 = (h0 : Int) := by omega
      rcases h6 with rfl | ⟨d, rfl⟩ <;> simp_arith [TL.b__law_brackets, List.map_append, wd, List.length_map, lim, nz, hlt', e]
theorem p_brackets (hA : HA G) {l : List D} (hl : PoolOk l) {n : Nat} (hn : 3 ≤ n) : ∃ w l', Pre 0 w ∧ w.length ≤ 20 ∧ PoolOk l' ∧ callF G n (Str.ofString "_law_brackets") [.len l, .dat (.int 10)] = .ok (.dat (wd w)) [.len l', .dat (.int 10)] := by
  obtain ⟨c, rfl⟩ : ∃ c, n = c + 1 := ⟨n - 1, by omega⟩
  rw [callF_s hA.brackets rfl]
  obtain ⟨r, l1, a1, a2, a3, a4⟩ := p_draw' hA hl (m := 11) (by omega) (by omega) (n := c) (by omega)
  obtain ⟨w, l2, s5, s6, b1, b2, b3, b4⟩ := brk_loop hA c (by omega) (2 * r).toNat 0 [] l1 .no .no (.int r) .nil (by omega) (by omega) a1 (by simp; omega) (.inl rfl) (.inl rfl)
  refine ⟨w, l2, b1, by rw [b3]; simp; omega, b2, ?_⟩
  have hb : (2 * r).natAbs < 1152921504606846976 := by omega
  simp only [TL.b__law_brackets, wd, List.map_nil, Int.natCast_zero] at b4
  simp_arith [TL.f__law_brackets, TL.b__law_brackets, hA.draw, a4, hb, b4, wd]
theorem rngL_cat (lo : Int) (n : Nat) : rngL lo (n + 1) = rngL lo n ++ [.int (lo + n)] := by
  unfold rngL
  rw [List.range_succ, List.map_append]; rfl
theorem rngL_cons (lo : Int) (n : Nat) : rngL lo (n + 1) = .int lo :: rngL (lo + 1) n := by
  unfold rngL
  rw [List.range_succ_eq_map, List.map_cons, List.map_map]
  congr 1
  · show D.int (lo + 0) = _; congr 1; omega
  · refine List.map_congr_left fun k _ => ?_
    show D.int (lo + ((k + 1 : Nat) : Int)) = D.int (lo + 1 + (k : Int))
    congr 1; omega
end DI
end
section
set_option maxRecDepth 100000
set_option linter.all false
set_option Elab.async false
set_option maxHeartbeats 4000000
/-! PA7: all brackets of a size. -/
namespace DI
open PySem
variable {G : Gm}
def zer (w : List Int) : Nat := (w.filter (fun i => decide (i = 0))).length
theorem Pre.zer : ∀ {h : Nat} {w : List Int}, Pre h w → 2 * DI.zer w = w.length + h
  | _, _, .nil => rfl
  | _, _, .op (w := w) p => by have := p.zer; unfold DI.zer at *; rw [List.filter_append, List.length_append, List.length_append]; simp; omega
  | _, _, .sh (w := w) p => by have := p.zer; unfold DI.zer at *; rw [List.filter_append, List.length_append, List.length_append]; simp; omega
theorem Pre.bits : ∀ {h : Nat} {w : List Int}, Pre h w → ∀ i ∈ w, i = 0 ∨ i = 1
  | _, _, .nil, i, hi => nomatch hi
  | _, _, .op p, i, hi => by
    rcases List.mem_append.mp hi with hi | hi
    · exact p.bits i hi
    · exact .inl (List.mem_singleton.mp hi)
  | _, _, .sh p, i, hi => by
    rcases List.mem_append.mp hi with hi | hi
    · exact p.bits i hi
    · exact .inr (List.mem_singleton.mp hi)
def isZ : D → Bool | .int i => decide (i = 0) | _ => false
theorem filt_len : ∀ w : List Int, (((w.map D.int).filter isZ).map id).length = zer w
  | [] => rfl
  | i :: r => by
    have ih := filt_len r
    unfold zer at ih ⊢
    by_cases h : i = 0
    · rw [List.map_cons, List.filter_cons_of_pos (by simp [isZ, h]), List.filter_cons_of_pos (by simp [h])]; simp at ih ⊢; omega
    · rw [List.map_cons, List.filter_cons_of_neg (by simp [isZ, h]), List.filter_cons_of_neg (by simp [h])]; exact ih
/-- a word on its way -/
def GoodW (m k : Nat) (w : List Int) : Prop := ∃ h, Pre h w ∧ w.length = k ∧ h + k ≤ m
abbrev allB : MSs := match TL.b__law_all with | .cons _ (.cons (.for_ _ _ (.cons _ (.cons (.for_ _ _ b) _))) _) => b | _ => .nil
abbrev allB2 : MSs := match TL.b__law_all with | .cons _ (.cons (.for_ _ _ b) _) => b | _ => .nil
theorem all_in (c many k : Nat) (hk : k < 2 * many) (hm : many ≤ 4) : ∀ (ws : List (List Int)) (acc : List D) (lv : Sl) (s4 s5 : Sl), (∀ w ∈ ws, GoodW (2 * many) k w) → (∀ x ∈ acc, ∃ w, x = wd w ∧ GoodW (2 * many) (k + 1) w) → acc.length + 2 * ws.length ≤ 600 →
    (s4 = .no ∨ ∃ d, s4 = .dat d) → (s5 = .no ∨ ∃ d, s5 = .dat d) →
    ∃ acc' s4' s5', (∀ x ∈ acc', ∃ w, x = wd w ∧ GoodW (2 * many) (k + 1) w) ∧ acc'.length ≤ acc.length + 2 * ws.length ∧ (s4' = .no ∨ ∃ d, s4' = .dat d) ∧ (s5' = .no ∨ ∃ d, s5' = .dat d) ∧
      forL (.nm 4) (exs G (callF G c) allB) (ws.map wd) [.dat (.int many), lv, .dat (.int k), .own acc, s4, s5, .no] = .nx [.dat (.int many), lv, .dat (.int k), .own acc', s4', s5', .no] := by
  intro ws
  induction ws with
  | nil => exact fun acc lv s4 s5 _ ha _ h4 h5 => ⟨acc, s4, s5, ha, by simp, h4, h5, rfl⟩
  | cons w ws ih =>
    intro acc lv s4 s5 hw ha hl h4 h5
    rw [List.length_cons] at hl
    obtain ⟨h, hp, hwl, hh⟩ := hw w List.mem_cons_self
    have hz := hp.zer
    have lc : ∀ (a5 : Sl), kLc G (callF G c) (.var 6) (.nm 6) (.one (.cmp .eq (.var 6) (.int 0))) [6] (w.map D.int) [.dat (.int many), lv, .dat (.int k), .own acc, .dat (wd w), a5, .no] =
        .ok (.new (((w.map D.int).filter isZ).map id)) [.dat (.int many), lv, .dat (.int k), .own acc, .dat (wd w), a5, .no] := by
      intro a5
      rw [kLc_pure isZ id (by rfl) ?_ (by simp; unfold LIM; omega)]
      · simp_arith [if_true]
      · intro d hd
        obtain ⟨i, _, rfl⟩ := List.mem_map.mp hd
        exact ⟨_, by simp_arith [if_true]; rfl, by simp_arith [if_true], by simp_arith [if_true]; rfl, fun _ => by simp_arith [if_true]; rfl⟩
    have hgt : (((w.map D.int).filter isZ).length : Int) * 2 - (w.length : Int) = (h : Int) := by
      have e := filt_len w
      rw [List.length_map] at e
      rw [e]; omega
    have wl : w.length + 1 ≤ LIM := by unfold LIM; omega
    have al : ∀ n : Nat, n ≤ 600 → n < 1000000 := fun n h => by omega
    have g0 : ∀ w', GoodW (2 * many) (k + 1) w' → ∀ x ∈ acc ++ [wd w'], ∃ w, x = wd w ∧ GoodW (2 * many) (k + 1) w := by
      intro w' hw' x hx
      rcases List.mem_append.mp hx with hx | hx
      · exact ha x hx
      · exact ⟨w', List.mem_singleton.mp hx, hw'⟩
    have step : ∀ acc1, (∀ x ∈ acc1, ∃ w, x = wd w ∧ GoodW (2 * many) (k + 1) w) → acc1.length ≤ acc.length + 2 →
        exs G (callF G c) allB [.dat (.int many), lv, .dat (.int k), .own acc, .dat (wd w), s5, .no] = .nx [.dat (.int many), lv, .dat (.int k), .own acc1, .dat (wd w), .dat (.int h), .no] →
        ∃ acc' s4' s5', (∀ x ∈ acc', ∃ w, x = wd w ∧ GoodW (2 * many) (k + 1) w) ∧ acc'.length ≤ acc.length + 2 * (ws.length + 1) ∧ (s4' = .no ∨ ∃ d, s4' = .dat d) ∧ (s5' = .no ∨ ∃ d, s5' = .dat d) ∧
          forL (.nm 4) (exs G (callF G c) allB) ((w :: ws).map wd) [.dat (.int many), lv, .dat (.int k), .own acc, s4, s5, .no] = .nx [.dat (.int many), lv, .dat (.int k), .own acc', s4', s5', .no] := by
      intro acc1 g1 g2 g3
      obtain ⟨acc', s4', s5', f1, f2, f3, f4, f5⟩ := ih acc1 lv (.dat (wd w)) (.dat (.int h)) (fun w hw' => hw w (List.mem_cons_of_mem _ hw')) g1 (by omega) (.inr ⟨_, rfl⟩) (.inr ⟨_, rfl⟩)
      refine ⟨acc', s4', s5', f1, by omega, f3, f4, ?_⟩
      rw [List.map_cons, z_l2]
      have ea : asg (.nm 4) (wd w) [.dat (.int many), lv, .dat (.int k), .own acc, s4, s5, .no] = some [.dat (.int many), lv, .dat (.int k), .own acc, .dat (wd w), s5, .no] := by
        rcases h4 with rfl | ⟨d, rfl⟩ <;> simp_arith [if_true]
      rw [ea, z_l2a, g3, z_l2b, f5]
    have hb1 : decide ((h : Int) + 1 ≤ 2 * (many : Int) - (k : Int) - 1) = decide (h + 1 + (k + 1) ≤ 2 * many) := by
      by_cases q : h + 1 + (k + 1) ≤ 2 * many
      · rw [decide_eq_true q, decide_eq_true (by omega)]
      · rw [decide_eq_false q, decide_eq_false (by omega)]
    have hb2 : decide ((0 : Int) < (h : Int)) = decide (0 < h) := by
      by_cases q : 0 < h
      · rw [decide_eq_true q, decide_eq_true (by omega)]
      · rw [decide_eq_false q, decide_eq_false (by omega)]
    have wde : wd w = .tup (w.map D.int) := rfl
    have c0 : wd (w ++ [0]) = .tup (w.map D.int ++ [.int 0]) := wd_add
    have c1 : wd (w ++ [1]) = .tup (w.map D.int ++ [.int 1]) := wd_add
    have gw0 : h + 1 + (k + 1) ≤ 2 * many → GoodW (2 * many) (k + 1) (w ++ [0]) := fun q => ⟨h + 1, .op hp, by rw [List.length_append, hwl]; rfl, q⟩
    have gw1 : 0 < h → GoodW (2 * many) (k + 1) (w ++ [1]) := fun q => by
      obtain ⟨h0, rfl⟩ : ∃ h0, h = h0 + 1 := ⟨h - 1, by omega⟩
      exact ⟨h0, .sh hp, by rw [List.length_append, hwl]; rfl, by omega⟩
    have lcs := lc s5
    rw [wde] at lcs
    have la0 : acc.length < 1000000 := by omega
    have la1 : ∀ x, (acc ++ [x]).length < 1000000 := fun x => by rw [List.length_append]; simp; omega
    rw [List.length_cons]
    by_cases q1 : h + 1 + (k + 1) ≤ 2 * many
    · by_cases q2 : 0 < h
      · refine step (acc ++ [wd (w ++ [0])] ++ [wd (w ++ [1])]) ?_ (by simp) ?_
        · intro x hx
          rcases List.mem_append.mp hx with hx | hx
          · exact g0 _ (gw0 q1) x hx
          · exact ⟨_, List.mem_singleton.mp hx, gw1 q2⟩
        · rcases h5 with rfl | ⟨d, rfl⟩ <;> simp_arith [allB, TL.b__law_all, wde, lcs, hgt, hb1, hb2, q1, q2, c0, c1, List.length_map, wl, la0, la1]
      · refine step (acc ++ [wd (w ++ [0])]) (g0 _ (gw0 q1)) (by simp) ?_
        rcases h5 with rfl | ⟨d, rfl⟩ <;> simp_arith [allB, TL.b__law_all, wde, lcs, hgt, hb1, hb2, q1, q2, c0, c1, List.length_map, wl, la0, la1]
    · by_cases q2 : 0 < h
      · refine step (acc ++ [wd (w ++ [1])]) (g0 _ (gw1 q2)) (by simp) ?_
        rcases h5 with rfl | ⟨d, rfl⟩ <;> simp_arith [allB, TL.b__law_all, wde, lcs, hgt, hb1, hb2, q1, q2, c0, c1, List.length_map, wl, la0, la1]
      · refine step acc ha (by omega) ?_
        rcases h5 with rfl | ⟨d, rfl⟩ <;> simp_arith [allB, TL.b__law_all, wde, lcs, hgt, hb1, hb2, q1, q2, c0, c1, List.length_map, wl, la0, la1]
theorem all_out (c many : Nat) (hm : many ≤ 4) : ∀ (m k : Nat) (ws : List (List Int)) (s2 s3 s4 s5 : Sl), k + m = 2 * many → (∀ w ∈ ws, GoodW (2 * many) k w) → ws.length ≤ 2 ^ k →
    (s2 = .no ∨ ∃ d, s2 = .dat d) → (s3 = .no ∨ ∃ d, s3 = .dat d) → (s4 = .no ∨ ∃ d, s4 = .dat d) → (s5 = .no ∨ ∃ d, s5 = .dat d) →
    ∃ (ws' : List (List Int)) (s2' s3' s4' s5' : Sl), (∀ w ∈ ws', GoodW (2 * many) (2 * many) w) ∧ ws'.length ≤ 2 ^ (2 * many) ∧
      forL (.nm 2) (exs G (callF G c) allB2) (rngL (k : Int) m) [.dat (.int many), .dat (.lst (ws.map wd)), s2, s3, s4, s5, .no] = .nx [.dat (.int many), .dat (.lst (ws'.map wd)), s2', s3', s4', s5', .no] := by
  intro m
  induction m with
  | zero =>
    intro k ws s2 s3 s4 s5 hk hw hl h2 h3 h4 h5
    obtain rfl : k = 2 * many := by omega
    exact ⟨ws, s2, s3, s4, s5, hw, hl, rfl⟩
  | succ m ih =>
    intro k ws s2 s3 s4 s5 hk hw hl h2 h3 h4 h5
    have hp : 2 ^ k ≤ 2 ^ 7 := Nat.pow_le_pow_right (by omega) (by omega)
    obtain ⟨acc', s4', s5', a1, a2, a3, a4, a5⟩ := all_in (G := G) c many k (by omega) hm ws [] (.dat (.lst (ws.map wd))) s4 s5 hw (fun x hx => nomatch hx) (by simp; omega) h4 h5
    have hv : ∀ l : List D, (∀ x ∈ l, ∃ w, x = wd w ∧ GoodW (2 * many) (k + 1) w) → ∃ vs : List (List Int), l = vs.map wd ∧ ∀ w ∈ vs, GoodW (2 * many) (k + 1) w := by
      intro l
      induction l with
      | nil => exact fun _ => ⟨[], rfl, fun w hw => nomatch hw⟩
      | cons x r ihr =>
        intro h
        obtain ⟨w, e, g⟩ := h x List.mem_cons_self
        obtain ⟨vs, e2, g2⟩ := ihr fun y hy => h y (List.mem_cons_of_mem _ hy)
        exact ⟨w :: vs, by rw [e, e2]; rfl, fun v hv => by
          rcases List.mem_cons.mp hv with rfl | hv
          · exact g
          · exact g2 v hv⟩
    obtain ⟨vs, e, g⟩ := hv acc' a1
    have vl : vs.length ≤ 2 ^ (k + 1) := by
      rw [e, List.length_map, List.length_nil] at a2
      rw [Nat.pow_succ]; omega
    obtain ⟨ws', s2', s3', s4'', s5'', b1, b2, b3⟩ := ih (k + 1) vs (.dat (.int k)) (.dat (.lst (vs.map wd))) s4' s5' (by omega) g vl (.inr ⟨_, rfl⟩) (.inr ⟨_, rfl⟩) a3 a4
    refine ⟨ws', s2', s3', s4'', s5'', b1, b2, ?_⟩
    rw [rngL_cons, z_l2]
    have ea : asg (.nm 2) (.int (k : Int)) [.dat (.int many), .dat (.lst (ws.map wd)), s2, s3, s4, s5, .no] = some [.dat (.int many), .dat (.lst (ws.map wd)), .dat (.int k), s3, s4, s5, .no] := by
      rcases h2 with rfl | ⟨d, rfl⟩ <;> simp_arith [if_true]
    have eb : exs G (callF G c) allB2 [.dat (.int many), .dat (.lst (ws.map wd)), .dat (.int k), s3, s4, s5, .no] = .nx [.dat (.int many), .dat (.lst (vs.map wd)), .dat (.int k), .dat (.lst (vs.map wd)), s4', s5', .no] := by
      simp only [allB, TL.b__law_all] at a5
      rw [e] at a5
      rcases h3 with rfl | ⟨d, rfl⟩ <;> simp_arith [allB2, TL.b__law_all, a5]
    rw [ea, z_l2a, eb, z_l2b]
    exact b3
theorem alike_ints : ∀ (a b : List Int), PySem.W.alikeAll (toPys (a.map D.int)) (toPys (b.map D.int)) = true
  | [], b => by rw [List.map_nil, toPys]; cases b <;> rfl
  | i :: a, [] => by rw [List.map_nil, List.map_cons, toPys, toPys]; rfl
  | i :: a, j :: b => by
    rw [List.map_cons, List.map_cons, toPys, toPys]
    show (PySem.W.alike (toPy (.int i)) (toPy (.int j)) && PySem.W.alikeAll (toPys (a.map D.int)) (toPys (b.map D.int))) = true
    rw [alike_ints a b]; rfl
theorem sort_words {ws : List (List Int)} (h : ws.length ≤ 1 ∨ ∀ w ∈ ws, w ≠ []) (hl : ws.length ≤ 100000) : sortOk (ws.map wd) = true := by
  unfold sortOk
  rw [Bool.and_eq_true, Bool.and_eq_true, Bool.and_eq_true]
  refine ⟨⟨⟨?_, ?_⟩, ?_⟩, decide_eq_true (by rw [List.length_map]; unfold LIM; omega)⟩
  · rw [List.all_eq_true]; intro x hx
    rw [List.all_eq_true]; intro y hy
    obtain ⟨a, _, rfl⟩ := List.mem_map.mp hx
    obtain ⟨b, _, rfl⟩ := List.mem_map.mp hy
    unfold wd
    rw [toPy, toPy]
    exact alike_ints a b
  · rw [Bool.or_eq_true, Bool.or_eq_true]
    rcases h with h | h
    · refine .inr ?_
      rw [Bool.and_eq_true, decide_eq_true_eq, List.length_map, List.all_eq_true]
      exact ⟨h, fun x hx => by obtain ⟨a, _, rfl⟩ := List.mem_map.mp hx; rfl⟩
    · refine .inl (.inl ?_)
      rw [List.all_eq_true]
      intro x hx
      obtain ⟨a, ha, rfl⟩ := List.mem_map.mp hx
      cases a with
      | nil => exact absurd rfl (h _ ha)
      | cons i r => rfl
  · rw [List.all_eq_true]
    intro x hx
    obtain ⟨a, _, rfl⟩ := List.mem_map.mp hx
    refine decide_eq_true ?_
    unfold wd
    rw [toPy]
    have : PyData.depthAll (toPys (a.map D.int)) ≤ 0 := depth_all fun y hy => by
      obtain ⟨i, _, rfl⟩ := List.mem_map.mp hy
      rw [toPy]; exact Nat.le_refl _
    show PyData.depthAll _ + 1 ≤ 60
    omega
theorem p_all (hA : HA G) {many : Nat} (hm : many ≤ 4) {n : Nat} (hn : 1 ≤ n) : ∃ ws : List (List Int), (∀ w ∈ ws, Pre 0 w ∧ w.length ≤ 20) ∧ ws.length ≤ 1000 ∧ callF G n (Str.ofString "_law_all") [.dat (.int many)] = .ok (.len (ws.map wd)) [.dat (.int many)] := by
  obtain ⟨c, rfl⟩ : ∃ c, n = c + 1 := ⟨n - 1, by omega⟩
  rw [callF_s hA.all_ rfl]
  obtain ⟨ws, s2, s3, s4, s5, a1, a2, a3⟩ := all_out (G := G) c many hm (2 * many) 0 [[]] .no .no .no .no (by omega) (fun w hw => by
    obtain rfl := List.mem_singleton.mp hw
    exact ⟨0, .nil, rfl, by omega⟩) (by simp) (.inl rfl) (.inl rfl) (.inl rfl) (.inl rfl)
  have hp : 2 ^ (2 * many) ≤ 2 ^ 8 := Nat.pow_le_pow_right (by omega) (by omega)
  have gw : ∀ w ∈ ws, Pre 0 w ∧ w.length = 2 * many := fun w hw => by
    obtain ⟨h, p1, p2, p3⟩ := a1 w hw
    obtain rfl : h = 0 := by omega
    exact ⟨p1, p2⟩
  have so : sortOk (ws.map wd) = true := sort_words (by
    by_cases z : many = 0
    · subst z; exact .inl (by simpa using a2)
    · refine .inr fun w hw e => ?_
      have := (gw w hw).2
      rw [e] at this
      simp at this; omega) (by omega)
  have sd : ∃ vs : List (List Int), sortD (ws.map wd) = vs.map wd ∧ vs.length = ws.length ∧ ∀ v ∈ vs, v ∈ ws := by
    have perm := List.mergeSort_perm (ws.map wd) (PySem.W.dataLe false toPy)
    have mem : ∀ x ∈ sortD (ws.map wd), ∃ w ∈ ws, wd w = x := fun x hx => List.mem_map.mp (perm.mem_iff.mp hx)
    have go : ∀ l : List D, (∀ x ∈ l, ∃ w ∈ ws, wd w = x) → ∃ vs : List (List Int), l = vs.map wd ∧ ∀ v ∈ vs, v ∈ ws := by
      intro l
      induction l with
      | nil => exact fun _ => ⟨[], rfl, fun v hv => nomatch hv⟩
      | cons x r ih =>
        intro h
        obtain ⟨w, hw, e⟩ := h x List.mem_cons_self
        obtain ⟨vs, e2, g⟩ := ih fun y hy => h y (List.mem_cons_of_mem _ hy)
        exact ⟨w :: vs, by rw [← e, e2]; rfl, fun v hv => by
          rcases List.mem_cons.mp hv with rfl | hv
          · exact hw
          · exact g v hv⟩
    obtain ⟨vs, e, g⟩ := go _ mem
    refine ⟨vs, e, ?_, g⟩
    have := perm.length_eq
    have e' : (ws.map wd).mergeSort (PySem.W.dataLe false toPy) = vs.map wd := e
    rw [e', List.length_map, List.length_map] at this
    exact this
  obtain ⟨vs, e, vl, g⟩ := sd
  refine ⟨vs, fun v hv => ⟨(gw v (g v hv)).1, by have := (gw v (g v hv)).2; omega⟩, by omega, ?_⟩
  have hb : (2 * (many : Int)).natAbs < 1152921504606846976 := by omega
  have ht : (2 * (many : Int)).toNat = 2 * many := by omega
  have hs : bltR .sorted (.lst (ws.map wd)) = some (.new (vs.map wd)) := by
    show (if sortOk (ws.map wd) = true then some (Res.new (sortD (ws.map wd))) else none) = _
    rw [if_pos so, e]
  have w0 : ([[]] : List (List Int)).map wd = [.tup []] := rfl
  simp only [allB2, TL.b__law_all, w0, Int.natCast_zero] at a3
  simp_arith [TL.f__law_all, TL.b__law_all, hb, ht, a3, hs]
end DI
end
section
set_option maxRecDepth 100000
set_option linter.all false
set_option Elab.async false
set_option maxHeartbeats 4000000
/-! PA8: the registry; a shape carried along one step. -/
namespace DI
open PySem
variable {G : Gm}
/-- a step of one law: the families, the functions -/
structure HS (G : Gm) (a b ff fs : Str) : Prop where
  tbF : ∃ tb F, G.dic (Str.ofString "FAULTS") = some tb ∧ dGet tb (.str a) = some (some ff) ∧ G.fn ff = some F
  tbS : ∃ tb F, G.dic (Str.ofString "STEPS") = some tb ∧ dGet tb (.tup [.str a, .str b]) = some (some fs) ∧ G.fn fs = some F
variable {a b ff fs : Str}
theorem p_must (hA : HA G) (hS : HS G a b ff fs) {n : Nat} (hn : 1 ≤ n) : callF G n (Str.ofString "must_be_family") [.dat (.str a)] = .ok (.dat .non) [.dat (.str a)] := by
  obtain ⟨c, rfl⟩ : ∃ c, n = c + 1 := ⟨n - 1, by omega⟩
  obtain ⟨tb, F, e1, e2, e3⟩ := hS.tbF
  rw [callF_s hA.must rfl]
  simp_arith [TL.f_must_be_family, TL.b_must_be_family, e1, e2, Option.isSome_some, bne_self_eq_false]
theorem p_fault (hA : HA G) (hS : HS G a b ff fs) {n : Nat} {v r : D} {q : List Ag} (h : callF G n ff [.dat v] = .ok (.dat r) q) (hq : ∃ g, q = [g]) (hn : 1 ≤ n) : callF G (n + 1) (Str.ofString "fault_registry") [.dat (.str a), .dat v] = .ok (.dat r) [.dat (.str a), .dat v] := by
  obtain ⟨g, rfl⟩ := hq
  obtain ⟨tb, F, e1, e2, e3⟩ := hS.tbF
  rw [callF_s hA.fault rfl]
  simp_arith [TL.f_fault_registry, TL.b_fault_registry, e1, e2, e3, hA.must, p_must hA hS hn, h]
theorem p_check_ok (hA : HA G) (hS : HS G a b ff fs) {n : Nat} {v : D} {q : List Ag} (h : callF G n ff [.dat v] = .ok (.dat .non) q) (hq : ∃ g, q = [g]) (hn : 1 ≤ n) : callF G (n + 2) (Str.ofString "check") [.dat (.str a), .dat v] = .ok (.dat .non) [.dat (.str a), .dat v] := by
  rw [callF_s hA.check rfl]
  simp_arith [TL.f_check, TL.b_check, hA.fault, p_fault hA hS h hq hn]
theorem p_check_bad (hA : HA G) (hS : HS G a b ff fs) {n : Nat} {v x y : D} {q : List Ag} (h : callF G n ff [.dat v] = .ok (.dat (.tup [x, y])) q) (hq : ∃ g, q = [g]) (hn : 1 ≤ n) : callF G (n + 2) (Str.ofString "check") [.dat (.str a), .dat v] = .ex (Str.ofString "BadShape") [x, y] := by
  have i0 : L2.atI [x, y] 0 = some x := rfl
  have i1 : L2.atI [x, y] 1 = some y := rfl
  rw [callF_s hA.check rfl]
  simp_arith [TL.f_check, TL.b_check, hA.fault, p_fault hA hS h hq hn, i0, i1, hA.bad]
theorem cut2 (x y : D) : cutD [x, y] (some 0) (some 2) = [x, y] := rfl
theorem rng1 : rngL 0 1 = [.int 0] := rfl
theorem p_road (hA : HA G) (hS : HS G a b ff fs) (c : CF) (v : D) (s2 : Sl) : kLc G c (.din (Str.ofString "STEPS") (.slB (.var 0) (.var 3) (.bin .add (.var 3) (.int 2)))) (.nm 3) .yes [3] [.int 0] [.dat (.tup [.str a, .str b]), .dat v, s2, .no] =
    .ok (.new [.bl true]) [.dat (.tup [.str a, .str b]), .dat v, s2, .no] := by
  obtain ⟨tb, F, e1, e2, e3⟩ := hS.tbS
  rw [kLc_pure (fun _ => true) (fun _ => .bl true) (by rfl) ?_ (by unfold LIM; simp)]
  · simp_arith [filt_yes]
  · intro d hd
    obtain rfl := List.mem_singleton.mp hd
    have z : (false != true) = true := rfl
    exact ⟨_, by simp_arith [if_true]; rfl, by simp_arith [if_true], z_m9, fun _ => by simp_arith [cut2, e1, e2, Option.isSome_some, z]⟩
theorem p_carried_bad (hA : HA G) (hS : HS G a b ff fs) {n : Nat} {v x y : D} {q : List Ag} (h : callF G n ff [.dat v] = .ok (.dat (.tup [x, y])) q) (hq : ∃ g, q = [g]) (hn : 1 ≤ n) :
    callF G (n + 3) (Str.ofString "carried") [.dat (.tup [.str a, .str b]), .dat v] = .ex (Str.ofString "BadShape") [x, y] := by
  have i0 : L2.atI [D.str a, .str b] 0 = some (.str a) := rfl
  have hb : boolsD [.bl true] = some [true] := rfl
  rw [callF_s hA.carried rfl]
  simp_arith [TL.f_carried, TL.b_carried, rng1, p_road hA hS, z_v45 hb, List.all_cons, List.all_nil, id, i0, hA.must, p_must hA hS (n := n + 2) (by omega), hA.check, p_check_bad hA hS h hq hn]
theorem p_carried_ok (hA : HA G) (hS : HS G a b ff fs) {n : Nat} {v : D} {q q2 : List Ag} {r : Ag} (h : callF G n ff [.dat v] = .ok (.dat .non) q) (hq : ∃ g, q = [g]) (hn : 1 ≤ n) (h2 : callF G (n + 2) fs [.dat v] = .ok r q2) (hq2 : ∃ g, q2 = [g]) :
    callF G (n + 3) (Str.ofString "carried") [.dat (.tup [.str a, .str b]), .dat v] = .ok (.len [v, agD r]) [.dat (.tup [.str a, .str b]), .dat v] := by
  obtain ⟨g, rfl⟩ := hq2
  obtain ⟨tb, F, e1, e2, e3⟩ := hS.tbS
  have i0 : L2.atI [D.str a, .str b] 0 = some (.str a) := rfl
  have i1 : L2.atI [v] (-1) = some v := rfl
  have hb : boolsD [.bl true] = some [true] := rfl
  rw [callF_s hA.carried rfl]
  simp_arith [TL.f_carried, TL.b_carried, rng1, p_road hA hS, z_v45 hb, List.all_cons, List.all_nil, id, i0, i1, hA.must, p_must hA hS (n := n + 2) (by omega), hA.check, p_check_ok hA hS h hq hn, cut2, e1, e2, e3, h2, z_g1]
end DI
end
section
set_option maxRecDepth 100000
set_option linter.all false
set_option Elab.async false
set_option maxHeartbeats 4000000
/-! PB1: first faults; rows by places. -/
namespace DI
open PySem
variable {G : Gm}
theorem rng_fm (n : Nat) (p : Nat → Bool) (f : Nat → D) (p' : D → Bool) (f' : D → D) (hp : ∀ k, k < n → p' (.int ((0 : Int) + (k : Nat))) = p k) (hf : ∀ k, k < n → f' (.int ((0 : Int) + (k : Nat))) = f k) :
    ((rngL 0 n).filter p').map f' = (((List.range n).filter p).map f) := by
  have go : ∀ l : List Nat, (∀ k ∈ l, k < n) → ((l.map fun (k : Nat) => D.int (0 + (k : Int))).filter p').map f' = (l.filter p).map f := by
    intro l
    induction l with
    | nil => exact fun _ => rfl
    | cons k r ih =>
      intro h
      have hk := h k List.mem_cons_self
      have ih := ih fun x hx => h x (List.mem_cons_of_mem _ hx)
      rw [List.map_cons]
      by_cases q : p k = true
      · rw [List.filter_cons_of_pos (by rw [hp k hk]; exact q), List.filter_cons_of_pos q, List.map_cons, List.map_cons, ih, hf k hk]
      · rw [List.filter_cons_of_neg (by rw [hp k hk]; exact q), List.filter_cons_of_neg q, ih]
  exact go _ fun k hk => List.mem_range.mp hk
section
variable {c : CF} {ρ : Ro}
theorem kLc_rng {elt : ME} {t : Tg} {q : MC} {own : List Nat} {n : Nat} (p : Nat → Bool) (f : Nat → D) (ho : (own.all fun i => (cellAt ρ i).isNone) = true) (hw : wipeR ρ own = ρ) (hu : unwipe ρ ρ own = ρ)
    (h : ∀ k, k < n → ∃ ρ1, asg t (.int (k : Int)) ρ = some ρ1 ∧ wipeR ρ1 own = ρ ∧ evC G c q ρ1 = .ok (p k) ρ1 ∧ (p k = true → eD G c elt ρ1 = .ok (f k) ρ1)) (hl : n ≤ LIM) :
    kLc G c elt t q own (rngL 0 n) ρ = .ok (.new (((List.range n).filter p).map f)) ρ := by
  rw [kLc_pure (fun d => match d with | .int k => p k.toNat | _ => false) (fun d => match d with | .int k => f k.toNat | _ => .non) ho ?_ (by rw [rngL_len]; exact hl)]
  · rw [hw, hu, rng_fm n p f _ _ (fun k _ => by show p (0 + (k : Int)).toNat = p k; congr 1; omega) (fun k _ => by show f (0 + (k : Int)).toNat = f k; congr 1; omega)]
  · intro d hd
    obtain ⟨k, hk, rfl⟩ := mem_rngL hd
    have e : (0 : Int) + (k : Int) = (k : Int) := by omega
    rw [e, hw]
    exact h k hk
theorem kLc_map {elt : ME} {t : Tg} {q : MC} {own : List Nat} {ds : List D} (p : D → Bool) (f : D → D) (ho : (own.all fun i => (cellAt ρ i).isNone) = true) (hw : wipeR ρ own = ρ) (hu : unwipe ρ ρ own = ρ)
    (h : ∀ d ∈ ds, ∃ ρ1, asg t d ρ = some ρ1 ∧ wipeR ρ1 own = ρ ∧ evC G c q ρ1 = .ok (p d) ρ1 ∧ (p d = true → eD G c elt ρ1 = .ok (f d) ρ1)) (hl : ds.length ≤ LIM) :
    kLc G c elt t q own ds ρ = .ok (.new ((ds.filter p).map f)) ρ := by
  rw [kLc_pure p f ho (by rw [hw]; exact h) hl, hw, hu]
end
/-! ### first faults -/
def firstT (n : Nat) (p : Nat → Bool) : D := match (List.range n).find? p with | some k => .int (k : Int) | none => .non
theorem firstT_congr {n : Nat} {p q : Nat → Bool} (h : ∀ k, k < n → p k = q k) : firstT n p = firstT n q := by
  unfold firstT
  have : (List.range n).find? p = (List.range n).find? q := by
    have go : ∀ l : List Nat, (∀ k ∈ l, k < n) → l.find? p = l.find? q := by
      intro l
      induction l with
      | nil => exact fun _ => rfl
      | cons a r ih =>
        intro hh
        rw [List.find?_cons, List.find?_cons, h a (hh a List.mem_cons_self), ih fun k hk => hh k (List.mem_cons_of_mem _ hk)]
    exact go _ fun k hk => List.mem_range.mp hk
  rw [this]
theorem firstT_non {n : Nat} {p : Nat → Bool} (h : ∀ k, k < n → p k = false) : firstT n p = .non := by
  unfold firstT
  rw [List.find?_eq_none.mpr fun k hk => by rw [h k (List.mem_range.mp hk)]; decide]
theorem firstT_ok {n : Nat} {p : Nat → Bool} : okD 0 (firstT n p) = true := by
  unfold firstT; split <;> rfl
structure HF (G : Gm) : Prop where
  first_true : G.fn (Str.ofString "first_true") = some TL.f_first_true
  fault_at : G.fn (Str.ofString "fault_at") = some TL.f_fault_at
  first_of : G.fn (Str.ofString "first_of") = some TL.f_first_of
  least : G.fn (Str.ofString "_law_least") = some TL.f__law_least
  first : G.fn (Str.ofString "_law_first") = some TL.f__law_first
/-- flags given by places -/
theorem p_first_true (h : HF G) (m : Nat) (p : Nat → Bool) (hm : m ≤ 100000) {n : Nat} (hn : 1 ≤ n) :
    callF G n (Str.ofString "first_true") [.dat (.lst ((List.range m).map fun (k : Nat) => D.bl (p k)))] = .ok (.dat (firstT m p)) [.dat (.lst ((List.range m).map fun (k : Nat) => D.bl (p k)))] := by
  obtain ⟨c, rfl⟩ : ∃ c, n = c + 1 := ⟨n - 1, by omega⟩
  obtain ⟨L, hL⟩ : ∃ L : List D, L = (List.range m).map fun (k : Nat) => D.bl (p k) := ⟨_, rfl⟩
  have ll : L.length = m := by rw [hL]; simp
  have lg : ∀ k, k < m → L2.atI L (k : Int) = some (.bl (p k)) := fun k hk => L2.atI_nat (by rw [hL, List.getElem?_map, List.getElem?_range hk]; rfl)
  rw [← hL, callF_s h.first_true rfl]
  have loop : ∀ (j k : Nat) (s : Sl), k + j = m → (s = .no ∨ ∃ d, s = .dat d) → forL (.nm 1) (exs G (callF G c) (.cons (.ifs (.idx (.var 0) (.var 1)) (.cons (.ret (.var 1)) .nil) .nil) .nil)) (rngL (k : Int) j) [.dat (.lst L), s] =
      match (List.range' k j).find? p with | some i => .rt (.dat (.int (i : Int))) [.dat (.lst L), .dat (.int (i : Int))] | none => .nx [.dat (.lst L), (if j = 0 then s else .dat (.int ((m : Int) - 1)))] := by
    intro j
    induction j with
    | zero => intro k s _ _; rfl
    | succ j ih =>
      intro k s hk hs
      rw [rngL_cons, List.range'_succ, List.find?_cons]
      have lk := lg k (by omega)
      cases hp : p k with
      | true =>
        rw [hp] at lk
        rcases hs with rfl | ⟨d, rfl⟩ <;> simp_arith [lk]
      | false =>
        rw [hp] at lk
        have ih := ih (k + 1) (.dat (.int k)) (by omega) (.inr ⟨_, rfl⟩)
        have e : ((k + 1 : Nat) : Int) = (k : Int) + 1 := by omega
        rw [e] at ih
        have last : (if j = 0 then Sl.dat (.int (k : Int)) else .dat (.int ((m : Int) - 1))) = .dat (.int ((m : Int) - 1)) := by
          by_cases z : j = 0
          · rw [if_pos z]; have : (k : Int) = (m : Int) - 1 := by omega
            rw [this]
          · rw [if_neg z]
        rw [last] at ih
        rcases hs with rfl | ⟨d, rfl⟩ <;> simp_arith [lk, ih] <;> rfl
  have lp := loop m 0 .no (by omega) (.inl rfl)
  rw [← List.range_eq_range'] at lp
  have hb : ((L.length : Int)).natAbs < 1152921504606846976 := by omega
  have ht : ((L.length : Int)).toNat = m := by omega
  simp only [Int.natCast_zero] at lp
  unfold firstT
  cases q : (List.range m).find? p with
  | some k =>
    rw [q] at lp
    simp_arith [TL.f_first_true, TL.b_first_true, hb, ht, lp]
  | none =>
    rw [q] at lp
    simp_arith [TL.f_first_true, TL.b_first_true, hb, ht, lp]
def faultAt (x : Str) (d : D) : D := if isNonD d = true then .non else .tup [.str x, d]
theorem p_fault_at (h : HF G) (x : Str) (d : D) {n : Nat} (hn : 1 ≤ n) : callF G n (Str.ofString "fault_at") [.dat (.str x), .dat d] = .ok (.dat (faultAt x d)) [.dat (.str x), .dat d] := by
  obtain ⟨c, rfl⟩ : ∃ c, n = c + 1 := ⟨n - 1, by omega⟩
  rw [callF_s h.fault_at rfl]
  unfold faultAt
  cases q : isNonD d <;> simp_arith [TL.f_fault_at, TL.b_fault_at, q]
def firstP : List (Str × D) → D
  | [] => .non
  | (x, d) :: r => if isNonD d = true then firstP r else .tup [.str x, d]
theorem firstP_kind : ∀ ps : List (Str × D), firstP ps = .non ∨ ∃ x d, firstP ps = .tup [.str x, d]
  | [] => .inl rfl
  | (x, d) :: r => by
    unfold firstP
    cases isNonD d with
    | true => exact firstP_kind r
    | false => exact .inr ⟨x, d, rfl⟩
theorem firstP_ok : ∀ {ps : List (Str × D)}, (∀ q ∈ ps, okS q.1 = true ∧ okD 0 q.2 = true) → okD 1 (firstP ps) = true
  | [], _ => rfl
  | (x, d) :: r, h => by
    unfold firstP
    cases isNonD d with
    | true => exact firstP_ok fun q hq => h q (List.mem_cons_of_mem _ hq)
    | false =>
      obtain ⟨h1, h2⟩ := h (x, d) List.mem_cons_self
      refine okD_tup (by simp [NR]) fun y hy => ?_
      simp only [List.mem_cons, List.not_mem_nil, or_false] at hy
      rcases hy with rfl | rfl
      · exact okD_str h1
      · exact h2
theorem firstP_none : ∀ {ps : List (Str × D)}, (∀ q ∈ ps, q.2 = .non) → firstP ps = .non
  | [], _ => rfl
  | (x, d) :: r, h => by
    have e := h (x, d) List.mem_cons_self
    dsimp only at e
    subst e
    show firstP r = .non
    exact firstP_none fun q hq => h q (List.mem_cons_of_mem _ hq)
theorem p_first_of (h : HF G) (ps : List (Str × D)) {n : Nat} (hn : 1 ≤ n) : ∃ g, callF G n (Str.ofString "first_of") [.dat (.lst (ps.map fun q => faultAt q.1 q.2))] = .ok (.dat (firstP ps)) [g] := by
  obtain ⟨c, rfl⟩ : ∃ c, n = c + 1 := ⟨n - 1, by omega⟩
  rw [callF_s h.first_of rfl]
  obtain ⟨L, hL⟩ : ∃ L : List D, L = ps.map fun q => faultAt q.1 q.2 := ⟨_, rfl⟩
  have loop : ∀ (qs : List (Str × D)) (s : Sl), (s = .no ∨ ∃ d, s = .dat d) → ∃ s', forL (.nm 1) (exs G (callF G c) (.cons (.ifs (.notN (.var 1)) (.cons (.ret (.var 1)) .nil) .nil) .nil)) (qs.map fun q => faultAt q.1 q.2) [.dat (.lst L), s] =
      if isNonD (firstP qs) = true then .nx [.dat (.lst L), s'] else .rt (.dat (firstP qs)) [.dat (.lst L), s'] := by
    intro qs
    induction qs with
    | nil => exact fun s _ => ⟨s, rfl⟩
    | cons q r ih =>
      intro s hs
      obtain ⟨x, d⟩ := q
      obtain ⟨s', e⟩ := ih (.dat .non) (.inr ⟨_, rfl⟩)
      rw [List.map_cons]
      unfold firstP faultAt
      dsimp only
      cases q : isNonD d with
      | true => refine ⟨s', ?_⟩; rcases hs with rfl | ⟨d', rfl⟩ <;> simp_arith [if_true] <;> exact e
      | false => refine ⟨.dat (.tup [.str x, d]), ?_⟩; rcases hs with rfl | ⟨d', rfl⟩ <;> simp_arith [if_true]
  obtain ⟨s', e⟩ := loop ps .no (.inl rfl)
  rw [← hL] at e ⊢
  refine ⟨.dat (.lst L), ?_⟩
  rcases firstP_kind ps with k | ⟨x, d, k⟩
  · rw [k] at e ⊢; simp_arith [TL.f_first_of, TL.b_first_of, e]
  · rw [k] at e ⊢; simp_arith [TL.f_first_of, TL.b_first_of, e]
theorem p_first (h : HF G) (ps : List (Str × D)) {n : Nat} (hn : 1 ≤ n) : ∃ g, callF G n (Str.ofString "_law_first") [.dat (.lst (ps.map fun q => .tup [.str q.1, q.2]))] = .ok (.dat (firstP ps)) [g] := by
  obtain ⟨c, rfl⟩ : ∃ c, n = c + 1 := ⟨n - 1, by omega⟩
  rw [callF_s h.first rfl]
  obtain ⟨L, hL⟩ : ∃ L : List D, L = ps.map fun q => .tup [.str q.1, q.2] := ⟨_, rfl⟩
  have loop : ∀ (qs : List (Str × D)) (s : Sl), (s = .no ∨ ∃ d, s = .dat d) → ∃ s', forL (.nm 1) (exs G (callF G c) (.cons (.ifs (.notN (.idx (.var 1) (.int 1))) (.cons (.ret (.var 1)) .nil) .nil) .nil)) (qs.map fun q => .tup [.str q.1, q.2]) [.dat (.lst L), s] =
      if isNonD (firstP qs) = true then .nx [.dat (.lst L), s'] else .rt (.dat (firstP qs)) [.dat (.lst L), s'] := by
    intro qs
    induction qs with
    | nil => exact fun s _ => ⟨s, rfl⟩
    | cons q r ih =>
      intro s hs
      obtain ⟨x, d⟩ := q
      have i1 : L2.atI [D.str x, d] 1 = some d := rfl
      obtain ⟨s', e⟩ := ih (.dat (.tup [.str x, d])) (.inr ⟨_, rfl⟩)
      rw [List.map_cons]
      unfold firstP
      dsimp only
      cases q : isNonD d with
      | true => refine ⟨s', ?_⟩; rcases hs with rfl | ⟨d', rfl⟩ <;> simp_arith [i1, q] <;> exact e
      | false => refine ⟨.dat (.tup [.str x, d]), ?_⟩; rcases hs with rfl | ⟨d', rfl⟩ <;> simp_arith [i1, q]
  obtain ⟨s', e⟩ := loop ps .no (.inl rfl)
  rw [← hL] at e ⊢
  refine ⟨.dat (.lst L), ?_⟩
  rcases firstP_kind ps with k | ⟨x, d, k⟩
  · rw [k] at e ⊢; simp_arith [TL.f__law_first, TL.b__law_first, e]
  · rw [k] at e ⊢; simp_arith [TL.f__law_first, TL.b__law_first, e]
theorem intsD_map : ∀ l : List Int, intsD (l.map D.int) = some l
  | [] => rfl
  | i :: r => by rw [List.map_cons, intsD, intsD_map r]; rfl
theorem foldl_min_of_le {l : List Int} {a : Int} (h : ∀ x ∈ l, a ≤ x) : l.foldl min a = a := by
  induction l with
  | nil => rfl
  | cons x r ih =>
    rw [List.foldl_cons, show min a x = a by have := h x List.mem_cons_self; omega]
    exact ih fun y hy => h y (List.mem_cons_of_mem _ hy)
theorem least_find (m : Nat) (p : Nat → Bool) : minI ((((List.range m).filter p)).map fun (k : Nat) => (k : Int)) = ((List.range m).find? p).map fun (k : Nat) => (k : Int) := by
  have go : ∀ (j k : Nat), minI ((((List.range' k j).filter p)).map fun (k : Nat) => (k : Int)) = ((List.range' k j).find? p).map fun (k : Nat) => (k : Int) := by
    intro j
    induction j with
    | zero => intro k; rfl
    | succ j ih =>
      intro k
      rw [List.range'_succ, List.find?_cons]
      cases hp : p k with
      | true =>
        rw [List.filter_cons_of_pos hp, List.map_cons]
        show some _ = some _
        rw [foldl_min_of_le]
        intro x hx
        obtain ⟨y, hy, rfl⟩ := List.mem_map.mp hx
        have := List.mem_range'.mp (List.mem_filter.mp hy).1
        omega
      | false =>
        rw [List.filter_cons_of_neg (by rw [hp]; decide)]
        exact ih (k + 1)
  rw [List.range_eq_range']
  exact go m 0
theorem p_least (h : HF G) (m : Nat) (p : Nat → Bool) (hm : m ≤ 5000) {n : Nat} (hn : 1 ≤ n) : ∃ g, callF G n (Str.ofString "_law_least") [.dat (.lst (((List.range m).filter p).map fun (k : Nat) => D.int (k : Int)))] = .ok (.dat (firstT m p)) [g] := by
  obtain ⟨c, rfl⟩ : ∃ c, n = c + 1 := ⟨n - 1, by omega⟩
  rw [callF_s h.least rfl]
  have lf := least_find m p
  have len : ((List.range m).filter p).length ≤ 5000 := Nat.le_trans (List.length_filter_le _ _) (by simpa using hm)
  obtain ⟨L, hL⟩ : ∃ L : List Int, L = ((List.range m).filter p).map fun (k : Nat) => (k : Int) := ⟨_, rfl⟩
  have eL : (((List.range m).filter p).map fun (k : Nat) => D.int (k : Int)) = L.map D.int := by rw [hL, List.map_map]; rfl
  have ll : L.length ≤ 5000 := by rw [hL]; simpa using len
  rw [eL]
  rw [← hL] at lf
  refine ⟨.dat (.lst (L.map D.int)), ?_⟩
  have ok1 : okD 1 (.lst (L.map D.int)) = true := okD_lst (by simp; unfold NR; omega) fun x hx => by obtain ⟨i, _, rfl⟩ := List.mem_map.mp hx; rfl
  have e := eqD_ok (k := 1) ok1 (show okD 1 (.lst []) = true from rfl) (by decide)
  unfold firstT
  cases q : (List.range m).find? p with
  | none =>
    rw [q] at lf
    cases L with
    | nil =>
      have e2 : eqD (.lst []) (.lst []) = some true := e.trans (by rw [List.map_nil, toPy, toPys]; rfl)
      simp_arith [TL.f__law_least, TL.b__law_least, e2]
    | cons a r => cases lf
  | some k =>
    rw [q] at lf
    cases L with
    | nil => cases lf
    | cons a r =>
      have e2 : eqD (.lst (.int a :: r.map D.int)) (.lst []) = some false := by
        have : PyData.eqv (toPy (.lst (.int a :: r.map D.int))) (toPy (.lst [])) = false := by
          rw [toPy, toPys, toPy]; rfl
        rw [List.map_cons] at e
        rw [e, this]
      have e3 : bltR .min (.lst (.int a :: r.map D.int)) = some (.dat (.int k)) := by
        show ((intsD (.int a :: r.map D.int)).bind fun l => (minI l).map fun i => Res.dat (.int i)) = _
        rw [show D.int a :: r.map D.int = (a :: r).map D.int from rfl, intsD_map]
        show (minI (a :: r)).map (fun i => Res.dat (.int i)) = some (Res.dat (.int k))
        rw [lf]; rfl
      simp_arith [TL.f__law_least, TL.b__law_least, e2, e3]
end DI
end
section
set_option maxRecDepth 100000
set_option linter.all false
set_option Elab.async false
set_option maxHeartbeats 4000000
/-! PB2: heights, opened places, heights there. -/
namespace DI
open PySem
variable {G : Gm}
/-- a number of a row -/
def gt (w : List Int) (k : Nat) : Int := w.getD k 0
theorem gt_at {w : List Int} {k : Nat} (h : k < w.length) : w[k]? = some (gt w k) := by
  unfold gt; rw [List.getD_eq_getElem?_getD, List.getElem?_eq_getElem h]; rfl
theorem atI_gt {w : List Int} {k : Nat} (h : k < w.length) : L2.atI (w.map D.int) (k : Int) = some (.int (gt w k)) :=
  L2.atI_nat (by rw [List.getElem?_map, gt_at h]; rfl)
theorem map_rng {α : Type} (w : List Int) (g : Int → α) : w.map g = (List.range w.length).map fun (k : Nat) => g (gt w k) := by
  refine List.ext_getElem? fun i => ?_
  rw [List.getElem?_map, List.getElem?_map]
  by_cases h : i < w.length
  · rw [gt_at h, List.getElem?_range h]; rfl
  · rw [List.getElem?_eq_none (by omega), List.getElem?_eq_none (by rw [List.length_range]; omega)]; rfl
def hts : Int → List Int → List Int
  | h, [] => [h]
  | h, s :: r => h :: hts (h + 1 - 2 * s) r
theorem hts_len : ∀ (w : List Int) (h : Int), (hts h w).length = w.length + 1
  | [], h => rfl
  | s :: r, h => by rw [hts, List.length_cons, hts_len r, List.length_cons]
theorem hts_zero (w : List Int) (h : Int) : gt (hts h w) 0 = h := by cases w <;> rfl
theorem hts_succ : ∀ (w : List Int) (h : Int) (k : Nat), k < w.length → gt (hts h w) (k + 1) = gt (hts h w) k + 1 - 2 * gt w k
  | [], h, k, hk => by simp at hk
  | s :: r, h, 0, _ => by
    show gt (hts (h + 1 - 2 * s) r) 0 = _
    rw [hts_zero]; rfl
  | s :: r, h, k + 1, hk => by
    show gt (hts (h + 1 - 2 * s) r) (k + 1) = gt (hts (h + 1 - 2 * s) r) k + 1 - 2 * gt r k
    exact hts_succ r _ k (by simpa using hk)
theorem hts_snoc : ∀ (w : List Int) (h s : Int), hts h (w ++ [s]) = hts h w ++ [gt (hts h w) w.length + 1 - 2 * s]
  | [], h, s => rfl
  | x :: r, h, s => by
    show h :: hts (h + 1 - 2 * x) (r ++ [s]) = _
    rw [hts_snoc r]; rfl
theorem gt_app1 {a b : List Int} {k : Nat} (h : k < a.length) : gt (a ++ b) k = gt a k := by
  unfold gt; rw [List.getD_eq_getElem?_getD, List.getD_eq_getElem?_getD, List.getElem?_append_left h]
theorem gt_app2 {a : List Int} {x : Int} : gt (a ++ [x]) a.length = x := by
  unfold gt; rw [List.getD_eq_getElem?_getD]; simp
theorem Pre.hts : ∀ {h : Nat} {w : List Int}, Pre h w → gt (DI.hts 0 w) w.length = h ∧ ∀ k, k ≤ w.length → 0 ≤ gt (DI.hts 0 w) k
  | _, _, .nil => ⟨rfl, fun k hk => by obtain rfl : k = 0 := by simpa using hk
                                       exact Int.le_refl 0⟩
  | _, _, .op (h := h) (w := w) p => by
    obtain ⟨a, b⟩ := p.hts
    have l := hts_len w 0
    rw [hts_snoc, List.length_append, List.length_singleton]
    have e : gt (DI.hts 0 w ++ [gt (DI.hts 0 w) w.length + 1 - 2 * 0]) (w.length + 1) = (h : Int) + 1 := by
      rw [← l, gt_app2, a]; omega
    refine ⟨by rw [e]; omega, fun k hk => ?_⟩
    by_cases q : k ≤ w.length
    · rw [gt_app1 (by omega)]; exact b k q
    · obtain rfl : k = w.length + 1 := by omega
      rw [e]; omega
  | _, _, .sh (h := h) (w := w) p => by
    obtain ⟨a, b⟩ := p.hts
    have l := hts_len w 0
    rw [hts_snoc, List.length_append, List.length_singleton]
    have e : gt (DI.hts 0 w ++ [gt (DI.hts 0 w) w.length + 1 - 2 * 1]) (w.length + 1) = (h : Int) := by
      rw [← l, gt_app2, a]; omega
    refine ⟨by rw [e], fun k hk => ?_⟩
    by_cases q : k ≤ w.length
    · rw [gt_app1 (by omega)]; exact b k q
    · obtain rfl : k = w.length + 1 := by omega
      rw [e]; omega
theorem Pre.bit {h : Nat} {w : List Int} (p : Pre h w) (k : Nat) (hk : k < w.length) : gt w k = 0 ∨ gt w k = 1 :=
  p.bits _ (List.mem_of_getElem? (gt_at hk))
structure HR (G : Gm) : Prop where
  heights : G.fn (Str.ofString "_law_heights") = some TL.f__law_heights
  opens : G.fn (Str.ofString "_law_opens") = some TL.f__law_opens
  slows : G.fn (Str.ofString "_law_slows") = some TL.f__law_slows
theorem p_heights (h : G.fn (Str.ofString "_law_heights") = some TL.f__law_heights) (w : List Int) (hw : w.length ≤ 5000) {n : Nat} (hn : 1 ≤ n) : callF G n (Str.ofString "_law_heights") [.dat (wd w)] = .ok (.len ((hts 0 w).map D.int)) [.dat (wd w)] := by
  obtain ⟨c, rfl⟩ : ∃ c, n = c + 1 := ⟨n - 1, by omega⟩
  rw [callF_s h rfl]
  obtain ⟨W, hW⟩ : ∃ W, W = wd w := ⟨_, rfl⟩
  have loop : ∀ (v : List Int) (x : Int) (acc : List Int) (s : Sl), acc.length + v.length ≤ 100000 → (s = .no ∨ ∃ d, s = .dat d) → ∃ s', forL (.nm 2) (exs G (callF G c) (.cons (.app 1 (.bin .sub (.bin .add (.idx (.var 1) (.neg (.int 1))) (.int 1)) (.bin .mul (.int 2) (.var 2)))) .nil)) (v.map D.int) [.dat W, .own ((acc ++ [x]).map D.int), s] =
      .nx [.dat W, .own ((acc ++ hts x v).map D.int), s'] := by
    intro v
    induction v with
    | nil => exact fun x acc s _ _ => ⟨s, rfl⟩
    | cons i r ih =>
      intro x acc s hl hs
      rw [List.length_cons] at hl
      have lst : L2.atI ((acc ++ [x]).map D.int) (-1) = some (.int x) := by rw [List.map_append]; exact L2.atI_last _ _
      have ln : ((acc ++ [x]).map D.int).length < 1000000 := by rw [List.length_map, List.length_append, List.length_singleton]; omega
      obtain ⟨s', e⟩ := ih (x + 1 - 2 * i) (acc ++ [x]) (.dat (.int i)) (by rw [List.length_append, List.length_singleton]; omega) (.inr ⟨_, rfl⟩)
      refine ⟨s', ?_⟩
      have e2 : (acc ++ [x]).map D.int ++ [.int (x + 1 - 2 * i)] = (acc ++ [x] ++ [x + 1 - 2 * i]).map D.int := by rw [List.map_append (l₁ := acc ++ [x])]; rfl
      have e3 : acc ++ [x] ++ hts (x + 1 - 2 * i) r = acc ++ hts x (i :: r) := by rw [hts]; simp
      rw [e3] at e
      obtain ⟨Q, hQ⟩ : ∃ Q, Q = (acc ++ [x]).map D.int := ⟨_, rfl⟩
      rw [← hQ] at lst ln e2 ⊢
      rcases hs with rfl | ⟨d, rfl⟩ <;> simp_arith [lst, ln, e2, e]
  obtain ⟨s', e⟩ := loop w 0 [] .no (by simp; omega) (.inl rfl)
  simp only [List.nil_append, List.map_cons, List.map_nil] at e
  rw [hW] at e
  simp only [wd] at e
  simp_arith [TL.f__law_heights, TL.b__law_heights, wd, e]
/-- the places of a sign -/
def plc (s : Int) (w : List Int) : List D := ((List.range w.length).filter fun k => decide (gt w k = s)).map fun (k : Nat) => D.int (k : Int)
theorem plc_len {s : Int} {w : List Int} : (plc s w).length ≤ w.length := by
  unfold plc
  rw [List.length_map]
  exact Nat.le_trans (List.length_filter_le _ _) (by simp)
theorem p_opens (h : G.fn (Str.ofString "_law_opens") = some TL.f__law_opens) (w : List Int) (hw : w.length ≤ 5000) {n : Nat} (hn : 1 ≤ n) : callF G n (Str.ofString "_law_opens") [.dat (wd w)] = .ok (.len (plc 0 w)) [.dat (wd w)] := by
  obtain ⟨c, rfl⟩ : ∃ c, n = c + 1 := ⟨n - 1, by omega⟩
  rw [callF_s h rfl]
  have lc : kLc G (callF G c) (.var 1) (.nm 1) (.one (.cmp .eq (.idx (.var 0) (.var 1)) (.int 0))) [1] (rngL 0 w.length) [.dat (.tup (w.map D.int)), .no] = .ok (.new (plc 0 w)) [.dat (.tup (w.map D.int)), .no] := by
    refine kLc_rng (fun k => decide (gt w k = 0)) (fun (k : Nat) => D.int (k : Int)) (by rfl) (by simp_arith [if_true]) (by simp_arith [if_true]) (fun k hk => ?_) (by unfold LIM; omega)
    exact ⟨_, by simp_arith [if_true]; rfl, by simp_arith [if_true], by simp_arith [atI_gt hk], fun _ => by simp_arith [if_true]⟩
  have hb : ((w.length : Int)).natAbs < 1152921504606846976 := by omega
  have ht : ((w.length : Int)).toNat = w.length := by omega
  simp_arith [TL.f__law_opens, TL.b__law_opens, wd, List.length_map, hb, ht, lc]
/-- the numbers of a row at the places of a sign -/
def pick (s : Int) (w v : List Int) : List D := ((List.range w.length).filter fun k => decide (gt w k = s)).map fun (k : Nat) => D.int (gt v k)
theorem p_slows (h : HR G) (w : List Int) (hw : w.length ≤ 5000) {n : Nat} (hn : 2 ≤ n) : callF G n (Str.ofString "_law_slows") [.dat (wd w)] = .ok (.dat (.tup (pick 0 w (hts 0 w)))) [.dat (wd w)] := by
  obtain ⟨c, rfl⟩ : ∃ c, n = c + 1 := ⟨n - 1, by omega⟩
  rw [callF_s h.slows rfl]
  have hh := p_heights h.heights w hw (n := c) (by omega)
  have ho := p_opens h.opens w hw (n := c) (by omega)
  have lc : kLc G (callF G c) (.idx (.call (Str.ofString "_law_heights") (.cons (.var 0) .nil)) (.var 1)) (.nm 1) .yes [1] (plc 0 w) [.dat (wd w), .no] = .ok (.new (pick 0 w (hts 0 w))) [.dat (wd w), .no] := by
    rw [kLc_map (fun _ => true) (fun d => match d with | .int k => .int (gt (hts 0 w) k.toNat) | _ => .non) (by rfl) (by simp_arith [if_true]) (by simp_arith [if_true]) (fun d hd => ?_) (by have := plc_len (s := 0) (w := w); unfold LIM; omega)]
    · rw [filt_yes]; unfold plc pick; rw [List.map_map]; rfl
    · unfold plc at hd
      obtain ⟨k, hk, rfl⟩ := List.mem_map.mp hd
      have hk : k < w.length := List.mem_range.mp (List.mem_filter.mp hk).1
      have hk2 : L2.atI ((hts 0 w).map D.int) (k : Int) = some (.int (gt (hts 0 w) k)) := atI_gt (by rw [hts_len]; omega)
      exact ⟨_, by simp_arith [if_true]; rfl, by simp_arith [if_true], by simp_arith [if_true], fun _ => by simp_arith [h.heights, hh, hk2]; rfl⟩
  simp_arith [TL.f__law_slows, TL.b__law_slows, h.opens, ho, lc]
def whole (d : D) : Bool := tyIs .int d && !tyIs .bool d
theorem whole_ints : ∀ {xs : List D}, xs.all whole = true → ∃ ns : List Int, xs = ns.map D.int
  | [], _ => ⟨[], rfl⟩
  | d :: r, h => by
    rw [List.all_cons, Bool.and_eq_true] at h
    obtain ⟨ns, e⟩ := whole_ints h.2
    have h1 := h.1
    cases d <;> first | exact ⟨_ :: ns, by rw [e]; rfl⟩ | (cases h1; done)
theorem p_is_whole (h : G.fn (Str.ofString "is_whole") = some TL.f_is_whole) (d : D) {n : Nat} (hn : 1 ≤ n) : callF G n (Str.ofString "is_whole") [.dat d] = .ok (.dat (.bl (whole d))) [.dat d] := by
  obtain ⟨c, rfl⟩ : ∃ c, n = c + 1 := ⟨n - 1, by omega⟩
  rw [callF_s h rfl]
  unfold whole
  cases q : tyIs .int d <;> simp_arith [TL.f_is_whole, TL.b_is_whole, q]
theorem p_is_integer' (h : HA G) (d : D) {n : Nat} (hn : 1 ≤ n) : callF G n (Str.ofString "_law_is_integer") [.dat d] = .ok (.dat (.bl (whole d))) [.dat d] := by
  obtain ⟨c, rfl⟩ : ∃ c, n = c + 1 := ⟨n - 1, by omega⟩
  exact p_is_integer h c d
theorem boolsD_map (f : D → Bool) : ∀ xs : List D, boolsD (xs.map fun d => .bl (f d)) = some (xs.map f)
  | [] => rfl
  | x :: r => by rw [List.map_cons, boolsD, boolsD_map f r]; rfl
theorem all_id (f : D → Bool) (xs : List D) : (xs.map f).all id = xs.all f := by rw [List.all_map]; rfl
/-- len([x for x in xs if not f(x)]) > 0 -/
theorem not_all (f : D → Bool) : ∀ xs : List D, decide ((0 : Int) < (((xs.filter fun d => !f d).length : Nat) : Int)) = !xs.all f
  | [] => rfl
  | x :: r => by
    have ih := not_all f r
    rw [List.all_cons]
    cases q : f x with
    | true => rw [List.filter_cons_of_neg (by rw [q]; decide), ih, Bool.true_and]
    | false =>
      rw [List.filter_cons_of_pos (by rw [q]; decide), List.length_cons, Bool.false_and]
      exact decide_eq_true (by omega)
end DI
end
section
set_option maxRecDepth 100000
set_option linter.all false
set_option Elab.async false
set_option maxHeartbeats 4000000
/-! PR: small rows of rows shown as text. -/
namespace DI
open PySem
mutual
def wt : D → Nat
  | .tup xs => 4 + wts xs
  | .lst xs => 4 + wts xs
  | _ => 12
def wts : List D → Nat
  | [] => 0
  | x :: r => (wt x + 2) + wts r
end
mutual
def smI : D → Bool
  | .int i => decide (i.natAbs < 10 ^ 9)
  | .tup xs => smIs xs
  | _ => false
def smIs : List D → Bool
  | [] => true
  | x :: r => smI x && smIs r
end
theorem strOk_app {a b : Str} (ha : PyData.strOk a = true) (hb : PyData.strOk b = true) : PyData.strOk (a ++ b) = true := by
  show (a.cps ++ b.cps).all _ = true
  rw [Array.all_append]
  exact Bool.and_eq_true_iff.mpr ⟨ha, hb⟩
theorem strOk_of (s : String) : PyData.strOk (Str.ofString s) = true := by
  unfold PyData.strOk
  rw [Str.ofString_eq_toList]
  rw [List.all_toArray, List.all_map]
  refine List.all_eq_true.mpr fun c _ => ?_
  refine decide_eq_true ?_
  have h := c.valid
  show c.val.toNat < 0x110000
  unfold UInt32.isValidChar Nat.isValidChar at h
  omega
theorem strOk_join : ∀ ts : List Str, (∀ t ∈ ts, PyData.strOk t = true) → PyData.strOk (Str.join ", " ts) = true
  | [], _ => by decide +kernel
  | [x], h => h x List.mem_cons_self
  | x :: y :: r, h => by
    show PyData.strOk (x ++ ", " ++ Str.join ", " (y :: r)) = true
    exact strOk_app (strOk_app (h x List.mem_cons_self) (strOk_of _)) (strOk_join (y :: r) fun t ht => h t (List.mem_cons_of_mem _ ht))
theorem tupleText_ok {ts : List Str} (h : ∀ t ∈ ts, PyData.strOk t = true) : PyData.strOk (tupleText ts) = true := by
  unfold tupleText
  exact strOk_app (strOk_app (strOk_of _) (strOk_join ts h)) (by split <;> exact strOk_of _)
theorem tupleText_len (ts : List Str) : (tupleText ts).length ≤ 4 + piled ts := by
  unfold tupleText
  rw [strLen_append, strLen_append]
  have e1 : ((("(" : String) : Str)).length = 1 := rfl
  have e3 : (((if ts.length == 1 then ",)" else ")" : String) : Str)).length ≤ 2 := by split <;> decide
  rw [e1]
  by_cases h : ts = []
  · subst h
    have : (Str.join ", " ([] : List Str)).length = 0 := rfl
    omega
  · have := join_length_add ts h
    omega
mutual
theorem shown_ok : ∀ d : D, smI d = true → PyData.strOk (toPy d).shown = true ∧ (toPy d).shown.length ≤ wt d ∧ (toPy d).showable = true
  | .int i, h => by
    rw [toPy, show wt (.int i) = 12 from rfl]
    have h : i.natAbs < 10 ^ 9 := of_decide_eq_true h
    refine ⟨?_, ?_, ?_⟩
    · show PyData.strOk (Str.ofString (toString i)) = true
      exact strOk_of _
    · show (Str.ofString (toString i)).length ≤ 12
      rw [ofString_length]
      have := int_text_length_le10 (a := i) (k := 9) (by decide) h
      omega
    · show decide (i.natAbs.log2 < 1920) = true
      refine decide_eq_true ?_
      have := Nat.log2_le_self i.natAbs
      by_cases h0 : i.natAbs = 0
      · rw [h0]; decide
      · exact (Nat.log2_lt h0).mpr (Nat.lt_of_lt_of_le h (by decide))
  | .tup xs, h => by
    rw [toPy, show wt (.tup xs) = 4 + wts xs from rfl]
    obtain ⟨h1, h2, h3⟩ := showns_ok xs h
    exact ⟨tupleText_ok h1, Nat.le_trans (tupleText_len _) (Nat.add_le_add_left h2 4), h3⟩
  | .non, h => nomatch h
  | .bl _, h => nomatch h
  | .str _, h => nomatch h
  | .lst _, h => nomatch h
theorem showns_ok : ∀ xs : List D, smIs xs = true → (∀ t ∈ PyData.shownAll (toPys xs), PyData.strOk t = true) ∧ piled (PyData.shownAll (toPys xs)) ≤ wts xs ∧ PyData.showableAll (toPys xs) = true
  | [], _ => ⟨(fun t ht => nomatch ht), Nat.le_refl _, rfl⟩
  | x :: r, h => by
    obtain ⟨g1, g2⟩ := Bool.and_eq_true_iff.mp (show (smI x && smIs r) = true from h)
    obtain ⟨a1, a2, a3⟩ := shown_ok x g1
    obtain ⟨b1, b2, b3⟩ := showns_ok r g2
    refine ⟨?_, ?_, ?_⟩
    · intro t ht
      rcases List.mem_cons.mp (show t ∈ (toPy x).shown :: PyData.shownAll (toPys r) from ht) with rfl | ht
      · exact a1
      · exact b1 t ht
    · show piled ((toPy x).shown :: PyData.shownAll (toPys r)) ≤ _
      rw [piled_cons]
      show _ ≤ (wt x + 2) + wts r
      omega
    · show ((toPy x).showable && PyData.showableAll (toPys r)) = true
      rw [a3, b3]; rfl
end
theorem repr_small {k : Nat} {xs : List D} (h : smI (.tup xs) = true) (hw : wt (.tup xs) ≤ 1000000) (hd : okD k (.tup xs) = true) (hk : k ≤ 60) :
    ∃ s : Str, bltR .repr (.tup xs) = some (.dat (.str s)) ∧ cmpD .ne (.str s) (.str s) = some false := by
  obtain ⟨a, b, c⟩ := shown_ok _ h
  have hr : reprOk (.tup xs) = true := by
    unfold reprOk
    rw [c, decide_eq_true (Nat.le_trans (okD_lay hd).2 hk), decide_eq_true (show (toPy (.tup xs)).shown.length ≤ LIM from Nat.le_trans b hw)]
    rfl
  refine ⟨(toPy (.tup xs)).shown, ?_, ?_⟩
  · show (reprD (.tup xs)).map _ = _
    unfold reprD
    rw [if_pos hr]
    rfl
  · rw [z_v16]
    have e : eqD (.str (toPy (.tup xs)).shown) (.str (toPy (.tup xs)).shown) = some true := by
      unfold eqD
      have s : SeqAt.shaped (toPy (.str (toPy (.tup xs)).shown)) = true := by
        unfold SeqAt.shaped
        rw [toPy]
        exact Bool.and_eq_true_iff.mpr ⟨a, decide_eq_true (Nat.zero_le _)⟩
      rw [s, SeqAt.eqv_refl _ (show (toPy (.str (toPy (.tup xs)).shown)).canLay0 = true from a)]
      rfl
    rw [e]; rfl
theorem smIs_map : ∀ ns : List Int, (∀ n ∈ ns, n.natAbs < 10 ^ 9) → smIs (ns.map D.int) = true ∧ wts (ns.map D.int) = 14 * ns.length
  | [], _ => ⟨rfl, rfl⟩
  | n :: r, h => by
    obtain ⟨a, b⟩ := smIs_map r fun m hm => h m (List.mem_cons_of_mem _ hm)
    refine ⟨Bool.and_eq_true_iff.mpr ⟨decide_eq_true (h n List.mem_cons_self), a⟩, ?_⟩
    show (12 + 2) + wts (r.map D.int) = _
    rw [b, List.length_cons]; omega
end DI
end
section
set_option maxRecDepth 100000
set_option linter.all false
set_option Elab.async false
set_option maxHeartbeats 4000000
/-! PL: the law of one step, for every step. -/
namespace DI
open PySem
variable {G : Gm}
def carF (a b : Str) : Fi := ⟨1, 1, .cons (.tryR (.call (Str.ofString "carried") (.cons (.tup (.cons (.str a) (.cons (.str b) .nil))) (.cons (.var 0) .nil))) (Str.ofString "BadShape") 1) .nil⟩
def retF : MSs := .cons (.ret (.bl false)) .nil
def dirB : Option Str → MSs
  | none => .nil
  | some f => .cons (.ifs (.nt (.call (Str.ofString "_law_same") (.cons (.call f (.cons (.var 7) .nil)) (.cons (.var 8) .nil)))) retF .nil) .nil
def lawB1 (eh ed : ME) (dir : Option Str) : MSs :=
  .cons (.par 7 8 eh ed) (.cons (.set 5 (.blt .repr (.var 7))) (.cons (.ifs (.or (.nt (.call (Str.ofString "_law_same") (.cons (.call (Str.ofString "_law_carried") (.cons (.var 7) .nil)) (.cons (.lis (.cons (.var 7) (.cons (.var 8) .nil))) .nil)))) (.cmp .ne (.blt .repr (.var 7)) (.var 5))) retF .nil) (dirB dir)))
def lawB2 (fl : Str) : MSs :=
  .cons (.set 6 (.call fl (.cons (.var 4) .nil))) (.cons (.ifs (.and (.notN (.var 6)) (.nt (.call (Str.ofString "_law_same") (.cons (.call (Str.ofString "_law_carried") (.cons (.var 4) .nil)) (.cons (.var 6) .nil))))) retF .nil) .nil)
def lawB (eh ed : ME) (dir : Option Str) (fl : Str) : MSs :=
  .cons (.own 1 (.call (Str.ofString "_law_pool") (.cons (.var 0) .nil)))
  (.cons (.set 2 (.bin .add (.call (Str.ofString "_law_all") (.cons (.call (Str.ofString "_law_draw") (.cons (.var 1) (.cons (.int 5) .nil))) .nil)) (.lc (.call (Str.ofString "_law_brackets") (.cons (.var 1) (.cons (.int 10) .nil))) (.nm 9) (.rng1 (.int 3)) .yes [9])))
  (.cons (.for_ (.nm 3) (.seq (.var 2)) (lawB1 eh ed dir))
  (.cons (.for_ (.nm 4) (.seq (.slT (.call (Str.ofString "_law_bends") (.cons (.var 1) (.cons (.var 7) .nil))) (.int 14))) (lawB2 fl))
  (.cons (.ret (.bl true)) .nil))))
def lawF (eh ed : ME) (dir : Option Str) (fl : Str) : Fi := ⟨1, 9, lawB eh ed dir fl⟩
/-- what one law is to bring along -/
structure HW (G : Gm) (eh ed : ME) (dir : Option Str) (a b ff fs fl : Str) (he du : List Int → D) (wr : D → D) : Prop where
  law : G.fn (Str.ofString "law") = some (lawF eh ed dir fl)
  car : G.fn (Str.ofString "_law_carried") = some (carF a b)
  dir_ : dir = none ∨ dir = some fs
  flF : ∃ F, G.fn fl = some F
  fsF : ∃ F, G.fn fs = some F
  here : ∀ n, 100 ≤ n → ∀ w, Pre 0 w → w.length ≤ 20 → ∀ s0 s1 s2 s4 s5 s6 s7 s8, asD (ev G (callF G n) eh [s0, s1, s2, .dat (wd w), s4, s5, s6, s7, s8, .no]) = .ok (he w) [s0, s1, s2, .dat (wd w), s4, s5, s6, s7, s8, .no]
  due : ∀ n, 100 ≤ n → ∀ w, Pre 0 w → w.length ≤ 20 → ∀ s0 s1 s2 s4 s5 s6 s7 s8, asD (ev G (callF G n) ed [s0, s1, s2, .dat (wd w), s4, s5, s6, s7, s8, .no]) = .ok (du w) [s0, s1, s2, .dat (wd w), s4, s5, s6, s7, s8, .no]
  row : ∀ w, Pre 0 w → w.length ≤ 20 → ∃ xs, he w = .tup xs ∧ shD 30 (.tup xs) = true ∧ smI (.tup xs) = true ∧ wt (.tup xs) ≤ 1000000
  duo : ∀ w, Pre 0 w → w.length ≤ 20 → okD 40 (du w) = true
  good : ∀ n, 100 ≤ n → ∀ w, Pre 0 w → w.length ≤ 20 → ∃ g, callF G n ff [.dat (he w)] = .ok (.dat .non) [g]
  step : ∀ n, 100 ≤ n → ∀ w, Pre 0 w → w.length ≤ 20 → ∃ g, callF G n fs [.dat (he w)] = .ok (.dat (du w)) [g]
  wro : ∀ d, okD 40 d = true → okD 40 (wr d) = true
  wrk : ∀ d, okD 40 d = true → wr d = .non ∨ ∃ x y, wr d = .tup [x, y]
  tell : ∀ n, 100 ≤ n → ∀ d, okD 40 d = true → ∃ g, callF G n fl [.dat d] = .ok (.dat (wr d)) [g]
  bad : ∀ n, 100 ≤ n → ∀ d, okD 40 d = true → ∀ x y, wr d = .tup [x, y] → ∃ g, callF G n ff [.dat d] = .ok (.dat (.tup [x, y])) [g]
variable {eh ed : ME} {dir : Option Str} {a b ff fs fl : Str} {he du : List Int → D} {wr : D → D}
theorem p_car_bad (hA : HA G) (hS : HS G a b ff fs) (hc : G.fn (Str.ofString "_law_carried") = some (carF a b)) {n : Nat} {v x y : D} {g : Ag} (h : callF G n ff [.dat v] = .ok (.dat (.tup [x, y])) [g]) (hn : 1 ≤ n) :
    callF G (n + 4) (Str.ofString "_law_carried") [.dat v] = .ok (.dat (.tup [x, y])) [.dat v] := by
  rw [callF_s hc rfl]
  simp_arith [carF, hA.carried, p_carried_bad hA hS h ⟨g, rfl⟩ hn]
theorem p_car_ok (hA : HA G) (hS : HS G a b ff fs) (hc : G.fn (Str.ofString "_law_carried") = some (carF a b)) {n : Nat} {v : D} {g g2 : Ag} {r : Ag} (h : callF G n ff [.dat v] = .ok (.dat .non) [g]) (hn : 1 ≤ n) (h2 : callF G (n + 2) fs [.dat v] = .ok r [g2]) :
    callF G (n + 4) (Str.ofString "_law_carried") [.dat v] = .ok (.dat (.lst [v, agD r])) [.dat v] := by
  rw [callF_s hc rfl]
  simp_arith [carF, hA.carried, p_carried_ok hA hS h ⟨g, rfl⟩ hn h2 ⟨g2, rfl⟩, agRes]
def anyS (s : Sl) : Prop := s = .no ∨ ∃ d, s = .dat d
theorem law_one (hA : HA G) (hS : HS G a b ff fs) (hW : HW G eh ed dir a b ff fs fl he du wr) {n : Nat} (hn : 104 ≤ n) {w : List Int} (hp : Pre 0 w) (hw : w.length ≤ 20) (s0 s1 s2 s4 s5 s6 s7 s8 : Sl) (h5 : anyS s5) (h7 : anyS s7) (h8 : anyS s8) :
    ∃ t5 t8, exs G (callF G n) (lawB1 eh ed dir) [s0, s1, s2, .dat (wd w), s4, s5, s6, s7, s8, .no] = .nx [s0, s1, s2, .dat (wd w), s4, .dat t5, s6, .dat (he w), .dat t8, .no] := by
  obtain ⟨m, rfl⟩ : ∃ m, n = m + 4 := ⟨n - 4, by omega⟩
  have e1 := hW.here (m + 4) (by omega) w hp hw s0 s1 s2 s4 s5 s6 s7 s8
  have e2 := hW.due (m + 4) (by omega) w hp hw s0 s1 s2 s4 s5 s6 s7 s8
  obtain ⟨xs, hx, sh, sm, wt'⟩ := hW.row w hp hw
  have okh := shD_ok sh
  obtain ⟨tx, r1, r2⟩ := repr_small sm wt' okh (by omega)
  obtain ⟨g, f1⟩ := hW.good m (by omega) w hp hw
  obtain ⟨g2, f2⟩ := hW.step (m + 2) (by omega) w hp hw
  obtain ⟨g2', f2'⟩ := hW.step (m + 4) (by omega) w hp hw
  have oku := hW.duo w hp hw
  have c1 := p_car_ok hA hS hW.car f1 (by omega) f2
  rw [show agD (.dat (du w)) = du w from rfl] at c1
  rw [hx] at e1 c1 f2' ⊢
  have okl : okD 41 (.lst [.tup xs, du w]) = true := okD_lst (by unfold NR; simp) fun y hy => by
    rcases List.mem_cons.mp hy with rfl | hy
    · exact okD_le (by omega) okh
    · obtain rfl := List.mem_singleton.mp hy; exact oku
  have c2 := p_same hA 41 _ okl (by omega) (m + 4) (by omega)
  have c3 := p_same hA 40 _ oku (by omega) (m + 4) (by omega)
  obtain ⟨F, fsF⟩ := hW.fsF
  rcases h5 with rfl | ⟨d5, rfl⟩ <;> rcases h7 with rfl | ⟨d7, rfl⟩ <;> rcases h8 with rfl | ⟨d8, rfl⟩ <;> rcases hW.dir_ with rfl | rfl <;>
    exact ⟨_, _, by simp_arith [lawB1, dirB, retF, e1, e2, r1, r2, hA.same, hW.car, c1, c2, fsF, f2', agRes, c3]; rfl⟩
theorem law_two (hA : HA G) (hS : HS G a b ff fs) (hW : HW G eh ed dir a b ff fs fl he du wr) {n : Nat} (hn : 104 ≤ n) {d : D} (hd : okD 40 d = true) (s0 s1 s2 s3 s5 s6 s7 s8 : Sl) (h6 : anyS s6) :
    ∃ t6, exs G (callF G n) (lawB2 fl) [s0, s1, s2, s3, .dat d, s5, s6, s7, s8, .no] = .nx [s0, s1, s2, s3, .dat d, s5, .dat t6, s7, s8, .no] := by
  obtain ⟨m, rfl⟩ : ∃ m, n = m + 4 := ⟨n - 4, by omega⟩
  obtain ⟨g, a1⟩ := hW.tell (m + 4) (by omega) d hd
  obtain ⟨F, flF⟩ := hW.flF
  have o := hW.wro d hd
  refine ⟨wr d, ?_⟩
  rcases hW.wrk d hd with e | ⟨x, y, e⟩
  · rw [e] at a1 ⊢
    rcases h6 with rfl | ⟨d6, rfl⟩ <;> simp_arith [lawB2, retF, flF, a1]
  · obtain ⟨g', b1⟩ := hW.bad m (by omega) d hd x y e
    rw [e] at a1 o ⊢
    have c1 := p_car_bad hA hS hW.car b1 (by omega)
    have c2 := p_same hA 40 _ o (by omega) (m + 4) (by omega)
    rcases h6 with rfl | ⟨d6, rfl⟩ <;> simp_arith [lawB2, retF, flF, a1, hA.same, hW.car, c1, c2]
def GoodV (w : List Int) : Prop := Pre 0 w ∧ w.length ≤ 20
theorem law_ones (hA : HA G) (hS : HS G a b ff fs) (hW : HW G eh ed dir a b ff fs fl he du wr) {n : Nat} (hn : 104 ≤ n) (s0 s1 s2 s4 s6 : Sl) : ∀ (ws : List (List Int)) (s3 s5 s7 s8 : Sl), (∀ w ∈ ws, GoodV w) → anyS s3 → anyS s5 → anyS s7 → anyS s8 → (ws = [] → ∃ w, GoodV w ∧ s7 = .dat (he w)) →
    ∃ w t3 t5 t8, GoodV w ∧ anyS t3 ∧ anyS t5 ∧ anyS t8 ∧ forL (.nm 3) (exs G (callF G n) (lawB1 eh ed dir)) (ws.map wd) [s0, s1, s2, s3, s4, s5, s6, s7, s8, .no] = .nx [s0, s1, s2, t3, s4, t5, s6, .dat (he w), t8, .no] := by
  intro ws
  induction ws with
  | nil =>
    intro s3 s5 s7 s8 _ h3 h5 h7 h8 h
    obtain ⟨w, hw, rfl⟩ := h rfl
    exact ⟨w, s3, s5, s8, hw, h3, h5, h8, rfl⟩
  | cons w ws ih =>
    intro s3 s5 s7 s8 hg h3 h5 h7 h8 _
    have gw := hg w List.mem_cons_self
    obtain ⟨t5, t8, k⟩ := law_one hA hS hW hn gw.1 gw.2 s0 s1 s2 s4 s5 s6 s7 s8 h5 h7 h8
    obtain ⟨w', u3, u5, u8, g1, g2, g3, g4, g5⟩ := ih (.dat (wd w)) (.dat t5) (.dat (he w)) (.dat t8) (fun x hx => hg x (List.mem_cons_of_mem _ hx)) (.inr ⟨_, rfl⟩) (.inr ⟨_, rfl⟩) (.inr ⟨_, rfl⟩) (.inr ⟨_, rfl⟩) (fun _ => ⟨w, gw, rfl⟩)
    refine ⟨w', u3, u5, u8, g1, g2, g3, g4, ?_⟩
    have ea : asg (.nm 3) (wd w) [s0, s1, s2, s3, s4, s5, s6, s7, s8, .no] = some [s0, s1, s2, .dat (wd w), s4, s5, s6, s7, s8, .no] := by
      rcases h3 with rfl | ⟨d3, rfl⟩ <;> simp_arith [if_true]
    rw [List.map_cons, z_l2, ea, z_l2a, k, z_l2b, g5]
theorem law_twos (hA : HA G) (hS : HS G a b ff fs) (hW : HW G eh ed dir a b ff fs fl he du wr) {n : Nat} (hn : 104 ≤ n) (s0 s1 s2 s3 s5 s7 s8 : Sl) : ∀ (ds : List D) (s4 s6 : Sl), (∀ d ∈ ds, okD 40 d = true) → anyS s4 → anyS s6 →
    ∃ t4 t6, forL (.nm 4) (exs G (callF G n) (lawB2 fl)) ds [s0, s1, s2, s3, s4, s5, s6, s7, s8, .no] = .nx [s0, s1, s2, s3, t4, s5, t6, s7, s8, .no] := by
  intro ds
  induction ds with
  | nil => exact fun s4 s6 _ _ _ => ⟨s4, s6, rfl⟩
  | cons d ds ih =>
    intro s4 s6 hd h4 h6
    obtain ⟨t6, k⟩ := law_two hA hS hW hn (hd d List.mem_cons_self) s0 s1 s2 s3 s5 s6 s7 s8 h6
    obtain ⟨u4, u6, g⟩ := ih (.dat d) (.dat t6) (fun x hx => hd x (List.mem_cons_of_mem _ hx)) (.inr ⟨_, rfl⟩) (.inr ⟨_, rfl⟩)
    refine ⟨u4, u6, ?_⟩
    have ea : asg (.nm 4) d [s0, s1, s2, s3, s4, s5, s6, s7, s8, .no] = some [s0, s1, s2, s3, .dat d, s5, s6, s7, s8, .no] := by
      rcases h4 with rfl | ⟨d3, rfl⟩ <;> simp_arith [if_true]
    rw [z_l2, ea, z_l2a, k, z_l2b, g]
theorem rng3' : rngL 0 3 = [.int 0, .int 1, .int 2] := rfl
/-- the law of one step -/
theorem law_main (hA : HA G) (hS : HS G a b ff fs) (hW : HW G eh ed dir a b ff fs fl he du wr) {n : Nat} (hn : 105 ≤ n) (ns : List Int) :
    callF G n (Str.ofString "law") [.dat (.lst (ns.map D.int))] = .ok (.dat (.bl true)) [.dat (.lst (ns.map D.int))] := by
  obtain ⟨c, rfl⟩ : ∃ c, n = c + 1 := ⟨n - 1, by omega⟩
  obtain ⟨l0, p0, a0⟩ := p_pool hA ns (n := c) (by omega)
  obtain ⟨r, l1, p1, r0, r5, a1⟩ := p_draw' hA p0 (m := 5) (by omega) (by omega) (n := c) (by omega)
  obtain ⟨m, rfl⟩ : ∃ m : Nat, r = m := ⟨r.toNat, by omega⟩
  obtain ⟨ws, w1, w2, a2⟩ := p_all hA (many := m) (by omega) (n := c) (by omega)
  obtain ⟨x1, l2, v1, v2, p2, a3⟩ := p_brackets hA p1 (n := c) (by omega)
  obtain ⟨x2, l3, v3, v4, p3, a4⟩ := p_brackets hA p2 (n := c) (by omega)
  obtain ⟨x3, l4, v5, v6, p4, a5⟩ := p_brackets hA p3 (n := c) (by omega)
  have lc : kLc G (callF G c) (.call (Str.ofString "_law_brackets") (.cons (.var 1) (.cons (.int 10) .nil))) (.nm 9) .yes [9] (rngL 0 3) [.dat (.lst (ns.map D.int)), .own l1, .no, .no, .no, .no, .no, .no, .no, .no] =
      .ok (.new [wd x1, wd x2, wd x3]) [.dat (.lst (ns.map D.int)), .own l4, .no, .no, .no, .no, .no, .no, .no, .no] := by
    have L0 : 0 < LIM := by unfold LIM; omega
    have L1 : 0 + 1 < LIM := by unfold LIM; omega
    have L2 : 0 + 1 + 1 < LIM := by unfold LIM; omega
    have L3 : 1 < LIM := by unfold LIM; omega
    have L4 : 2 < LIM := by unfold LIM; omega
    unfold kLc
    rw [if_pos (by rfl), rng3']
    simp_arith [lcL, eD, hA.brackets, a3, a4, a5, agRes, L0, L1, L2, L3, L4, noEx, kLc2]
  have gv : ∀ w ∈ ws ++ [x1, x2, x3], GoodV w := by
    intro w hw
    rcases List.mem_append.mp hw with hw | hw
    · exact w1 w hw
    · simp only [List.mem_cons, List.not_mem_nil, or_false] at hw
      rcases hw with rfl | rfl | rfl
      · exact ⟨v1, v2⟩
      · exact ⟨v3, v4⟩
      · exact ⟨v5, v6⟩
  have em : (ws ++ [x1, x2, x3]).map wd = ws.map wd ++ [wd x1, wd x2, wd x3] := by rw [List.map_append]; rfl
  have lim : (ws.map wd).length + 3 ≤ LIM := by rw [List.length_map]; unfold LIM; omega
  obtain ⟨w, t3, t5, t8, g1, g3, g5, g8, g⟩ := law_ones hA hS hW (n := c) (by omega) (.dat (.lst (ns.map D.int))) (.own l4) (.dat (.lst (ws.map wd ++ [wd x1, wd x2, wd x3]))) .no .no (ws ++ [x1, x2, x3]) .no .no .no .no gv (.inl rfl) (.inl rfl) (.inl rfl) (.inl rfl) (fun z => by simp at z)
  rw [em] at g
  obtain ⟨xs, hx, sh, _, _⟩ := hW.row w g1.1 g1.2
  obtain ⟨bs, l5, p5, b1, b2⟩ := p_bends hA 30 xs sh l4 p4 c (by omega)
  obtain ⟨t4, t6, q⟩ := law_twos hA hS hW (n := c) (by omega) (.dat (.lst (ns.map D.int))) (.own l5) (.dat (.lst (ws.map wd ++ [wd x1, wd x2, wd x3]))) t3 t5 (.dat (he w)) t8 (cutD bs none (some 14)) .no .no (fun d hd => okD_le (by omega) (b2 d (cut_mem hd))) (.inl rfl) (.inl rfl)
  rw [hx] at g q
  rw [callF_s hW.law rfl]
  simp_arith [lawF, lawB, hA.pool, a0, agRes, hA.draw, a1, hA.all_, a2, lc, lim, g, hA.bends, b1, q]
theorem hts_abs : ∀ (w : List Int) (h : Int), (∀ i ∈ w, i = 0 ∨ i = 1) → ∀ n ∈ hts h w, n.natAbs ≤ h.natAbs + w.length
  | [], h, _, n, hn => by
    obtain rfl := List.mem_singleton.mp hn
    simp
  | s :: w, h, hb, n, hn => by
    rcases List.mem_cons.mp (show n ∈ h :: hts (h + 1 - 2 * s) w from hn) with rfl | hn
    · omega
    · have := hts_abs w (h + 1 - 2 * s) (fun i hi => hb i (List.mem_cons_of_mem _ hi)) n hn
      rw [List.length_cons]
      rcases hb s List.mem_cons_self with rfl | rfl <;> omega
theorem hts_sm {w : List Int} (p : Pre 0 w) (hw : w.length ≤ 20) : ∀ n ∈ hts 0 w, n.natAbs < 10 ^ 9 := fun n hn => by
  have := hts_abs w 0 p.bits n hn
  have e : (10 : Nat) ^ 9 = 1000000000 := rfl
  omega
theorem pick_len {s : Int} {w v : List Int} : (pick s w v).length ≤ w.length := by
  unfold pick
  rw [List.length_map]
  exact Nat.le_trans (List.length_filter_le _ _) (by rw [List.length_range]; omega)
end DI
end
section
set_option maxRecDepth 100000
set_option linter.all false
set_option Elab.async false
set_option maxHeartbeats 4000000
/-! PB43: rows of small numbers, told twice; stairs. -/
namespace DI
open PySem
variable {G : Gm}
structure HRx (G : Gm) : Prop where
  whole : G.fn (Str.ofString "is_whole") = some TL.f_is_whole
  from_ : G.fn (Str.ofString "is_from") = some TL.f_is_from
  row : G.fn (Str.ofString "is_row") = some TL.f_is_row
  lrow : G.fn (Str.ofString "_law_is_row") = some TL.f__law_is_row
  most : G.con (Str.ofString "MOST") = some (.int 1000)
  form : G.con (Str.ofString "FORM") = some (.tup [.str (Str.ofString "form"), .int 0])
structure HRw (G : Gm) : Prop extends HRx G where
  lsmall : G.fn (Str.ofString "_law_small_row") = some TL.f__law_small_row
def small : D → Bool | .int i => decide (0 ≤ i) && decide (i ≤ 1000) | _ => false
def rowB : D → Bool | .tup xs => decide (xs.length ≤ 1000) && xs.all small | _ => false
theorem p_is_from (h : HRx G) (d : D) {n : Nat} (hn : 2 ≤ n) : callF G n (Str.ofString "is_from") [.dat d, .dat (.int 0), .dat (.int 1000)] = .ok (.dat (.bl (small d))) [.dat d, .dat (.int 0), .dat (.int 1000)] := by
  obtain ⟨c, rfl⟩ : ∃ c, n = c + 1 := ⟨n - 1, by omega⟩
  have w := p_is_whole h.whole d (n := c) (by omega)
  rw [callF_s h.from_ rfl]
  cases d with
  | int i =>
    have w : callF G c (Str.ofString "is_whole") [.dat (.int i)] = .ok (.dat (.bl true)) [.dat (.int i)] := w
    cases q : decide (0 ≤ i) <;> simp_arith [TL.f_is_from, TL.b_is_from, h.whole, w, small, q]
  | bl b =>
    have w : callF G c (Str.ofString "is_whole") [.dat (.bl b)] = .ok (.dat (.bl false)) [.dat (.bl b)] := w
    simp_arith [TL.f_is_from, TL.b_is_from, h.whole, w, small]
  | non =>
    have w : callF G c (Str.ofString "is_whole") [.dat .non] = .ok (.dat (.bl false)) [.dat .non] := w
    simp_arith [TL.f_is_from, TL.b_is_from, h.whole, w, small]
  | str x =>
    have w : callF G c (Str.ofString "is_whole") [.dat (.str x)] = .ok (.dat (.bl false)) [.dat (.str x)] := w
    simp_arith [TL.f_is_from, TL.b_is_from, h.whole, w, small]
  | tup x =>
    have w : callF G c (Str.ofString "is_whole") [.dat (.tup x)] = .ok (.dat (.bl false)) [.dat (.tup x)] := w
    simp_arith [TL.f_is_from, TL.b_is_from, h.whole, w, small]
  | lst x =>
    have w : callF G c (Str.ofString "is_whole") [.dat (.lst x)] = .ok (.dat (.bl false)) [.dat (.lst x)] := w
    simp_arith [TL.f_is_from, TL.b_is_from, h.whole, w, small]
theorem p_is_row (h : HRx G) {k : Nat} {d : D} (hd : okD k d = true) {n : Nat} (hn : 3 ≤ n) : callF G n (Str.ofString "is_row") [.dat d] = .ok (.dat (.bl (rowB d))) [.dat d] := by
  obtain ⟨c, rfl⟩ : ∃ c, n = c + 1 := ⟨n - 1, by omega⟩
  rw [callF_s h.row rfl]
  cases d with
  | tup xs =>
    obtain ⟨hl, j, _, _⟩ := okD_tup' hd
    have lc : kLc G (callF G c) (.call (Str.ofString "is_from") (.cons (.var 1) (.cons (.int 0) (.cons (.glo (Str.ofString "MOST")) .nil)))) (.nm 1) .yes [1] xs [.dat (.tup xs), .no] = .ok (.new (xs.map fun d => .bl (small d))) [.dat (.tup xs), .no] := by
      rw [kLc_map (fun _ => true) (fun d => .bl (small d)) (by rfl) (by simp_arith [if_true]) (by simp_arith [if_true]) (fun d _ => ?_) (by unfold NR at hl; unfold LIM; omega)]
      · rw [filt_yes]
      · exact ⟨_, by simp_arith [if_true]; rfl, by simp_arith [if_true], z_m9, fun _ => by simp_arith [h.from_, h.most, p_is_from h d (show 2 ≤ c by omega)]⟩
    have all : bltR .all (.lst (xs.map fun d => .bl (small d))) = some (.dat (.bl (xs.all small))) := by rw [z_v45 (boolsD_map small xs), all_id]
    have q : decide ((xs.length : Int) ≤ 1000) = decide (xs.length ≤ 1000) := by
      by_cases q : xs.length ≤ 1000
      · rw [decide_eq_true q, decide_eq_true (by omega)]
      · rw [decide_eq_false q, decide_eq_false (by omega)]
    cases p : decide (xs.length ≤ 1000) <;> rw [p] at q <;> simp_arith [TL.f_is_row, TL.b_is_row, tyIs, h.most, q, lc, all, rowB, p]
  | _ => simp_arith [TL.f_is_row, TL.b_is_row, tyIs, rowB]
theorem p_law_row (hA : HA G) (h : HRw G) {k : Nat} {d : D} (hd : okD k d = true) {n : Nat} (hn : 3 ≤ n) : callF G n (Str.ofString "_law_small_row") [.dat d] = .ok (.dat (.bl (rowB d))) [.dat d] := by
  obtain ⟨c, rfl⟩ : ∃ c, n = c + 1 := ⟨n - 1, by omega⟩
  have hr : callF G c (Str.ofString "_law_is_row") [.dat d, .dat .non, .dat (.int 0), .dat (.int 1000)] = .ok (.dat (.bl (match d with | .tup xs => xs.all small | _ => false))) [.dat d, .dat .non, .dat (.int 0), .dat (.int 1000)] := by
    obtain ⟨c, rfl⟩ : ∃ b, c = b + 1 := ⟨c - 1, by omega⟩
    rw [callF_s h.lrow rfl]
    cases d with
    | tup xs =>
      obtain ⟨hl, j, _, _⟩ := okD_tup' hd
      have lc : kLc G (callF G c) (.var 4) (.nm 4) (.one (.or (.nt (.call (Str.ofString "_law_is_integer") (.cons (.var 4) .nil))) (.or (.cmp .lt (.var 4) (.var 2)) (.cmp .gt (.var 4) (.var 3))))) [4] xs [.dat (.tup xs), .dat .non, .dat (.int 0), .dat (.int 1000), .no] =
          .ok (.new (xs.filter fun d => !small d)) [.dat (.tup xs), .dat .non, .dat (.int 0), .dat (.int 1000), .no] := by
        rw [kLc_map (fun d => !small d) id (by rfl) (by simp_arith [if_true]) (by simp_arith [if_true]) (fun d _ => ?_) (by unfold NR at hl; unfold LIM; omega)]
        · rw [List.map_id]
        · refine ⟨_, by simp_arith [if_true]; rfl, by simp_arith [if_true], ?_, fun _ => by simp_arith [id]⟩
          have w := p_is_integer' hA d (n := c) (by omega)
          cases d with
          | int i =>
            have w : callF G c (Str.ofString "_law_is_integer") [.dat (.int i)] = .ok (.dat (.bl true)) [.dat (.int i)] := w
            have e1 : decide (i < 0) = !decide (0 ≤ i) := by
              by_cases q : 0 ≤ i
              · rw [decide_eq_true q, decide_eq_false (by omega)]; rfl
              · rw [decide_eq_false q, decide_eq_true (by omega)]; rfl
            have e2 : decide (1000 < i) = !decide (i ≤ 1000) := by
              by_cases q : i ≤ 1000
              · rw [decide_eq_true q, decide_eq_false (by omega)]; rfl
              · rw [decide_eq_false q, decide_eq_true (by omega)]; rfl
            cases q1 : decide (0 ≤ i) <;> cases q2 : decide (i ≤ 1000) <;> rw [q1] at e1 <;> rw [q2] at e2 <;> simp_arith [hA.is_integer, w, small, e1, e2, q1, q2]
          | bl b =>
            have w : callF G c (Str.ofString "_law_is_integer") [.dat (.bl b)] = .ok (.dat (.bl false)) [.dat (.bl b)] := w
            simp_arith [hA.is_integer, w, small]
          | non =>
            have w : callF G c (Str.ofString "_law_is_integer") [.dat .non] = .ok (.dat (.bl false)) [.dat .non] := w
            simp_arith [hA.is_integer, w, small]
          | str x =>
            have w : callF G c (Str.ofString "_law_is_integer") [.dat (.str x)] = .ok (.dat (.bl false)) [.dat (.str x)] := w
            simp_arith [hA.is_integer, w, small]
          | tup x =>
            have w : callF G c (Str.ofString "_law_is_integer") [.dat (.tup x)] = .ok (.dat (.bl false)) [.dat (.tup x)] := w
            simp_arith [hA.is_integer, w, small]
          | lst x =>
            have w : callF G c (Str.ofString "_law_is_integer") [.dat (.lst x)] = .ok (.dat (.bl false)) [.dat (.lst x)] := w
            simp_arith [hA.is_integer, w, small]
      have na : decide ((((xs.filter fun d => !small d).length : Nat) : Int) = 0) = xs.all small := by
        have e := not_all small xs
        cases q : xs.all small <;> rw [q] at e
        · exact decide_eq_false fun z => by rw [z] at e; exact absurd e (by decide)
        · have e := of_decide_eq_false e
          exact decide_eq_true (by omega)
      simp_arith [TL.f__law_is_row, TL.b__law_is_row, tyIs, lc, na]
    | _ => simp_arith [TL.f__law_is_row, TL.b__law_is_row, tyIs]
  rw [callF_s h.lsmall rfl]
  cases d with
  | tup xs =>
    have hr : callF G c (Str.ofString "_law_is_row") [.dat (.tup xs), .dat .non, .dat (.int 0), .dat (.int 1000)] = .ok (.dat (.bl (xs.all small))) [.dat (.tup xs), .dat .non, .dat (.int 0), .dat (.int 1000)] := hr
    have q : decide ((xs.length : Int) ≤ 1000) = decide (xs.length ≤ 1000) := by
      by_cases q : xs.length ≤ 1000
      · rw [decide_eq_true q, decide_eq_true (by omega)]
      · rw [decide_eq_false q, decide_eq_false (by omega)]
    cases p : xs.all small <;> rw [p] at hr <;> simp_arith [TL.f__law_small_row, TL.b__law_small_row, h.lrow, hr, q, rowB, p]
  | _ => simp_arith [TL.f__law_small_row, TL.b__law_small_row, h.lrow, hr, rowB]
end DI
end
section
set_option maxRecDepth 100000
set_option linter.all false
set_option Elab.async false
set_option maxHeartbeats 4000000
/-! PB43b: stairs. -/
namespace DI
open PySem
variable {G : Gm}
def opn (w : List Int) (n : Nat) : List Nat := (List.range n).filter fun k => decide (gt w k = 0)
def zb (w : List Int) (n : Nat) : Nat := (opn w n).length
theorem opn_succ (w : List Int) (n : Nat) : opn w (n + 1) = opn w n ++ if gt w n = 0 then [n] else [] := by
  unfold opn
  rw [List.range_succ, List.filter_append]
  by_cases h : gt w n = 0
  · rw [if_pos h, List.filter_cons_of_pos (by simp [h]), List.filter_nil]
  · rw [if_neg h, List.filter_cons_of_neg (by simp [h]), List.filter_nil]
theorem zb_succ (w : List Int) (n : Nat) : zb w (n + 1) = zb w n + if gt w n = 0 then 1 else 0 := by
  unfold zb
  rw [opn_succ, List.length_append]
  split <;> rfl
theorem zb_le (w : List Int) : ∀ n, zb w n ≤ n
  | 0 => Nat.le_refl _
  | n + 1 => by have := zb_le w n; rw [zb_succ]; split <;> omega
theorem zb_mono (w : List Int) (a : Nat) : ∀ b, a ≤ b → zb w a ≤ zb w b
  | 0, h => by obtain rfl : a = 0 := by omega
               exact Nat.le_refl _
  | b + 1, h => by
    by_cases e : a = b + 1
    · rw [e]; exact Nat.le_refl _
    · have := zb_mono w a b (by omega); rw [zb_succ]; omega
theorem ob_mono (w : List Int) (a : Nat) : ∀ b, a ≤ b → a - zb w a ≤ b - zb w b
  | 0, h => by obtain rfl : a = 0 := by omega
               exact Nat.le_refl _
  | b + 1, h => by
    by_cases e : a = b + 1
    · rw [e]; exact Nat.le_refl _
    · have := ob_mono w a b (by omega); have := zb_le w b; rw [zb_succ]; split <;> omega
theorem opn_at (w : List Int) : ∀ (n j k : Nat), (opn w n)[j]? = some k → zb w k = j ∧ k < n ∧ gt w k = 0
  | 0, j, k, h => by unfold opn at h; simp at h
  | n + 1, j, k, h => by
    rw [opn_succ] at h
    by_cases hj : j < (opn w n).length
    · rw [List.getElem?_append_left hj] at h
      obtain ⟨a, b, c⟩ := opn_at w n j k h
      exact ⟨a, by omega, c⟩
    · rw [List.getElem?_append_right (by omega)] at h
      by_cases g : gt w n = 0
      · rw [if_pos g] at h
        have h0 : j - (opn w n).length = 0 := by
          by_cases z : j - (opn w n).length = 0
          · exact z
          · rw [List.getElem?_eq_none (by simp; omega)] at h; cases h
        rw [h0] at h
        have h : some n = some k := h
        cases h
        exact ⟨by unfold zb; omega, by omega, g⟩
      · rw [if_neg g] at h; simp at h
theorem hts_zb {w : List Int} (hb : ∀ i ∈ w, i = 0 ∨ i = 1) : ∀ k, k ≤ w.length → gt (hts 0 w) k = 2 * (zb w k : Int) - k
  | 0, _ => by rw [hts_zero]; rfl
  | k + 1, h => by
    have hk : k < w.length := by omega
    have e := hts_zb hb k (by omega)
    have b : gt w k = 0 ∨ gt w k = 1 := hb _ (by
      have := gt_at hk
      exact List.mem_of_getElem? this)
    rw [hts_succ w 0 k hk, e, zb_succ]
    rcases b with b | b
    · rw [b, if_pos rfl]; omega
    · rw [b, if_neg (by decide)]; omega
/-- the shuts before each open -/
def oba (w : List Int) : List Int := (opn w w.length).map fun (k : Nat) => (k : Int) - (zb w k : Int)
theorem oba_len (w : List Int) : (oba w).length = zb w w.length := by unfold oba; rw [List.length_map]; rfl
theorem oba_at {w : List Int} {j : Nat} (h : j < zb w w.length) : ∃ k, (opn w w.length)[j]? = some k ∧ gt (oba w) j = (k : Int) - j ∧ zb w k = j ∧ k < w.length ∧ gt w k = 0 := by
  have hl : j < (opn w w.length).length := h
  refine ⟨(opn w w.length)[j], List.getElem?_eq_getElem hl, ?_, ?_⟩
  · obtain ⟨a, b, c⟩ := opn_at w w.length j _ (List.getElem?_eq_getElem hl)
    have e : (oba w)[j]? = some (((opn w w.length)[j] : Int) - (zb w (opn w w.length)[j] : Int)) := by unfold oba; rw [List.getElem?_map, List.getElem?_eq_getElem hl]; rfl
    have g := gt_at (w := oba w) (k := j) (by rw [oba_len]; exact h)
    rw [e] at g
    have g := Option.some.inj g
    rw [← g, a]
  · exact opn_at w w.length j _ (List.getElem?_eq_getElem hl)
theorem gt_rev {a : List Int} {i : Nat} (h : i < a.length) : gt a.reverse i = gt a (a.length - 1 - i) := by
  have e1 := gt_at (w := a.reverse) (k := i) (by rw [List.length_reverse]; exact h)
  have e2 := gt_at (w := a) (k := a.length - 1 - i) (by omega)
  rw [List.getElem?_reverse h, e2] at e1
  exact (Option.some.inj e1).symm
def stairPs (ns : List Int) : List (Str × D) :=
  [(Str.ofString "rise", firstT (ns.length - 1) fun k => decide (gt ns k < gt ns (k + 1))),
   (Str.ofString "stair", firstT ns.length fun k => decide ((ns.length : Int) - 1 - (k : Int) < gt ns k))]
def stairF (d : D) : D := match d with
  | .tup xs => if rowB (.tup xs) = true then firstP (stairPs ((intsD xs).getD [])) else .tup [.str (Str.ofString "form"), .int 0]
  | _ => .tup [.str (Str.ofString "form"), .int 0]
theorem small_ints : ∀ {xs : List D}, xs.all small = true → ∃ ns : List Int, xs = ns.map D.int
  | [], _ => ⟨[], rfl⟩
  | x :: r, h => by
    rw [List.all_cons, Bool.and_eq_true] at h
    obtain ⟨ns, rfl⟩ := small_ints h.2
    cases x with
    | int i => exact ⟨i :: ns, rfl⟩
    | _ => cases h.1
structure HSt (G : Gm) : Prop where
  fault : G.fn (Str.ofString "fault_stairs") = some TL.f_fault_stairs
  law : G.fn (Str.ofString "_law_f_stairs") = some TL.f__law_f_stairs
  step : G.fn (Str.ofString "stairs_to_slows") = some TL.f_stairs_to_slows
  stairs : G.fn (Str.ofString "_law_stairs") = some TL.f__law_stairs
theorem stairF_kind (d : D) : stairF d = .non ∨ ∃ x y, stairF d = .tup [x, y] := by
  unfold stairF
  split
  · split
    · rcases firstP_kind (stairPs ((intsD ‹List D›).getD [])) with e | ⟨x, y, e⟩
      · exact .inl e
      · exact .inr ⟨_, _, e⟩
    · exact .inr ⟨_, _, rfl⟩
  · exact .inr ⟨_, _, rfl⟩
theorem stairF_ok (d : D) : okD 1 (stairF d) = true := by
  unfold stairF
  split
  · split
    · refine firstP_ok fun q hq => ?_
      unfold stairPs at hq
      simp only [List.mem_cons, List.not_mem_nil, or_false] at hq
      rcases hq with rfl | rfl
      · exact ⟨(show okS (Str.ofString "rise") = true by decide +kernel), firstT_ok⟩
      · exact ⟨(show okS (Str.ofString "stair") = true by decide +kernel), firstT_ok⟩
    · decide +kernel
  · decide +kernel
end DI
end
section
set_option maxRecDepth 100000
set_option linter.all false
set_option Elab.async false
set_option maxHeartbeats 4000000
/-! PB44: wrong numbers, rising rows: told twice. -/
namespace DI
open PySem
variable {G : Gm}
structure HWr (G : Gm) : Prop where
  wrong : G.fn (Str.ofString "first_wrong") = some TL.f_first_wrong
  lwrong : G.fn (Str.ofString "_law_wrong_number") = some TL.f__law_wrong_number
def wrB (ns : List Int) (k : Nat) : Bool := !decide (((ns.count (k : Int) : Nat) : Int) = 1)
theorem p_first_wrong (h : HWr G) (hf : HF G) (ns : List Int) (many : Nat) (hm : many ≤ 5000) {n : Nat} (hn : 2 ≤ n) : callF G n (Str.ofString "first_wrong") [.dat (.lst (ns.map D.int)), .dat (.int many)] = .ok (.dat (firstT many (wrB ns))) [.dat (.lst (ns.map D.int)), .dat (.int many)] := by
  obtain ⟨c, rfl⟩ : ∃ c, n = c + 1 := ⟨n - 1, by omega⟩
  rw [callF_s h.wrong rfl]
  have b1 : ((many : Int)).natAbs < 1152921504606846976 := by omega
  have t1 : ((many : Int)).toNat = many := by omega
  have lc : kLc G (callF G c) (.cmp .ne (.cnt 0 (.var 2)) (.int 1)) (.nm 2) .yes [2] (rngL 0 many) [.dat (.lst (ns.map D.int)), .dat (.int many), .no] =
      .ok (.new ((List.range many).map fun k => .bl (wrB ns k))) [.dat (.lst (ns.map D.int)), .dat (.int many), .no] := by
    rw [kLc_rng (fun _ => true) (fun k => .bl (wrB ns k)) (by rfl) (by simp_arith [if_true]) (by simp_arith [if_true]) (fun k hk => ?_) (by unfold LIM; omega)]
    · rw [filt_yes]
    · have cn : cntR (ns.map D.int) (k : Int) = some (.dat (.int (ns.count (k : Int) : Nat))) := by unfold cntR; rw [intsD_map]; rfl
      exact ⟨_, by simp_arith [if_true]; rfl, by simp_arith [if_true], z_m9, fun _ => by simp_arith [cn, wrB]⟩
  have ft := p_first_true hf many (wrB ns) (by omega) (n := c) (by omega)
  simp_arith [TL.f_first_wrong, TL.b_first_wrong, b1, t1, lc, hf.first_true, ft]
theorem count_filt (ns : List Int) (k : Int) : ((ns.map D.int).filter fun d => match d with | .int x => decide (x = k) | _ => false).length = ns.count k := by
  rw [List.filter_map, List.length_map, List.count_eq_length_filter]
  congr 1
theorem p_law_wrong (h : HWr G) (hf : HF G) (ns : List Int) (hl : ns.length ≤ 100000) (many : Nat) (hm : many ≤ 5000) {n : Nat} (hn : 2 ≤ n) : callF G n (Str.ofString "_law_wrong_number") [.dat (.lst (ns.map D.int)), .dat (.int many)] = .ok (.dat (firstT many (wrB ns))) [.dat (.lst (ns.map D.int)), .dat (.int many)] := by
  obtain ⟨c, rfl⟩ : ∃ c, n = c + 1 := ⟨n - 1, by omega⟩
  rw [callF_s h.lwrong rfl]
  have b1 : ((many : Int)).natAbs < 1152921504606846976 := by omega
  have t1 : ((many : Int)).toNat = many := by omega
  have inn : ∀ k : Nat, kLc G (callF G c) (.var 3) (.nm 3) (.one (.cmp .eq (.var 3) (.var 2))) [3] (ns.map D.int) [.dat (.lst (ns.map D.int)), .dat (.int many), .dat (.int k), .no] =
      .ok (.new ((ns.map D.int).filter fun d => match d with | .int x => decide (x = (k : Int)) | _ => false)) [.dat (.lst (ns.map D.int)), .dat (.int many), .dat (.int k), .no] := by
    intro k
    rw [kLc_map (fun d => match d with | .int x => decide (x = (k : Int)) | _ => false) id (by rfl) (by simp_arith [if_true]) (by simp_arith [if_true]) (fun d hd => ?_) (by rw [List.length_map]; unfold LIM; omega)]
    · rw [List.map_id]
    · obtain ⟨x, _, rfl⟩ := List.mem_map.mp hd
      exact ⟨_, by simp_arith [if_true]; rfl, by simp_arith [if_true], by simp_arith [if_true], fun _ => by simp_arith [id]⟩
  have lc : kLc G (callF G c) (.var 2) (.nm 2) (.one (.cmp .ne (.blt .len (.lc (.var 3) (.nm 3) (.seq (.var 0)) (.one (.cmp .eq (.var 3) (.var 2))) [3])) (.int 1))) [2] (rngL 0 many) [.dat (.lst (ns.map D.int)), .dat (.int many), .no, .no] =
      .ok (.new (((List.range many).filter (wrB ns)).map fun (k : Nat) => D.int (k : Int))) [.dat (.lst (ns.map D.int)), .dat (.int many), .no, .no] := by
    refine kLc_rng (wrB ns) (fun (k : Nat) => D.int (k : Int)) (by rfl) (by simp_arith [if_true]) (by simp_arith [if_true]) (fun k hk => ?_) (by unfold LIM; omega)
    exact ⟨_, by simp_arith [if_true]; rfl, by simp_arith [if_true], by simp_arith [inn, count_filt, wrB], fun _ => by simp_arith [if_true]⟩
  obtain ⟨g, le⟩ := p_least hf many (wrB ns) (by omega) (n := c) (by omega)
  simp_arith [TL.f__law_wrong_number, TL.b__law_wrong_number, b1, t1, lc, hf.least, le]
end DI
end
section
set_option maxRecDepth 100000
set_option linter.all false
set_option Elab.async false
set_option maxHeartbeats 4000000
/-! PB45: tables: their faults, told twice. -/
namespace DI
open PySem
variable {G : Gm}
structure HTb (G : Gm) : Prop where
  rising : G.fn (Str.ofString "is_rising") = some TL.f_is_rising
  lup : G.fn (Str.ofString "_law_is_up") = some TL.f__law_is_up
  fault : G.fn (Str.ofString "fault_tables") = some TL.f_fault_tables
  law : G.fn (Str.ofString "_law_f_tables") = some TL.f__law_f_tables
def upB (ns : List Int) : Bool := (List.range (ns.length - 1)).all fun k => decide (gt ns k < gt ns (k + 1))
theorem boolsD_mapN {α : Type} (f : α → Bool) : ∀ l : List α, boolsD (l.map fun a => .bl (f a)) = some (l.map f)
  | [] => rfl
  | a :: r => by
    show (boolsD (r.map fun a => .bl (f a))).map _ = _
    rw [boolsD_mapN f r]; rfl
theorem p_rising (h : HTb G) (ns : List Int) (hl : ns.length ≤ 5000) {n : Nat} (hn : 1 ≤ n) : callF G n (Str.ofString "is_rising") [.dat (.tup (ns.map D.int))] = .ok (.dat (.bl (upB ns))) [.dat (.tup (ns.map D.int))] := by
  obtain ⟨c, rfl⟩ : ∃ c, n = c + 1 := ⟨n - 1, by omega⟩
  rw [callF_s h.rising rfl]
  have b1 : ((ns.length : Int) - 1).natAbs < 1152921504606846976 := by omega
  have t1 : ((ns.length : Int) - 1).toNat = ns.length - 1 := by omega
  have lc : kLc G (callF G c) (.cmp .lt (.idx (.var 0) (.var 1)) (.idx (.var 0) (.bin .add (.var 1) (.int 1)))) (.nm 1) .yes [1] (rngL 0 (ns.length - 1)) [.dat (.tup (ns.map D.int)), .no] =
      .ok (.new ((List.range (ns.length - 1)).map fun k => .bl (decide (gt ns k < gt ns (k + 1))))) [.dat (.tup (ns.map D.int)), .no] := by
    rw [kLc_rng (fun _ => true) (fun k => .bl (decide (gt ns k < gt ns (k + 1)))) (by rfl) (by simp_arith [if_true]) (by simp_arith [if_true]) (fun k hk => ?_) (by unfold LIM; omega)]
    · rw [filt_yes]
    · have a1 : L2.atI (ns.map D.int) ((k : Int) + 1) = some (.int (gt ns (k + 1))) := atI_gt (k := k + 1) (by omega)
      exact ⟨_, by simp_arith [if_true]; rfl, by simp_arith [if_true], z_m9, fun _ => by simp_arith [a1, atI_gt (show k < ns.length by omega)]⟩
  have all : bltR .all (.lst ((List.range (ns.length - 1)).map fun k => .bl (decide (gt ns k < gt ns (k + 1))))) = some (.dat (.bl (upB ns))) := by
    rw [z_v45 (boolsD_mapN (fun k => decide (gt ns k < gt ns (k + 1))) _), List.all_map]; rfl
  simp_arith [TL.f_is_rising, TL.b_is_rising, List.length_map, b1, t1, lc, all]
def upQ (ns : List Int) : D → Bool | .int i => decide (gt ns (i - 1).toNat < gt ns i.toNat) | _ => true
theorem p_law_up (h : HTb G) (ns : List Int) (hl : ns.length ≤ 5000) {n : Nat} (hn : 1 ≤ n) : callF G n (Str.ofString "_law_is_up") [.dat (.tup (ns.map D.int))] = .ok (.dat (.bl (upB ns))) [.dat (.tup (ns.map D.int))] := by
  obtain ⟨c, rfl⟩ : ∃ c, n = c + 1 := ⟨n - 1, by omega⟩
  rw [callF_s h.lup rfl]
  have b1 : ((ns.length : Int)).natAbs < 1152921504606846976 := by omega
  have t1 : ((ns.length : Int) - 1).toNat = ns.length - 1 := by omega
  have lc : kLc G (callF G c) (.var 1) (.nm 1) (.one (.nt (.cmp .lt (.idx (.var 0) (.bin .sub (.var 1) (.int 1))) (.idx (.var 0) (.var 1))))) [1] (rngL 1 (ns.length - 1)) [.dat (.tup (ns.map D.int)), .no] =
      .ok (.new ((rngL 1 (ns.length - 1)).filter fun d => !upQ ns d)) [.dat (.tup (ns.map D.int)), .no] := by
    rw [kLc_map (fun d => !upQ ns d) id (by rfl) (by simp_arith [if_true]) (by simp_arith [if_true]) (fun d hd => ?_) (by rw [rngL_len]; unfold LIM; omega)]
    · rw [List.map_id]
    · obtain ⟨j, hj, rfl⟩ := mem_rngL hd
      have a0 : L2.atI (ns.map D.int) (1 + (j : Int) - 1) = some (.int (gt ns (1 + (j : Int) - 1).toNat)) := by
        have e : (1 + (j : Int) - 1) = ((j : Nat) : Int) := by omega
        rw [e, Int.toNat_natCast]; exact atI_gt (by omega)
      have a1 : L2.atI (ns.map D.int) (1 + (j : Int)) = some (.int (gt ns (1 + (j : Int)).toNat)) := by
        have e : (1 + (j : Int)) = ((j + 1 : Nat) : Int) := by omega
        rw [e, Int.toNat_natCast]; exact atI_gt (by omega)
      exact ⟨_, by simp_arith [if_true]; rfl, by simp_arith [if_true], by simp_arith [a0, a1, upQ], fun _ => by simp_arith [id]⟩
  have na : decide (((((rngL 1 (ns.length - 1)).filter fun d => !upQ ns d).length : Nat) : Int) = 0) = upB ns := by
    have e := not_all (upQ ns) (rngL 1 (ns.length - 1))
    have e2 : (rngL 1 (ns.length - 1)).all (upQ ns) = upB ns := by
      unfold rngL upB
      rw [List.all_map]
      congr 1
      funext k
      show decide (gt ns (1 + (k : Int) - 1).toNat < gt ns (1 + (k : Int)).toNat) = _
      have e1 : (1 + (k : Int) - 1).toNat = k := by omega
      have e2 : (1 + (k : Int)).toNat = k + 1 := by omega
      rw [e1, e2]
    rw [e2] at e
    cases q : upB ns <;> rw [q] at e
    · exact decide_eq_false fun z => by rw [z] at e; exact absurd e (by decide)
    · have e := of_decide_eq_false e
      exact decide_eq_true (by omega)
  simp_arith [TL.f__law_is_up, TL.b__law_is_up, List.length_map, b1, t1, lc, na]
def tabPs (ns ms : List Int) : List (Str × D) :=
  [(Str.ofString "number", firstT (2 * ns.length) (wrB (ns ++ ms))),
   (Str.ofString "row", if upB ns = true then (if upB ms = true then .non else .int 1) else .int 0),
   (Str.ofString "column", firstT ns.length fun k => decide (gt ms k < gt ns k))]
def lenEq : D → D → Bool | .tup xs, .tup ys => decide (xs.length = ys.length) | _, _ => false
def rowI : D → List Int | .tup xs => (intsD xs).getD [] | _ => []
def tableF : D → D
  | .tup [a, b] => if (rowB a && (rowB b && lenEq a b)) = true then firstP (tabPs (rowI a) (rowI b)) else .tup [.str (Str.ofString "form"), .int 0]
  | _ => .tup [.str (Str.ofString "form"), .int 0]
theorem tab_shape (xs : List D) : (∃ a b, xs = [a, b]) ∨ (decide ((xs.length : Int) = 2) = false ∧ tableF (.tup xs) = .tup [.str (Str.ofString "form"), .int 0]) := by
  match xs with
  | [] => exact .inr ⟨rfl, rfl⟩
  | [a] => exact .inr ⟨rfl, rfl⟩
  | [a, b] => exact .inl ⟨a, b, rfl⟩
  | a :: b :: c :: r => exact .inr ⟨decide_eq_false (by rw [List.length_cons, List.length_cons, List.length_cons]; omega), rfl⟩
theorem row_tup {a : D} (h : rowB a = true) : ∃ ns : List Int, a = .tup (ns.map D.int) ∧ ns.length ≤ 1000 := by
  cases a with
  | tup xs =>
    obtain ⟨q1, q2⟩ := Bool.and_eq_true_iff.mp (show (decide (xs.length ≤ 1000) && xs.all small) = true from h)
    obtain ⟨ns, rfl⟩ := small_ints q2
    exact ⟨ns, rfl, by have := of_decide_eq_true q1; rwa [List.length_map] at this⟩
  | _ => cases h
theorem tableF_kind (d : D) : tableF d = .non ∨ ∃ x y, tableF d = .tup [x, y] := by
  unfold tableF
  split
  · split
    · rename_i a b _; rcases firstP_kind (tabPs (rowI a) (rowI b)) with e | ⟨x, y, e⟩
      · exact .inl e
      · exact .inr ⟨_, _, e⟩
    · exact .inr ⟨_, _, rfl⟩
  · exact .inr ⟨_, _, rfl⟩
theorem tableF_ok (d : D) : okD 1 (tableF d) = true := by
  unfold tableF
  split
  · split
    · refine firstP_ok fun q hq => ?_
      unfold tabPs at hq
      simp only [List.mem_cons, List.not_mem_nil, or_false] at hq
      rcases hq with rfl | rfl | rfl
      · exact ⟨(show okS (Str.ofString "number") = true by decide +kernel), firstT_ok⟩
      · exact ⟨(show okS (Str.ofString "row") = true by decide +kernel), by dsimp only; split <;> (try split) <;> rfl⟩
      · exact ⟨(show okS (Str.ofString "column") = true by decide +kernel), firstT_ok⟩
    · decide +kernel
  · decide +kernel
end DI
end
section
set_option maxRecDepth 100000
set_option linter.all false
set_option Elab.async false
set_option maxHeartbeats 8000000
/-! PB45b: tables: the walks of their faults. -/
namespace DI
open PySem
variable {G : Gm}
theorem ft2 (hf : HF G) (x y : Bool) {n : Nat} (hn : 1 ≤ n) : callF G n (Str.ofString "first_true") [.dat (.lst [.bl (!x), .bl (!y)])] = .ok (.dat (if x = true then (if y = true then .non else .int 1) else .int 0)) [.dat (.lst [.bl (!x), .bl (!y)])] := by
  have e := p_first_true hf 2 (fun k => if k = 0 then !x else !y) (by omega) (n := n) hn
  have e1 : ((List.range 2).map fun (k : Nat) => D.bl (if k = 0 then !x else !y)) = [.bl (!x), .bl (!y)] := rfl
  rw [e1] at e
  rw [e]
  congr 2
  cases x <;> cases y <;> rfl
theorem tabF_no {a b : D} (h : (rowB a && (rowB b && lenEq a b)) = false) : tableF (.tup [a, b]) = .tup [.str (Str.ofString "form"), .int 0] := by
  show (if (rowB a && (rowB b && lenEq a b)) = true then _ else _) = _
  rw [h]; rfl
theorem tabF_yes {ns ms : List Int} (h1 : rowB (.tup (ns.map D.int)) = true) (h2 : rowB (.tup (ms.map D.int)) = true) (h : ns.length = ms.length) : tableF (.tup [.tup (ns.map D.int), .tup (ms.map D.int)]) = firstP (tabPs ns ms) := by
  show (if (rowB _ && (rowB _ && lenEq _ _)) = true then firstP (tabPs ((intsD (ns.map D.int)).getD []) ((intsD (ms.map D.int)).getD [])) else _) = _
  rw [h1, h2, intsD_map, intsD_map]
  have e : lenEq (.tup (ns.map D.int)) (.tup (ms.map D.int)) = true := decide_eq_true (by rw [List.length_map, List.length_map, h])
  rw [e]
  rfl
theorem p_fault_tables (h : HTb G) (hr : HRw G) (hf : HF G) (hw : HWr G) {k : Nat} {d : D} (hd : okD k d = true) {n : Nat} (hn : 5 ≤ n) : ∃ g, callF G n (Str.ofString "fault_tables") [.dat d] = .ok (.dat (tableF d)) [g] := by
  obtain ⟨c, rfl⟩ : ∃ c, n = c + 1 := ⟨n - 1, by omega⟩
  rw [callF_s h.fault rfl]
  refine ⟨.dat d, ?_⟩
  cases d with
  | tup xs =>
    rcases tab_shape xs with ⟨a, b, rfl⟩ | ⟨q, e⟩
    · obtain ⟨_, j, _, hx⟩ := okD_tup' hd
      have ha := p_is_row hr.toHRx (hx a List.mem_cons_self) (n := c) (by omega)
      have hb := p_is_row hr.toHRx (hx b (List.mem_cons_of_mem _ List.mem_cons_self)) (n := c) (by omega)
      have i0 : L2.atI [a, b] 0 = some a := rfl
      have i1 : L2.atI [a, b] 1 = some b := rfl
      cases ra : rowB a with
      | false =>
        rw [ra] at ha
        rw [tabF_no (by rw [ra]; rfl)]
        simp_arith [TL.f_fault_tables, TL.b_fault_tables, tyIs, i0, i1, hr.row, ha, hr.form]
      | true =>
        cases rb : rowB b with
        | false =>
          rw [ra] at ha
          rw [rb] at hb
          rw [tabF_no (by rw [ra, rb]; rfl)]
          simp_arith [TL.f_fault_tables, TL.b_fault_tables, tyIs, i0, i1, hr.row, ha, hb, hr.form]
        | true =>
          rw [ra] at ha
          rw [rb] at hb
          obtain ⟨ns, rfl, l1⟩ := row_tup ra
          obtain ⟨ms, rfl, l2⟩ := row_tup rb
          by_cases le : ns.length = ms.length
          · rw [tabF_yes ra rb le]
            have q1 : decide ((ns.length : Int) = (ms.length : Int)) = true := decide_eq_true (by omega)
            have fw := p_first_wrong hw hf (ns ++ ms) (2 * ns.length) (by omega) (n := c) (by omega)
            have e2 : (2 : Int) * (ns.length : Int) = ((2 * ns.length : Nat) : Int) := by omega
            have mu : binR .mul (.int 2) (.int (ns.length : Int)) = some (.dat (.int ((2 * ns.length : Nat) : Int))) := by rw [z_v3 (.inl (by decide)), e2]
            rw [List.map_append] at fw
            have lim : ns.length + ms.length ≤ LIM := by unfold LIM; omega
            have b1 : ((ns.length : Int)).natAbs < 1152921504606846976 := by omega
            have t1 : ((ns.length : Int)).toNat = ns.length := by omega
            have lr : ∀ s1 : Sl, kLc G (callF G c) (.nt (.call (Str.ofString "is_rising") (.cons (.var 6) .nil))) (.nm 6) .yes [6] [.tup (ns.map D.int), .tup (ms.map D.int)] [.dat (.tup [.tup (ns.map D.int), .tup (ms.map D.int)]), s1, .no, .no, .dat (.tup (ns.map D.int)), .dat (.tup (ms.map D.int)), .no, .no] =
                .ok (.new [.bl (!upB ns), .bl (!upB ms)]) [.dat (.tup [.tup (ns.map D.int), .tup (ms.map D.int)]), s1, .no, .no, .dat (.tup (ns.map D.int)), .dat (.tup (ms.map D.int)), .no, .no] := by
              intro s1
              rw [kLc_map (fun _ => true) (fun d => .bl (!upB (rowI d))) (by rfl) (by simp_arith [if_true]) (by simp_arith [if_true]) (fun d hd => ?_) (by unfold LIM; simp)]
              · rw [filt_yes]
                simp_arith [rowI, intsD_map, Option.getD_some]
              · simp only [List.mem_cons, List.not_mem_nil, or_false] at hd
                rcases hd with rfl | rfl
                · exact ⟨_, by simp_arith [if_true]; rfl, by simp_arith [if_true], z_m9, fun _ => by simp_arith [h.rising, p_rising h ns (by omega) (n := c) (by omega), rowI, intsD_map, Option.getD_some]⟩
                · exact ⟨_, by simp_arith [if_true]; rfl, by simp_arith [if_true], z_m9, fun _ => by simp_arith [h.rising, p_rising h ms (by omega) (n := c) (by omega), rowI, intsD_map, Option.getD_some]⟩
            have lc : ∀ s1 s2 : Sl, kLc G (callF G c) (.cmp .gt (.idx (.var 4) (.var 7)) (.idx (.var 5) (.var 7))) (.nm 7) .yes [7] (rngL 0 ns.length) [.dat (.tup [.tup (ns.map D.int), .tup (ms.map D.int)]), s1, s2, .no, .dat (.tup (ns.map D.int)), .dat (.tup (ms.map D.int)), .no, .no] =
                .ok (.new ((List.range ns.length).map fun k => .bl (decide (gt ms k < gt ns k)))) [.dat (.tup [.tup (ns.map D.int), .tup (ms.map D.int)]), s1, s2, .no, .dat (.tup (ns.map D.int)), .dat (.tup (ms.map D.int)), .no, .no] := by
              intro s1 s2
              rw [kLc_rng (fun _ => true) (fun k => .bl (decide (gt ms k < gt ns k))) (by rfl) (by simp_arith [if_true]) (by simp_arith [if_true]) (fun k hk => ?_) (by unfold LIM; omega)]
              · rw [filt_yes]
              · exact ⟨_, by simp_arith [if_true]; rfl, by simp_arith [if_true], z_m9, fun _ => by simp_arith [atI_gt hk, atI_gt (w := ms) (show k < ms.length by omega)]⟩
            have f2 := ft2 hf (upB ns) (upB ms) (n := c) (by omega)
            have f3 := p_first_true hf ns.length (fun k => decide (gt ms k < gt ns k)) (by omega) (n := c) (by omega)
            obtain ⟨g, fo⟩ := p_first_of hf (tabPs ns ms) (n := c) (by omega)
            simp only [tabPs, List.map_cons, List.map_nil] at fo
            have fa : ∀ x d, callF G c (Str.ofString "fault_at") [.dat (.str x), .dat d] = .ok (.dat (faultAt x d)) [.dat (.str x), .dat d] := fun x d => p_fault_at hf x d (by omega)
            simp_arith [TL.f_fault_tables, TL.b_fault_tables, tyIs, i0, i1, hr.row, ha, hb, List.length_map, q1, lim, mu, hw.wrong, fw, lr, hf.first_true, f2, b1, t1, lc, f3, hf.fault_at, fa, hf.first_of, fo, tabPs]
          · rw [tabF_no (by
              have e : lenEq (.tup (ns.map D.int)) (.tup (ms.map D.int)) = false := decide_eq_false (by rw [List.length_map, List.length_map]; exact le)
              rw [ra, rb, e]; rfl)]
            have q1 : decide ((ns.length : Int) = (ms.length : Int)) = false := decide_eq_false (by omega)
            simp_arith [TL.f_fault_tables, TL.b_fault_tables, tyIs, i0, i1, hr.row, ha, hb, List.length_map, q1, hr.form]
    · rw [e]
      simp_arith [TL.f_fault_tables, TL.b_fault_tables, tyIs, q, hr.form]
  | _ => simp_arith [TL.f_fault_tables, TL.b_fault_tables, tyIs, hr.form, tableF]
end DI
end
section
set_option maxRecDepth 100000
set_option linter.all false
set_option Elab.async false
set_option maxHeartbeats 8000000
/-! PB45c: tables: their faults as the law tells them. -/
namespace DI
open PySem
variable {G : Gm}
theorem le2 (hf : HF G) (x y : Bool) {n : Nat} (hn : 1 ≤ n) : ∃ g, callF G n (Str.ofString "_law_least") [.dat (.lst ([D.int 0, .int 1].filter fun d => match d with | .int i => if i = 0 then !x else !y | _ => false))] = .ok (.dat (if x = true then (if y = true then .non else .int 1) else .int 0)) [g] := by
  obtain ⟨g, e⟩ := p_least hf 2 (fun k => if k = 0 then !x else !y) (by omega) (n := n) hn
  refine ⟨g, ?_⟩
  cases x <;> cases y <;> exact e
theorem p_law_f_tables (hA : HA G) (h : HTb G) (hr : HRw G) (hf : HF G) (hw : HWr G) {k : Nat} {d : D} (hd : okD k d = true) {n : Nat} (hn : 5 ≤ n) : ∃ g, callF G n (Str.ofString "_law_f_tables") [.dat d] = .ok (.dat (tableF d)) [g] := by
  obtain ⟨c, rfl⟩ : ∃ c, n = c + 1 := ⟨n - 1, by omega⟩
  rw [callF_s h.law rfl]
  refine ⟨.dat d, ?_⟩
  cases d with
  | tup xs =>
    rcases tab_shape xs with ⟨a, b, rfl⟩ | ⟨q, e⟩
    · obtain ⟨_, j, _, hx⟩ := okD_tup' hd
      have ha := p_law_row hA hr (hx a List.mem_cons_self) (n := c) (by omega)
      have hb := p_law_row hA hr (hx b (List.mem_cons_of_mem _ List.mem_cons_self)) (n := c) (by omega)
      have i0 : L2.atI [a, b] 0 = some a := rfl
      have i1 : L2.atI [a, b] 1 = some b := rfl
      cases ra : rowB a with
      | false =>
        rw [ra] at ha
        rw [tabF_no (by rw [ra]; rfl)]
        simp_arith [TL.f__law_f_tables, TL.b__law_f_tables, tyIs, i0, i1, hr.lsmall, ha]
      | true =>
        cases rb : rowB b with
        | false =>
          rw [ra] at ha
          rw [rb] at hb
          rw [tabF_no (by rw [ra, rb]; rfl)]
          simp_arith [TL.f__law_f_tables, TL.b__law_f_tables, tyIs, i0, i1, hr.lsmall, ha, hb]
        | true =>
          rw [ra] at ha
          rw [rb] at hb
          obtain ⟨ns, rfl, l1⟩ := row_tup ra
          obtain ⟨ms, rfl, l2⟩ := row_tup rb
          by_cases le : ns.length = ms.length
          · rw [tabF_yes ra rb le]
            have q1 : decide ((ns.length : Int) = (ms.length : Int)) = true := decide_eq_true (by omega)
            have fw := p_law_wrong hw hf (ns ++ ms) (by rw [List.length_append]; omega) (2 * ns.length) (by omega) (n := c) (by omega)
            have e2 : (2 : Int) * (ns.length : Int) = ((2 * ns.length : Nat) : Int) := by omega
            have mu : binR .mul (.int 2) (.int (ns.length : Int)) = some (.dat (.int ((2 * ns.length : Nat) : Int))) := by rw [z_v3 (.inl (by decide)), e2]
            rw [List.map_append] at fw
            have lim : ns.length + ms.length ≤ LIM := by unfold LIM; omega
            have b1 : ((ns.length : Int)).natAbs < 1152921504606846976 := by omega
            have t1 : ((ns.length : Int)).toNat = ns.length := by omega
            have lr : kLc G (callF G c) (.var 3) (.nm 3) (.one (.nt (.call (Str.ofString "_law_is_up") (.cons (.idx (.var 0) (.var 3)) .nil)))) [3] [.int 0, .int 1] [.dat (.tup [.tup (ns.map D.int), .tup (ms.map D.int)]), .no, .no, .no, .no] =
                .ok (.new ([D.int 0, .int 1].filter fun d => match d with | .int i => if i = 0 then !upB ns else !upB ms | _ => false)) [.dat (.tup [.tup (ns.map D.int), .tup (ms.map D.int)]), .no, .no, .no, .no] := by
              rw [kLc_map (fun d => match d with | .int i => if i = 0 then !upB ns else !upB ms | _ => false) id (by rfl) (by simp_arith [if_true]) (by simp_arith [if_true]) (fun d hd => ?_) (by unfold LIM; simp)]
              · rw [List.map_id]
              · simp only [List.mem_cons, List.not_mem_nil, or_false] at hd
                rcases hd with rfl | rfl
                · exact ⟨_, by simp_arith [if_true]; rfl, by simp_arith [if_true], by simp_arith [i0, i1, h.lup, p_law_up h ns (by omega) (n := c) (by omega)], fun _ => by simp_arith [id]⟩
                · exact ⟨_, by simp_arith [if_true]; rfl, by simp_arith [if_true], by simp_arith [i0, i1, h.lup, p_law_up h ms (by omega) (n := c) (by omega)], fun _ => by simp_arith [id]⟩
            have lc : ∀ s1 : Sl, kLc G (callF G c) (.var 4) (.nm 4) (.one (.cmp .gt (.idx (.idx (.var 0) (.int 0)) (.var 4)) (.idx (.idx (.var 0) (.int 1)) (.var 4)))) [4] (rngL 0 ns.length) [.dat (.tup [.tup (ns.map D.int), .tup (ms.map D.int)]), s1, .no, .no, .no] =
                .ok (.new (((List.range ns.length).filter fun k => decide (gt ms k < gt ns k)).map fun (k : Nat) => D.int (k : Int))) [.dat (.tup [.tup (ns.map D.int), .tup (ms.map D.int)]), s1, .no, .no, .no] := by
              intro s1
              refine kLc_rng (fun k => decide (gt ms k < gt ns k)) (fun (k : Nat) => D.int (k : Int)) (by rfl) (by simp_arith [if_true]) (by simp_arith [if_true]) (fun k hk => ?_) (by unfold LIM; omega)
              exact ⟨_, by simp_arith [if_true]; rfl, by simp_arith [if_true], by simp_arith [i0, i1, atI_gt hk, atI_gt (w := ms) (show k < ms.length by omega)], fun _ => by simp_arith [if_true]⟩
            obtain ⟨g2, f2⟩ := le2 hf (upB ns) (upB ms) (n := c) (by omega)
            obtain ⟨g3, f3⟩ := p_least hf ns.length (fun k => decide (gt ms k < gt ns k)) (by omega) (n := c) (by omega)
            obtain ⟨g, fo⟩ := p_first hf (tabPs ns ms) (n := c) (by omega)
            simp only [tabPs, List.map_cons, List.map_nil] at fo
            simp_arith [TL.f__law_f_tables, TL.b__law_f_tables, tyIs, i0, i1, hr.lsmall, ha, hb, List.length_map, q1, lim, mu, hw.lwrong, fw, lr, hf.least, f2, b1, t1, lc, f3, hf.first, fo, tabPs]
          · rw [tabF_no (by
              have e : lenEq (.tup (ns.map D.int)) (.tup (ms.map D.int)) = false := decide_eq_false (by rw [List.length_map, List.length_map]; exact le)
              rw [ra, rb, e]; rfl)]
            have q1 : decide ((ns.length : Int) = (ms.length : Int)) = false := decide_eq_false (by omega)
            simp_arith [TL.f__law_f_tables, TL.b__law_f_tables, tyIs, i0, i1, hr.lsmall, ha, hb, List.length_map, q1]
    · rw [e]
      simp_arith [TL.f__law_f_tables, TL.b__law_f_tables, tyIs, q]
  | _ => simp_arith [TL.f__law_f_tables, TL.b__law_f_tables, tyIs, tableF]
end DI
end
section
set_option maxRecDepth 100000
set_option linter.all false
set_option Elab.async false
set_option maxHeartbeats 4000000
/-! PB47: shuts, tables of brackets. -/
namespace DI
open PySem
variable {G : Gm}
theorem p_shuts (h : G.fn (Str.ofString "_law_shuts") = some TL.f__law_shuts) (w : List Int) (hw : w.length ≤ 5000) {n : Nat} (hn : 1 ≤ n) : callF G n (Str.ofString "_law_shuts") [.dat (wd w)] = .ok (.len (plc 1 w)) [.dat (wd w)] := by
  obtain ⟨c, rfl⟩ : ∃ c, n = c + 1 := ⟨n - 1, by omega⟩
  rw [callF_s h rfl]
  have lc : kLc G (callF G c) (.var 1) (.nm 1) (.one (.cmp .eq (.idx (.var 0) (.var 1)) (.int 1))) [1] (rngL 0 w.length) [.dat (.tup (w.map D.int)), .no] = .ok (.new (plc 1 w)) [.dat (.tup (w.map D.int)), .no] := by
    refine kLc_rng (fun k => decide (gt w k = 1)) (fun (k : Nat) => D.int (k : Int)) (by rfl) (by simp_arith [if_true]) (by simp_arith [if_true]) (fun k hk => ?_) (by unfold LIM; omega)
    exact ⟨_, by simp_arith [if_true]; rfl, by simp_arith [if_true], by simp_arith [atI_gt hk], fun _ => by simp_arith [if_true]⟩
  have hb : ((w.length : Int)).natAbs < 1152921504606846976 := by omega
  have ht : ((w.length : Int)).toNat = w.length := by omega
  simp_arith [TL.f__law_shuts, TL.b__law_shuts, wd, List.length_map, hb, ht, lc]
theorem p_law_tables (h : G.fn (Str.ofString "_law_tables") = some TL.f__law_tables) (ho : G.fn (Str.ofString "_law_opens") = some TL.f__law_opens) (hs : G.fn (Str.ofString "_law_shuts") = some TL.f__law_shuts) (w : List Int) (hw : w.length ≤ 5000) {n : Nat} (hn : 2 ≤ n) :
    callF G n (Str.ofString "_law_tables") [.dat (wd w)] = .ok (.dat (.tup [.tup (plc 0 w), .tup (plc 1 w)])) [.dat (wd w)] := by
  obtain ⟨c, rfl⟩ : ∃ c, n = c + 1 := ⟨n - 1, by omega⟩
  rw [callF_s h rfl]
  have e0 := p_opens ho w hw (n := c) (by omega)
  have e1 := p_shuts hs w hw (n := c) (by omega)
  simp_arith [TL.f__law_tables, TL.b__law_tables, ho, e0, hs, e1, agRes]
end DI
end
section
set_option maxRecDepth 100000
set_option linter.all false
set_option Elab.async false
set_option maxHeartbeats 4000000
/-! PB48: tables of brackets have no fault. -/
namespace DI
open PySem
variable {G : Gm}
/-- the places of a sign -/
def plN (s : Int) (w : List Int) (n : Nat) : List Nat := (List.range n).filter fun k => decide (gt w k = s)
theorem plN_succ (s : Int) (w : List Int) (n : Nat) : plN s w (n + 1) = plN s w n ++ if gt w n = s then [n] else [] := by
  unfold plN
  rw [List.range_succ, List.filter_append]
  by_cases h : gt w n = s
  · rw [if_pos h, List.filter_cons_of_pos (by simp [h]), List.filter_nil]
  · rw [if_neg h, List.filter_cons_of_neg (by simp [h]), List.filter_nil]
theorem plN_at (s : Int) (w : List Int) : ∀ (n j k : Nat), (plN s w n)[j]? = some k → (plN s w k).length = j ∧ k < n ∧ gt w k = s
  | 0, j, k, h => by unfold plN at h; simp at h
  | n + 1, j, k, h => by
    rw [plN_succ] at h
    by_cases hj : j < (plN s w n).length
    · rw [List.getElem?_append_left hj] at h
      obtain ⟨a, b, c⟩ := plN_at s w n j k h
      exact ⟨a, by omega, c⟩
    · rw [List.getElem?_append_right (by omega)] at h
      by_cases g : gt w n = s
      · rw [if_pos g] at h
        have h0 : j - (plN s w n).length = 0 := by
          by_cases z : j - (plN s w n).length = 0
          · exact z
          · rw [List.getElem?_eq_none (by simp; omega)] at h; cases h
        rw [h0] at h
        have h : some n = some k := h
        cases h
        exact ⟨by omega, by omega, g⟩
      · rw [if_neg g] at h; simp at h
theorem plN_mono (s : Int) (w : List Int) (a : Nat) : ∀ b, a ≤ b → (plN s w a).length ≤ (plN s w b).length
  | 0, h => by obtain rfl : a = 0 := by omega
               exact Nat.le_refl _
  | b + 1, h => by
    by_cases e : a = b + 1
    · rw [e]; exact Nat.le_refl _
    · have := plN_mono s w a b (by omega); rw [plN_succ, List.length_append]; omega
theorem plN_both {w : List Int} (hb : ∀ k, k < w.length → gt w k = 0 ∨ gt w k = 1) : ∀ n, n ≤ w.length → (plN 0 w n).length + (plN 1 w n).length = n
  | 0, _ => rfl
  | n + 1, h => by
    have ih := plN_both hb n (by omega)
    rw [plN_succ, plN_succ, List.length_append, List.length_append]
    rcases hb n (by omega) with b | b
    · rw [b, if_pos rfl, if_neg (by decide)]; simp; omega
    · rw [b, if_neg (by decide), if_pos rfl]; simp; omega
theorem count_pl (s : Int) (w : List Int) (a : Nat) : ∀ n, ((plN s w n).map fun (k : Nat) => (k : Int)).count (a : Int) = if a < n ∧ gt w a = s then 1 else 0
  | 0 => by rw [if_neg (by omega)]; rfl
  | n + 1 => by
    rw [plN_succ, List.map_append, List.count_append, count_pl s w a n]
    by_cases g : gt w n = s
    · rw [if_pos g]
      by_cases e : a = n
      · subst e
        rw [if_neg (by omega), if_pos ⟨by omega, g⟩]
        simp
      · have e1 : List.count (a : Int) ([n].map fun (k : Nat) => (k : Int)) = 0 := by
          rw [List.map_singleton, List.count_singleton]
          have : ((n : Int) == (a : Int)) = false := beq_eq_false_iff_ne.mpr (by omega)
          rw [this]; rfl
        rw [e1]
        by_cases q : a < n ∧ gt w a = s
        · rw [if_pos q, if_pos ⟨by omega, q.2⟩]
        · rw [if_neg q, if_neg (fun z => q ⟨by omega, z.2⟩)]
    · rw [if_neg g]
      by_cases q : a < n ∧ gt w a = s
      · rw [if_pos q, if_pos ⟨by omega, q.2⟩]; rfl
      · rw [if_neg q, if_neg (fun z => by
          by_cases e : a = n
          · subst e; exact g z.2
          · exact q ⟨by omega, z.2⟩)]; rfl
end DI
end
section
set_option maxRecDepth 100000
set_option linter.all false
set_option Elab.async false
set_option maxHeartbeats 4000000
/-! PB49: tables of brackets have no fault. -/
namespace DI
open PySem
variable {G : Gm}
def plI (s : Int) (w : List Int) : List Int := (plN s w w.length).map fun (k : Nat) => (k : Int)
theorem plc_eq (s : Int) (w : List Int) : plc s w = (plI s w).map D.int := by
  unfold plc plI plN
  rw [List.map_map]
  rfl
theorem plI_len (s : Int) (w : List Int) : (plI s w).length = (plN s w w.length).length := by unfold plI; rw [List.length_map]
theorem plI_at {s : Int} {w : List Int} {j : Nat} (h : j < (plI s w).length) : ∃ k : Nat, gt (plI s w) j = (k : Int) ∧ (plN s w k).length = j ∧ k < w.length ∧ gt w k = s := by
  rw [plI_len] at h
  obtain ⟨a, b, c⟩ := plN_at s w w.length j _ (List.getElem?_eq_getElem h)
  refine ⟨(plN s w w.length)[j], ?_, a, b, c⟩
  have e : (plI s w)[j]? = some (((plN s w w.length)[j] : Nat) : Int) := by unfold plI; rw [List.getElem?_map, List.getElem?_eq_getElem h]; rfl
  have g := gt_at (w := plI s w) (k := j) (by rw [plI_len]; exact h)
  rw [e] at g
  exact (Option.some.inj g).symm
theorem plI_row (s : Int) {w : List Int} (hw : w.length ≤ 1000) : rowB (.tup ((plI s w).map D.int)) = true := by
  have l : (plN s w w.length).length ≤ w.length := by
    unfold plN
    exact Nat.le_trans (List.length_filter_le _ _) (by rw [List.length_range]; omega)
  show (decide (((plI s w).map D.int).length ≤ 1000) && ((plI s w).map D.int).all small) = true
  rw [decide_eq_true (by rw [List.length_map, plI_len]; omega), Bool.true_and, List.all_map]
  refine List.all_eq_true.mpr fun i hi => ?_
  unfold plI at hi
  obtain ⟨k, hk, rfl⟩ := List.mem_map.mp hi
  have hk : k < w.length := List.mem_range.mp (List.mem_filter.mp hk).1
  show (decide ((0 : Int) ≤ (k : Int)) && decide ((k : Int) ≤ 1000)) = true
  rw [decide_eq_true (by omega), decide_eq_true (by omega)]; rfl
theorem plI_up (s : Int) (w : List Int) : upB (plI s w) = true := by
  unfold upB
  refine List.all_eq_true.mpr fun j hj => ?_
  have hj := List.mem_range.mp hj
  obtain ⟨a, a1, a2, a3, a4⟩ := plI_at (s := s) (w := w) (j := j) (by omega)
  obtain ⟨b, b1, b2, b3, b4⟩ := plI_at (s := s) (w := w) (j := j + 1) (by omega)
  refine decide_eq_true ?_
  rw [a1, b1]
  have : a < b := by
    by_cases z : a < b
    · exact z
    · have := plN_mono s w b a (by omega); omega
  omega
theorem table_good {w : List Int} (p : Pre 0 w) (hw : w.length ≤ 1000) : tableF (.tup [.tup (plc 0 w), .tup (plc 1 w)]) = .non := by
  have hb := p.bits
  have hbit : ∀ k, k < w.length → gt w k = 0 ∨ gt w k = 1 := fun k hk => p.bit k hk
  obtain ⟨h1, h2⟩ := p.hts
  have zo : ∀ n, zb w n = (plN 0 w n).length := fun _ => rfl
  have hn := hts_zb hb w.length (Nat.le_refl _)
  rw [h1, zo] at hn
  have both := plN_both hbit w.length (Nat.le_refl _)
  have hn : 2 * (plN 0 w w.length).length = w.length := by omega
  have le : (plI 0 w).length = (plI 1 w).length := by rw [plI_len, plI_len]; omega
  rw [plc_eq, plc_eq, tabF_yes (plI_row 0 hw) (plI_row 1 hw) le]
  refine firstP_none fun q hq => ?_
  unfold tabPs at hq
  simp only [List.mem_cons, List.not_mem_nil, or_false] at hq
  rcases hq with rfl | rfl | rfl
  · refine firstT_non fun k hk => ?_
    rw [plI_len, hn] at hk
    unfold wrB
    have c : (plI 0 w ++ plI 1 w).count (k : Int) = 1 := by
      unfold plI
      rw [List.count_append, count_pl, count_pl]
      rcases hbit k hk with b | b
      · rw [if_pos ⟨hk, b⟩, if_neg (fun z => by rw [b] at z; exact absurd z.2 (by decide))]
      · rw [if_neg (fun z => by rw [b] at z; exact absurd z.2 (by decide)), if_pos ⟨hk, b⟩]
    rw [c]; rfl
  · dsimp only
    rw [plI_up, plI_up]; rfl
  · refine firstT_non fun k hk => decide_eq_false ?_
    obtain ⟨a, a1, a2, a3, a4⟩ := plI_at (s := 0) (w := w) (j := k) hk
    obtain ⟨b, b1, b2, b3, b4⟩ := plI_at (s := 1) (w := w) (j := k) (by omega)
    rw [a1, b1]
    have hh := h2 b (by omega)
    have e := hts_zb hb b (by omega)
    rw [zo] at e
    have bo := plN_both hbit b (by omega)
    -- one more: the height just behind b
    have hh2 := h2 (b + 1) (by omega)
    have e2 := hts_zb hb (b + 1) (by omega)
    rw [zo] at e2
    have bo2 := plN_both hbit (b + 1) (by omega)
    have s2 : (plN 1 w (b + 1)).length = k + 1 := by rw [plN_succ, b4, if_pos rfl, List.length_append, b2]; rfl
    have z0 : (plN 0 w (b + 1)).length = (plN 0 w b).length := by rw [plN_succ, b4, if_neg (by decide), List.append_nil]
    have : a < b := by
      by_cases z : a < b
      · exact z
      · have := plN_mono 0 w b a (by omega); omega
    omega
end DI
end
section
set_option maxRecDepth 100000
set_option linter.all false
set_option Elab.async false
set_option maxHeartbeats 4000000
/-! PB50: calms of brackets. -/
namespace DI
open PySem
variable {G : Gm}
/-- the numbers below o that are not taken -/
def freeL (o : Nat) (fd : List Int) : List Nat := (List.range o).filter fun (j : Nat) => !fd.contains (j : Int)
def nxC (o : Nat) (fd : List Int) (t : Nat) : Int := if t < o then (o : Int) - 1 else (((List.range o).find? fun (j : Nat) => !fd.contains (j : Int)).getD 0 : Nat)
def clm : List Nat → List Int → Nat → List Int
  | [], fd, _ => fd
  | o :: r, fd, t => clm r (fd ++ [nxC o fd t]) (max t o)
theorem eqv_ints (a b : Int) : PyData.eqv (toPy (.int a)) (toPy (.int b)) = (a == b) := by
  rw [toPy, toPy]; rfl
theorem any_ints (x : Int) : ∀ fd : List Int, ((fd.map D.int).any fun y => PyData.eqv (toPy y) (toPy (.int x))) = fd.contains x
  | [] => rfl
  | a :: r => by
    rw [List.map_cons, List.any_cons, any_ints x r, eqv_ints, List.contains_cons]
    congr 1
    exact Bool.eq_iff_iff.mpr (by rw [beq_iff_eq, beq_iff_eq]; exact eq_comm)
theorem flat_ints : ∀ fd : List Int, (fd.map D.int).all flatD = true
  | [] => rfl
  | a :: r => by rw [List.map_cons, List.all_cons, flat_ints r]; rfl
theorem isin_ints (x : Int) (fd : List Int) : isinD (.int x) (.tup (fd.map D.int)) = some (fd.contains x) := by
  unfold isinD
  dsimp only
  rw [flat_ints]
  show some _ = _
  rw [any_ints]
theorem pigeon : ∀ (o : Nat) (fd : List Int), (∀ j, j < o → (j : Int) ∈ fd) → o ≤ fd.length
  | 0, fd, _ => Nat.zero_le _
  | o + 1, fd, h => by
    have ho := h o (by omega)
    have ih := pigeon o (fd.erase (o : Int)) fun j hj => (List.mem_erase_of_ne (by omega)).mpr (h j (by omega))
    rw [List.length_erase_of_mem ho] at ih
    have := List.length_pos_of_mem ho
    omega
/-- what stands free -/
theorem free_at {o : Nat} {fd : List Int} (h : fd.length < o) : ∃ j r, freeL o fd = j :: r ∧ j < o := by
  cases e : freeL o fd with
  | cons j r =>
    have hj : j ∈ freeL o fd := by rw [e]; exact List.mem_cons_self
    exact ⟨j, r, rfl, List.mem_range.mp (List.mem_filter.mp hj).1⟩
  | nil =>
    exfalso
    have all : ∀ j, j < o → (j : Int) ∈ fd := fun j hj => by
      have := List.filter_eq_nil_iff.mp e j (List.mem_range.mpr hj)
      simpa using this
    have := pigeon o fd all
    omega
theorem free_find {o j : Nat} {fd : List Int} {r : List Nat} (h : freeL o fd = j :: r) : (List.range o).find? (fun (j : Nat) => !fd.contains (j : Int)) = some j := by
  rw [← List.head?_filter]
  show (freeL o fd).head? = _
  rw [h]; rfl
theorem free_last {o : Nat} {fd : List Int} (h : (o : Int) ∉ fd) : freeL (o + 1) fd = freeL o fd ++ [o] := by
  unfold freeL
  rw [List.range_succ, List.filter_append, List.filter_cons_of_pos (by simpa using h), List.filter_nil]
theorem foldl_max_of {m : Int} : ∀ (l : List Int) (a : Int), (a = m ∨ m ∈ l) → a ≤ m → (∀ y ∈ l, y ≤ m) → l.foldl max a = m
  | [], a, h, _, _ => by rcases h with h | h
                         · exact h
                         · cases h
  | x :: r, a, h, h1, h2 => by
    rw [List.foldl_cons]
    have hx := h2 x List.mem_cons_self
    refine foldl_max_of r _ ?_ (by omega) fun y hy => h2 y (List.mem_cons_of_mem _ hy)
    rcases h with h | h
    · left; omega
    · rcases List.mem_cons.mp h with h | h
      · left; omega
      · exact .inr h
structure CI (fd : List Int) (t : Nat) : Prop where
  lt : ∀ x ∈ fd, 0 ≤ x ∧ x < t
  top : fd ≠ [] → (t : Int) - 1 ∈ fd
  nil : fd = [] → t = 0
theorem CI.maxv {fd : List Int} {t : Nat} (h : CI fd t) (hn : fd ≠ []) : bltR .max (.tup (fd.map D.int)) = some (.dat (.int ((t : Int) - 1))) := by
  show ((intsD (fd.map D.int)).bind fun l => (maxI l).map fun i => Res.dat (.int i)) = _
  rw [intsD_map]
  have tp := h.top hn
  cases fd with
  | nil => exact absurd rfl hn
  | cons a r =>
    show some (Res.dat (.int (r.foldl Max.max a))) = _
    rw [foldl_max_of r a (m := (t : Int) - 1) (by rcases List.mem_cons.mp tp with z | z
                                                  · exact .inl z.symm
                                                  · exact .inr z) (by have := h.lt a List.mem_cons_self; omega) fun y hy => by have := h.lt y (List.mem_cons_of_mem _ hy); omega]
theorem CI.next {fd : List Int} {t o : Nat} (h : CI fd t) (ho : fd.length < o) : CI (fd ++ [nxC o fd t]) (max t o) := by
  by_cases q : t < o
  · have e : nxC o fd t = (o : Int) - 1 := if_pos q
    have em : max t o = o := by omega
    rw [e, em]
    refine ⟨fun x hx => ?_, fun _ => by simp, fun z => by simp at z⟩
    rcases List.mem_append.mp hx with hx | hx
    · have := h.lt x hx; omega
    · obtain rfl := List.mem_singleton.mp hx; omega
  · obtain ⟨j, r, e1, e2⟩ := free_at ho
    have e : nxC o fd t = (j : Int) := by unfold nxC; rw [if_neg q, free_find e1]; rfl
    have em : max t o = t := by omega
    rw [e, em]
    have hne : fd ≠ [] := fun z => by have := h.nil z; omega
    refine ⟨fun x hx => ?_, fun _ => List.mem_append_left _ (h.top hne), fun z => by simp at z⟩
    rcases List.mem_append.mp hx with hx | hx
    · exact h.lt x hx
    · obtain rfl := List.mem_singleton.mp hx; omega
def okP (w : List Int) : List Nat → Nat → Prop
  | [], _ => True
  | p :: r, k => p < w.length ∧ k < zb w p ∧ okP w r (k + 1)
structure HCa (G : Gm) : Prop where
  calms : G.fn (Str.ofString "_law_calms") = some TL.f__law_calms
  step : G.fn (Str.ofString "tables_to_calms") = some TL.f_tables_to_calms
theorem clm_len : ∀ (os : List Nat) (fd : List Int) (t : Nat), (clm os fd t).length = fd.length + os.length
  | [], fd, t => rfl
  | o :: r, fd, t => by rw [clm, clm_len r]; simp; omega
theorem p_law_calms (h : HCa G) (hs : G.fn (Str.ofString "_law_shuts") = some TL.f__law_shuts) (w : List Int) (hw : w.length ≤ 1000) (hok : okP w (plN 1 w w.length) 0) {n : Nat} (hn : 2 ≤ n) :
    callF G n (Str.ofString "_law_calms") [.dat (wd w)] = .ok (.dat (.tup ((clm ((plN 1 w w.length).map (zb w)) [] 0).map D.int))) [.dat (wd w)] := by
  obtain ⟨c, rfl⟩ : ∃ c, n = c + 1 := ⟨n - 1, by omega⟩
  rw [callF_s h.calms rfl]
  have e1 := p_shuts hs w (by omega) (n := c) (by omega)
  have inn : ∀ (p : Nat) (a b d e g : Sl), p ≤ w.length → kLc G (callF G c) (.var 5) (.nm 5) (.one (.cmp .eq (.idx (.var 0) (.var 5)) (.int 0))) [5] (rngL 0 p) [.dat (.tup (w.map D.int)), a, b, d, e, .no, .no] =
      .ok (.new ((opn w p).map fun (k : Nat) => D.int (k : Int))) [.dat (.tup (w.map D.int)), a, b, d, e, .no, .no] := by
    intro p a b d e g hp
    refine kLc_rng (fun k => decide (gt w k = 0)) (fun (k : Nat) => D.int (k : Int)) (by simp_arith [if_true]; rfl) (by simp_arith [if_true]) (by simp_arith [if_true]) (fun k hk => ?_) (by unfold LIM; omega)
    exact ⟨_, by simp_arith [if_true]; rfl, by simp_arith [if_true], by simp_arith [atI_gt (show k < w.length by omega)], fun _ => by simp_arith [if_true]⟩
  have inn2 : ∀ (o : Nat) (fd : List Int) (b d : Sl), o ≤ 1000 → kLc G (callF G c) (.var 6) (.nm 6) (.one (.nin (.var 6) (.var 1))) [6] (rngL 0 o) [.dat (.tup (w.map D.int)), .dat (.tup (fd.map D.int)), b, d, .dat (.int o), .no, .no] =
      .ok (.new ((freeL o fd).map fun (k : Nat) => D.int (k : Int))) [.dat (.tup (w.map D.int)), .dat (.tup (fd.map D.int)), b, d, .dat (.int o), .no, .no] := by
    intro o fd b d ho
    refine kLc_rng (fun k => !fd.contains (k : Int)) (fun (k : Nat) => D.int (k : Int)) (by simp_arith [if_true]; rfl) (by simp_arith [if_true]) (by simp_arith [if_true]) (fun k hk => ?_) (by unfold LIM; omega)
    exact ⟨_, by simp_arith [if_true]; rfl, by simp_arith [if_true], by simp_arith [isin_ints], fun _ => by simp_arith [if_true]⟩
  have loop : ∀ (ps : List Nat) (fd : List Int) (t : Nat) (s3 s4 : Sl), okP w ps fd.length → CI fd t → fd.length + ps.length ≤ 1000 → anyS s3 → anyS s4 → ∃ t2 s3' s4', forL (.nm 3) (exs G (callF G c) (match TL.b__law_calms with | .cons _ (.cons _ (.cons (.for_ _ _ b) _)) => b | _ => .nil)) (ps.map fun (k : Nat) => D.int (k : Int)) [.dat (.tup (w.map D.int)), .dat (.tup (fd.map D.int)), .dat (.int t), s3, s4, .no, .no] =
      .nx [.dat (.tup (w.map D.int)), .dat (.tup ((clm (ps.map (zb w)) fd t).map D.int)), .dat (.int (t2 : Nat)), s3', s4', .no, .no] := by
    intro ps
    induction ps with
    | nil => exact fun fd t s3 s4 _ _ _ _ _ => ⟨t, s3, s4, rfl⟩
    | cons p r ih =>
      intro fd t s3 s4 ok ci hl h3 h4
      obtain ⟨o1, o2, o3⟩ := ok
      rw [List.length_cons] at hl
      have zl := zb_le w p
      obtain ⟨t2, s3', s4', e⟩ := ih (fd ++ [nxC (zb w p) fd t]) (max t (zb w p)) (.dat (.int p)) (.dat (.int (zb w p))) (by simpa using o3) (ci.next o2) (by simp; omega) (.inr ⟨_, rfl⟩) (.inr ⟨_, rfl⟩)
      refine ⟨t2, s3', s4', ?_⟩
      simp only [TL.b__law_calms] at e
      rw [List.map_cons, List.map_cons, clm]
      have b1 : ((p : Int)).natAbs < 1152921504606846976 := by omega
      have t1 : ((p : Int)).toNat = p := by omega
      have b2 : ((zb w p : Int)).natAbs < 1152921504606846976 := by omega
      have tt2 : ((zb w p : Int)).toNat = zb w p := by omega
      have zl2 : (((opn w p).map fun (k : Nat) => D.int (k : Int)).length : Int) = (zb w p : Int) := by rw [List.length_map]; rfl
      have lim : (fd.map D.int).length + 1 ≤ LIM := by rw [List.length_map]; unfold LIM; omega
      by_cases q : t < zb w p
      · have em : max t (zb w p) = zb w p := by omega
        have ex : nxC (zb w p) fd t = (zb w p : Int) - 1 := if_pos q
        have q2 : decide ((t : Int) < (zb w p : Int)) = true := decide_eq_true (by omega)
        have el : (fd ++ [nxC (zb w p) fd t]).map D.int = fd.map D.int ++ [.int ((zb w p : Int) - 1)] := by rw [List.map_append, ex]; rfl
        rw [em] at e
        rw [em]
        rw [el] at e
        rcases h3 with rfl | ⟨d3, rfl⟩ <;> rcases h4 with rfl | ⟨d4, rfl⟩ <;> simp_arith [TL.b__law_calms, b1, t1, inn p _ _ _ _ .no (by omega), zl2, q2, lim, e]
      · obtain ⟨j, fr, f1, f2⟩ := free_at o2
        have em : max t (zb w p) = t := by omega
        have ex : nxC (zb w p) fd t = (j : Int) := by unfold nxC; rw [if_neg q, free_find f1]; rfl
        have q2 : decide ((t : Int) < (zb w p : Int)) = false := decide_eq_false (by omega)
        have el : (fd ++ [nxC (zb w p) fd t]).map D.int = fd.map D.int ++ [.int (j : Int)] := by rw [List.map_append, ex]; rfl
        have mn : bltR .min (.lst ((freeL (zb w p) fd).map fun (k : Nat) => D.int (k : Int))) = some (.dat (.int (j : Int))) := by
          show ((intsD _).bind fun l => (minI l).map fun i => Res.dat (.int i)) = _
          have : ((freeL (zb w p) fd).map fun (k : Nat) => D.int (k : Int)) = ((freeL (zb w p) fd).map fun (k : Nat) => (k : Int)).map D.int := by rw [List.map_map]; rfl
          rw [this, intsD_map]
          show (minI (((List.range (zb w p)).filter fun (j : Nat) => !fd.contains (j : Int)).map fun (k : Nat) => (k : Int))).map (fun i => Res.dat (.int i)) = _
          rw [least_find, free_find f1]; rfl
        rw [em] at e
        rw [em]
        rw [el] at e
        rcases h3 with rfl | ⟨d3, rfl⟩ <;> rcases h4 with rfl | ⟨d4, rfl⟩ <;> simp_arith [TL.b__law_calms, b1, t1, inn p _ _ _ _ .no (by omega), zl2, q2, b2, tt2, inn2 (zb w p) fd _ _ (by omega), mn, lim, e]
  obtain ⟨t2, s3', s4', e⟩ := loop (plN 1 w w.length) [] 0 .no .no hok ⟨fun x hx => (nomatch hx), fun z => absurd rfl z, fun _ => rfl⟩ (by
    have : (plN 1 w w.length).length ≤ w.length := by
      unfold plN
      exact Nat.le_trans (List.length_filter_le _ _) (by rw [List.length_range]; omega)
    simp; omega) (.inl rfl) (.inl rfl)
  have pe : plc 1 w = (plN 1 w w.length).map fun (k : Nat) => D.int (k : Int) := rfl
  rw [pe] at e1
  have wde : wd w = .tup (w.map D.int) := rfl
  rw [wde] at e1 ⊢
  simp only [TL.b__law_calms, List.map_nil, Int.natCast_zero] at e
  simp_arith [TL.f__law_calms, TL.b__law_calms, hs, e1, agRes, e]
end DI
end
section
set_option maxRecDepth 100000
set_option linter.all false
set_option Elab.async false
set_option maxHeartbeats 4000000
/-! PB51: the step from tables to calms. -/
namespace DI
open PySem
variable {G : Gm}
theorem plN_lt (w : List Int) (s : Int) (p : Nat) : ∀ n, p ≤ n → (plN s w n).filter (fun k => decide (k < p)) = plN s w p
  | 0, h => by obtain rfl : p = 0 := by omega
               rfl
  | n + 1, h => by
    by_cases e : p = n + 1
    · subst e
      refine List.filter_eq_self.mpr fun a ha => ?_
      have := List.mem_range.mp (List.mem_filter.mp ha).1
      exact decide_eq_true this
    · rw [plN_succ, List.filter_append, plN_lt w s p n (by omega)]
      have : (if gt w n = s then [n] else []).filter (fun k => decide (k < p)) = [] := by
        split
        · rw [List.filter_cons_of_neg (by simp; omega), List.filter_nil]
        · rfl
      rw [this, List.append_nil]
theorem step_body (h : HCa G) (c : CF) (w : List Int) (hw : w.length ≤ 1000) (v : D) : ∀ (ps : List Nat) (pre : List Nat) (fd : List Int) (t : Nat) (s2 s5 s6 : Sl), pre ++ ps = plN 1 w w.length → fd.length = pre.length → okP w ps fd.length → CI fd t → anyS s2 → anyS s5 → anyS s6 → ∃ s2' s5' s6',
    forL (.nm 2) (exs G c (match TL.b_tables_to_calms with | .cons _ (.cons _ (.cons (.for_ _ _ b) _)) => b | _ => .nil)) (rngL (fd.length : Nat) ps.length) [.dat v, .dat (.tup (fd.map D.int)), s2, .dat (.tup (plc 0 w)), .dat (.tup (plc 1 w)), s5, s6, .no] =
      .nx [.dat v, .dat (.tup ((clm (ps.map (zb w)) fd t).map D.int)), s2', .dat (.tup (plc 0 w)), .dat (.tup (plc 1 w)), s5', s6', .no] := by
  intro ps
  induction ps with
  | nil => exact fun pre fd t s2 s5 s6 _ _ _ _ _ _ _ => ⟨s2, s5, s6, rfl⟩
  | cons p r ih =>
    intro pre fd t s2 s5 s6 hp hf ok ci h2 h5 h6
    obtain ⟨o1, o2, o3⟩ := ok
    obtain ⟨s2', s5', s6', e⟩ := ih (pre ++ [p]) (fd ++ [nxC (zb w p) fd t]) (max t (zb w p)) (.dat (.int fd.length)) (.dat (.int (zb w p))) (.dat (.lst ((freeL (zb w p) fd).map fun (k : Nat) => D.int (k : Int)))) (by rw [List.append_assoc]; exact hp) (by simp; exact hf) (by simpa using o3) (ci.next o2) (.inr ⟨_, rfl⟩) (.inr ⟨_, rfl⟩) (.inr ⟨_, rfl⟩)
    refine ⟨s2', s5', s6', ?_⟩
    simp only [TL.b_tables_to_calms] at e
    rw [List.map_cons, clm, List.length_cons, rngL_cons]
    have zl := zb_le w p
    have len : ((fd ++ [nxC (zb w p) fd t]).length : Int) = (fd.length : Int) + 1 := by simp
    rw [len] at e
    have hpl : (plN 1 w w.length).length ≤ w.length := by
      unfold plN
      exact Nat.le_trans (List.length_filter_le _ _) (by rw [List.length_range]; omega)
    have hfl : fd.length < w.length := by
      have : (pre ++ p :: r).length ≤ w.length := by rw [hp]; exact hpl
      simp at this; omega
    have pe : plc 1 w = (plN 1 w w.length).map fun (k : Nat) => D.int (k : Int) := rfl
    have atp : L2.atI (plc 1 w) (fd.length : Int) = some (.int p) := by
      refine L2.atI_nat ?_
      rw [pe, ← hp, List.getElem?_map, hf]
      simp
    have b2 : ((zb w p : Int)).natAbs < 1152921504606846976 := by omega
    have t2 : ((zb w p : Int)).toNat = zb w p := by omega
    have cnt : ∀ (a s6 : Sl), kLc G c (.var 7) (.nm 7) (.one (.cmp .lt (.var 7) (.idx (.var 4) (.var 2)))) [7] (plc 0 w) [.dat v, .dat (.tup (fd.map D.int)), .dat (.int fd.length), .dat (.tup (plc 0 w)), .dat (.tup (plc 1 w)), a, s6, .no] =
        .ok (.new ((plN 0 w p).map fun (k : Nat) => D.int (k : Int))) [.dat v, .dat (.tup (fd.map D.int)), .dat (.int fd.length), .dat (.tup (plc 0 w)), .dat (.tup (plc 1 w)), a, s6, .no] := by
      intro a s6
      rw [kLc_map (fun d => match d with | .int x => decide (x < (p : Int)) | _ => false) id (by rfl) (by simp_arith [if_true]) (by simp_arith [if_true]) (fun d hd => ?_) (by have := plc_len (s := 0) (w := w); unfold LIM; omega)]
      · rw [List.map_id]
        have p0 : plc 0 w = (plN 0 w w.length).map fun (k : Nat) => D.int (k : Int) := rfl
        rw [p0, List.filter_map, ← plN_lt w 0 p w.length (by omega)]
        congr 3
        refine List.filter_congr fun k _ => ?_
        show decide ((k : Int) < (p : Int)) = decide (k < p)
        by_cases q : k < p
        · rw [decide_eq_true q, decide_eq_true (by omega)]
        · rw [decide_eq_false q, decide_eq_false (by omega)]
      · have p0 : plc 0 w = (plN 0 w w.length).map fun (k : Nat) => D.int (k : Int) := rfl
        rw [p0] at hd
        obtain ⟨k, _, rfl⟩ := List.mem_map.mp hd
        exact ⟨_, by simp_arith [if_true]; rfl, by simp_arith [if_true], by simp_arith [atp], fun _ => by simp_arith [id]⟩
    have fr : ∀ (s6 : Sl), kLc G c (.var 7) (.nm 7) (.one (.nin (.var 7) (.var 1))) [7] (rngL 0 (zb w p)) [.dat v, .dat (.tup (fd.map D.int)), .dat (.int fd.length), .dat (.tup (plc 0 w)), .dat (.tup (plc 1 w)), .dat (.int (zb w p)), s6, .no] =
        .ok (.new ((freeL (zb w p) fd).map fun (k : Nat) => D.int (k : Int))) [.dat v, .dat (.tup (fd.map D.int)), .dat (.int fd.length), .dat (.tup (plc 0 w)), .dat (.tup (plc 1 w)), .dat (.int (zb w p)), s6, .no] := by
      intro s6
      refine kLc_rng (fun k => !fd.contains (k : Int)) (fun (k : Nat) => D.int (k : Int)) (by simp_arith [if_true]; rfl) (by simp_arith [if_true]) (by simp_arith [if_true]) (fun k hk => ?_) (by unfold LIM; omega)
      exact ⟨_, by simp_arith [if_true]; rfl, by simp_arith [if_true], by simp_arith [isin_ints], fun _ => by simp_arith [if_true]⟩
    have zl2 : (((plN 0 w p).map fun (k : Nat) => D.int (k : Int)).length : Int) = (zb w p : Int) := by rw [List.length_map]; rfl
    have lim : (fd.map D.int).length + 1 ≤ LIM := by rw [List.length_map]; unfold LIM; omega
    have last : t < zb w p → L2.atI ((freeL (zb w p) fd).map fun (k : Nat) => D.int (k : Int)) (-1) = some (.int ((zb w p : Int) - 1)) := by
      intro q
      obtain ⟨o, ho⟩ : ∃ o, zb w p = o + 1 := ⟨zb w p - 1, by omega⟩
      rw [ho, free_last (by intro z; have := ci.lt _ z; omega), List.map_append]
      have : ((o + 1 : Nat) : Int) - 1 = (o : Int) := by omega
      rw [this]
      exact L2.atI_last _ _
    by_cases q : t < zb w p
    · have ex : nxC (zb w p) fd t = (zb w p : Int) - 1 := if_pos q
      have el : (fd ++ [nxC (zb w p) fd t]).map D.int = fd.map D.int ++ [.int ((zb w p : Int) - 1)] := by rw [List.map_append, ex]; rfl
      rw [el] at e
      by_cases hn : fd = []
      · have q0 : decide (((fd.length : Nat) : Int) = 0) = true := decide_eq_true (by rw [hn]; rfl)
        rcases h2 with rfl | ⟨d2, rfl⟩ <;> rcases h5 with rfl | ⟨d5, rfl⟩ <;> rcases h6 with rfl | ⟨d6, rfl⟩ <;> simp_arith [TL.b_tables_to_calms, cnt, zl2, b2, t2, fr, q0, last q, lim, e]
      · have q0 : decide (((fd.length : Nat) : Int) = 0) = false := decide_eq_false fun z => hn (List.eq_nil_of_length_eq_zero (by omega))
        have q1 : decide ((t : Int) - 1 < (zb w p : Int) - 1) = true := decide_eq_true (by omega)
        rcases h2 with rfl | ⟨d2, rfl⟩ <;> rcases h5 with rfl | ⟨d5, rfl⟩ <;> rcases h6 with rfl | ⟨d6, rfl⟩ <;> simp_arith [TL.b_tables_to_calms, cnt, zl2, b2, t2, fr, q0, ci.maxv hn, q1, last q, lim, e]
    · obtain ⟨j, fr2, f1, f2⟩ := free_at o2
      have ex : nxC (zb w p) fd t = (j : Int) := by unfold nxC; rw [if_neg q, free_find f1]; rfl
      have el : (fd ++ [nxC (zb w p) fd t]).map D.int = fd.map D.int ++ [.int (j : Int)] := by rw [List.map_append, ex]; rfl
      rw [el] at e
      have hn : fd ≠ [] := fun z => by have := ci.nil z; rw [z] at o2; simp at o2; omega
      have q0 : decide (((fd.length : Nat) : Int) = 0) = false := decide_eq_false fun z => hn (List.eq_nil_of_length_eq_zero (by omega))
      have q1 : decide ((t : Int) - 1 < (zb w p : Int) - 1) = false := decide_eq_false (by omega)
      have fst : L2.atI ((freeL (zb w p) fd).map fun (k : Nat) => D.int (k : Int)) 0 = some (.int (j : Int)) := by
        rw [f1]
        exact L2.atI_nat (j := 0) (v := D.int (j : Int)) rfl
      rcases h2 with rfl | ⟨d2, rfl⟩ <;> rcases h5 with rfl | ⟨d5, rfl⟩ <;> rcases h6 with rfl | ⟨d6, rfl⟩ <;> simp_arith [TL.b_tables_to_calms, cnt, zl2, b2, t2, fr, q0, ci.maxv hn, q1, fst, lim, e]
theorem p_step44 (h : HCa G) {w : List Int} (hw : w.length ≤ 1000) (hok : okP w (plN 1 w w.length) 0) {n : Nat} (hn : 1 ≤ n) :
    ∃ g, callF G n (Str.ofString "tables_to_calms") [.dat (.tup [.tup (plc 0 w), .tup (plc 1 w)])] = .ok (.dat (.tup ((clm ((plN 1 w w.length).map (zb w)) [] 0).map D.int))) [g] := by
  obtain ⟨c, rfl⟩ : ∃ c, n = c + 1 := ⟨n - 1, by omega⟩
  rw [callF_s h.step rfl]
  obtain ⟨s2', s5', s6', e⟩ := step_body (G := G) h (callF G c) w hw (.tup [.tup (plc 0 w), .tup (plc 1 w)]) (plN 1 w w.length) [] [] 0 .no .no .no rfl rfl hok ⟨fun x hx => (nomatch hx), fun z => absurd rfl z, fun _ => rfl⟩ (.inl rfl) (.inl rfl) (.inl rfl)
  have pl : (plc 1 w).length = (plN 1 w w.length).length := by rw [show plc 1 w = (plN 1 w w.length).map fun (k : Nat) => D.int (k : Int) from rfl, List.length_map]
  have hpl := plc_len (s := 1) (w := w)
  have b1 : (((plc 1 w).length : Int)).natAbs < 1152921504606846976 := by omega
  have t1 : (((plc 1 w).length : Int)).toNat = (plN 1 w w.length).length := by omega
  simp only [TL.b_tables_to_calms, List.map_nil, List.length_nil, Int.natCast_zero] at e
  exact ⟨_, by simp_arith [TL.f_tables_to_calms, TL.b_tables_to_calms, b1, t1, e]; rfl⟩
theorem shut_ok {w : List Int} (p : Pre 0 w) : okP w (plN 1 w w.length) 0 := by
  have hb := p.bits
  have hbit : ∀ k, k < w.length → gt w k = 0 ∨ gt w k = 1 := fun k hk => p.bit k hk
  have h2 := p.hts.2
  have go : ∀ (ps pre : List Nat), pre ++ ps = plN 1 w w.length → okP w ps pre.length := by
    intro ps
    induction ps with
    | nil => exact fun _ _ => trivial
    | cons b r ih =>
      intro pre hp
      have at_ : (plN 1 w w.length)[pre.length]? = some b := by rw [← hp]; simp
      obtain ⟨b2, b3, b4⟩ := plN_at 1 w w.length _ _ at_
      refine ⟨b3, ?_, by simpa using ih (pre ++ [b]) (by rw [List.append_assoc]; exact hp)⟩
      have hh2 := h2 (b + 1) (by omega)
      have e2 := hts_zb hb (b + 1) (by omega)
      have bo2 := plN_both hbit (b + 1) (by omega)
      have s2 : (plN 1 w (b + 1)).length = pre.length + 1 := by rw [plN_succ, b4, if_pos rfl, List.length_append, b2]; rfl
      have z0 : (plN 0 w (b + 1)).length = (plN 0 w b).length := by rw [plN_succ, b4, if_neg (by decide), List.append_nil]
      have zo : ∀ n, zb w n = (plN 0 w n).length := fun _ => rfl
      rw [zo] at e2 ⊢
      omega
  exact go _ [] rfl
end DI
end
section
set_option maxRecDepth 100000
set_option linter.all false
set_option Elab.async false
set_option maxHeartbeats 4000000
/-! PB52: tables: sizes. -/
namespace DI
open PySem
variable {G : Gm}
theorem tab_row {w : List Int} (hw : w.length ≤ 20) : ∃ xs, (D.tup [.tup (plc 0 w), .tup (plc 1 w)]) = .tup xs ∧ shD 30 (.tup xs) = true ∧ smI (.tup xs) = true ∧ wt (.tup xs) ≤ 1000000 := by
  have l0 := plc_len (s := 0) (w := w)
  have l1 := plc_len (s := 1) (w := w)
  have sm : ∀ s, ∀ n ∈ plI s w, n.natAbs < 10 ^ 9 := fun s n hn => by
    unfold plI at hn
    obtain ⟨k, hk, rfl⟩ := List.mem_map.mp hn
    have hk : k < w.length := List.mem_range.mp (List.mem_filter.mp hk).1
    have e : (10 : Nat) ^ 9 = 1000000000 := rfl
    omega
  obtain ⟨a0, b0⟩ := smIs_map (plI 0 w) (sm 0)
  obtain ⟨a1, b1⟩ := smIs_map (plI 1 w) (sm 1)
  rw [← plc_eq] at a0 b0 a1 b1
  have sh : ∀ s, shD 29 (.tup (plc s w)) = true := fun s => shD_tup (by have := plc_len (s := s) (w := w); omega) fun x hx => by
    rw [plc_eq] at hx
    obtain ⟨i, _, rfl⟩ := List.mem_map.mp hx; rfl
  refine ⟨_, rfl, shD_tup (by simp) (fun x hx => ?_), ?_, ?_⟩
  · simp only [List.mem_cons, List.not_mem_nil, or_false] at hx
    rcases hx with rfl | rfl
    · exact sh 0
    · exact sh 1
  · show (smIs (plc 0 w) && (smIs (plc 1 w) && true)) = true
    rw [a0, a1]; rfl
  · show 4 + ((4 + wts (plc 0 w) + 2) + ((4 + wts (plc 1 w) + 2) + 0)) ≤ 1000000
    rw [b0, b1]
    have e0 : (plI 0 w).length = (plc 0 w).length := by rw [plc_eq, List.length_map]
    have e1 : (plI 1 w).length = (plc 1 w).length := by rw [plc_eq, List.length_map]
    omega
theorem tab_okD {w : List Int} (hw : w.length ≤ 20) : okD 40 (.tup [.tup (plc 0 w), .tup (plc 1 w)]) = true := by
  obtain ⟨xs, e, sh, _, _⟩ := tab_row hw
  rw [e]
  exact okD_le (by omega) (shD_ok sh)
end DI
end
section
set_option maxRecDepth 100000
set_option linter.all false
set_option Elab.async false
set_option maxHeartbeats 4000000
/-! PB55: comprehensions of two sources; pairs of ints and their order. -/
namespace DI
open PySem
variable {G : Gm}
section
variable {c : CF} {ρ : Ro}
theorem lcL2_pure {itF : Ro → Out (List D)} {e : Ro → Out D} {t t2 : Tg} {own own2 : List Nat} (I : D → List D) (f : D → D → D) :
    ∀ (ds : List D) (acc : List D), (∀ d ∈ ds, ∃ ρ1, asg t d ρ = some ρ1 ∧ itF ρ1 = .ok (I d) ρ1 ∧ wipeR (wipeR ρ1 own2) own = ρ ∧ ∀ x ∈ I d, ∃ ρ2, asg t2 x (wipeR ρ1 own2) = some ρ2 ∧ wipeR ρ2 own2 = wipeR ρ1 own2 ∧ e ρ2 = .ok (f d x) ρ2) → acc.length + (ds.flatMap I).length ≤ LIM →
      lcL2 itF e t t2 own own2 ds ρ acc = .ok (acc ++ ds.flatMap fun d => (I d).map (f d)) ρ
  | [], acc, _, _ => by simp [lcL2]
  | d :: r, acc, h, hl => by
    obtain ⟨ρ1, h1, h2, h3, h4⟩ := h d List.mem_cons_self
    rw [List.flatMap_cons, List.length_append] at hl
    rw [lcL2, h1]
    dsimp only
    rw [h2, z_zb1, lcL_pure (fun _ => true) (f d) (I d) acc (fun x hx => by
      obtain ⟨ρ2, a1, a2, a3⟩ := h4 x hx
      exact ⟨ρ2, a1, a2, rfl, fun _ => a3⟩) (by omega), z_zb1, h3, filt_yes, lcL2_pure I f r _ (fun d hd => h d (List.mem_cons_of_mem _ hd)) (by rw [List.length_append, List.length_map]; omega)]
    rw [List.flatMap_cons, List.append_assoc]
theorem kLd_pure {elt : ME} {t t2 : Tg} {it2 : MI} {own own2 : List Nat} {ds : List D} (I : D → List D) (f : D → D → D) (ho : (own.all fun i => (cellAt ρ i).isNone) = true)
    (h : ∀ d ∈ ds, ∃ ρ1, asg t d (wipeR ρ own) = some ρ1 ∧ evI G c it2 ρ1 = .ok (I d) ρ1 ∧ wipeR (wipeR ρ1 own2) own = wipeR ρ own ∧ ∀ x ∈ I d, ∃ ρ2, asg t2 x (wipeR ρ1 own2) = some ρ2 ∧ wipeR ρ2 own2 = wipeR ρ1 own2 ∧ eD G c elt ρ2 = .ok (f d x) ρ2) (hl : (ds.flatMap I).length ≤ LIM) :
    kLd G c elt t t2 it2 own own2 ds ρ = .ok (.new (ds.flatMap fun d => (I d).map (f d))) (unwipe ρ (wipeR ρ own) own) := by
  unfold kLd
  rw [if_pos ho, lcL2_pure I f ds [] h (by simpa using hl)]
  rfl
end
/-! ### pairs -/
def pr (p : Int × Int) : D := .tup [.int p.1, .int p.2]
def pg (ps : List (Int × Int)) (k : Nat) : Int × Int := ps.getD k (0, 0)
def pairB (d : D) : Bool := rowB d && (match d with | .tup xs => decide (xs.length = 2) | _ => false)
def pairsB : D → Bool | .tup xs => decide (xs.length ≤ 1000) && xs.all pairB | _ => false
def prI : D → Int × Int | .tup [.int a, .int b] => (a, b) | _ => (0, 0)
def pairsI : D → List (Int × Int) | .tup xs => xs.map prI | _ => []
theorem pair_of {d : D} (h : pairB d = true) : ∃ p : Int × Int, d = pr p ∧ prI d = p := by
  unfold pairB at h
  cases d with
  | tup xs =>
    rw [Bool.and_eq_true, decide_eq_true_eq] at h
    obtain ⟨ns, e, _⟩ := row_tup h.1
    cases e
    match ns, h.2 with
    | [a, b], _ => exact ⟨(a, b), rfl, rfl⟩
  | _ => rw [Bool.and_eq_true] at h; exact absurd h.2 Bool.false_ne_true
theorem pairs_of : ∀ {xs : List D}, xs.all pairB = true → ∃ ps : List (Int × Int), xs = ps.map pr ∧ xs.map prI = ps
  | [], _ => ⟨[], rfl, rfl⟩
  | d :: r, h => by
    rw [List.all_cons, Bool.and_eq_true] at h
    obtain ⟨p, rfl, e1⟩ := pair_of h.1
    obtain ⟨ps, e2, e3⟩ := pairs_of h.2
    exact ⟨p :: ps, by rw [e2]; rfl, by rw [List.map_cons, e1, e3]⟩
theorem pairsI_pr (ps : List (Int × Int)) : pairsI (.tup (ps.map pr)) = ps := by
  unfold pairsI
  dsimp only
  rw [List.map_map]
  have : prI ∘ pr = id := by funext p; rfl
  rw [this, List.map_id]
theorem pg_at {ps : List (Int × Int)} {k : Nat} (h : k < ps.length) : ps[k]? = some (pg ps k) := by
  unfold pg; rw [List.getD_eq_getElem?_getD, List.getElem?_eq_getElem h]; rfl
theorem atI_pg {ps : List (Int × Int)} {k : Nat} (h : k < ps.length) : L2.atI (ps.map pr) (k : Int) = some (pr (pg ps k)) :=
  L2.atI_nat (by rw [List.getElem?_map, pg_at h]; rfl)
theorem at0 {a b : D} : L2.atI [a, b] 0 = some a := rfl
theorem at1 {a b : D} : L2.atI [a, b] 1 = some b := rfl
theorem map_pg {α : Type} (ps : List (Int × Int)) (g : Int × Int → α) : ps.map g = (List.range ps.length).map fun (k : Nat) => g (pg ps k) := by
  refine List.ext_getElem? fun i => ?_
  rw [List.getElem?_map, List.getElem?_map]
  by_cases h : i < ps.length
  · rw [pg_at h, List.getElem?_range h]; rfl
  · rw [List.getElem?_eq_none (by omega), List.getElem?_eq_none (by rw [List.length_range]; omega)]; rfl
def pltB (a b : Int × Int) : Bool := if a.1 = b.1 then decide (a.2 < b.2) else decide (a.1 < b.1)
theorem lt_pr (a b : Int × Int) : PySem.W.dataLt (toPy (pr a)) (toPy (pr b)) = pltB a b := by
  obtain ⟨a1, a2⟩ := a
  obtain ⟨b1, b2⟩ := b
  have al : ∀ i j : Int, PySem.W.alike (.int i) (.int j) = true := fun _ _ => rfl
  unfold pr pltB
  rw [toPy, toPys, toPys, toPys, toPy, toPy, toPy, toPys, toPys, toPys, toPy, toPy, PySem.W.dataLt_tuple]
  dsimp only
  by_cases e : a1 = b1
  · rw [if_pos e, PySem.W.dataLt_all_yes (al _ _) (show (a1 == b1) = true from beq_iff_eq.mpr e)]
    by_cases e2 : a2 = b2
    · rw [PySem.W.dataLt_all_yes (al _ _) (show (a2 == b2) = true from beq_iff_eq.mpr e2)]
      rw [decide_eq_false (by omega)]; rfl
    · rw [PySem.W.dataLt_all_no (al _ _) (show (a2 == b2) = false from beq_eq_false_iff_ne.mpr e2), PySem.W.dataLt_int]
  · rw [if_neg e, PySem.W.dataLt_all_no (al _ _) (show (a1 == b1) = false from beq_eq_false_iff_ne.mpr e), PySem.W.dataLt_int]
theorem cmpOk_pr (a b : Int × Int) : cmpOk (pr a) (pr b) = true := by
  unfold cmpOk pr
  rw [toPy, toPys, toPys, toPys, toPy, toPy, toPy, toPys, toPys, toPys, toPy, toPy]
  rfl
theorem gt_pr (a b : Int × Int) : cmpD .gt (pr a) (pr b) = some (pltB b a) := by
  show (if cmpOk (pr a) (pr b) = true then some (PySem.W.dataLt (toPy (pr b)) (toPy (pr a))) else none) = _
  rw [cmpOk_pr, lt_pr]; rfl
theorem ge_pr (a b : Int × Int) : cmpD .ge (pr a) (pr b) = some (!pltB a b) := by
  show (if cmpOk (pr a) (pr b) = true then some (!PySem.W.dataLt (toPy (pr a)) (toPy (pr b))) else none) = _
  rw [cmpOk_pr, lt_pr]; rfl
end DI
end
section
set_option maxRecDepth 100000
set_option linter.all false
set_option Elab.async false
set_option maxHeartbeats 4000000
/-! PB56: rows of pairs, told twice. -/
namespace DI
open PySem
variable {G : Gm}
structure HPr (G : Gm) : Prop where
  pairs : G.fn (Str.ofString "are_pairs") = some TL.f_are_pairs
  lpairs : G.fn (Str.ofString "_law_pairs_form") = some TL.f__law_pairs_form
theorem small_lc (hA : HA G) {c : Nat} (hc : 1 ≤ c) {xs : List D} (hl : xs.length ≤ NR) (m : D) :
    kLc G (callF G c) (.var 4) (.nm 4) (.one (.or (.nt (.call (Str.ofString "_law_is_integer") (.cons (.var 4) .nil))) (.or (.cmp .lt (.var 4) (.var 2)) (.cmp .gt (.var 4) (.var 3))))) [4] xs [.dat (.tup xs), .dat m, .dat (.int 0), .dat (.int 1000), .no] =
          .ok (.new (xs.filter fun d => !small d)) [.dat (.tup xs), .dat m, .dat (.int 0), .dat (.int 1000), .no] := by
  rw [kLc_map (fun d => !small d) id (by rfl) (by simp_arith [if_true]) (by simp_arith [if_true]) (fun d _ => ?_) (by unfold NR at hl; unfold LIM; omega)]
  · rw [List.map_id]
  · refine ⟨_, by simp_arith [if_true]; rfl, by simp_arith [if_true], ?_, fun _ => by simp_arith [id]⟩
    have w := p_is_integer' hA d (n := c) (by omega)
    cases d with
    | int i =>
      have w : callF G c (Str.ofString "_law_is_integer") [.dat (.int i)] = .ok (.dat (.bl true)) [.dat (.int i)] := w
      have e1 : decide (i < 0) = !decide (0 ≤ i) := by
        by_cases q : 0 ≤ i
        · rw [decide_eq_true q, decide_eq_false (by omega)]; rfl
        · rw [decide_eq_false q, decide_eq_true (by omega)]; rfl
      have e2 : decide (1000 < i) = !decide (i ≤ 1000) := by
        by_cases q : i ≤ 1000
        · rw [decide_eq_true q, decide_eq_false (by omega)]; rfl
        · rw [decide_eq_false q, decide_eq_true (by omega)]; rfl
      cases q1 : decide (0 ≤ i) <;> cases q2 : decide (i ≤ 1000) <;> rw [q1] at e1 <;> rw [q2] at e2 <;> simp_arith [hA.is_integer, w, small, e1, e2, q1, q2]
    | bl b =>
      have w : callF G c (Str.ofString "_law_is_integer") [.dat (.bl b)] = .ok (.dat (.bl false)) [.dat (.bl b)] := w
      simp_arith [hA.is_integer, w, small]
    | non =>
      have w : callF G c (Str.ofString "_law_is_integer") [.dat .non] = .ok (.dat (.bl false)) [.dat .non] := w
      simp_arith [hA.is_integer, w, small]
    | str x =>
      have w : callF G c (Str.ofString "_law_is_integer") [.dat (.str x)] = .ok (.dat (.bl false)) [.dat (.str x)] := w
      simp_arith [hA.is_integer, w, small]
    | tup x =>
      have w : callF G c (Str.ofString "_law_is_integer") [.dat (.tup x)] = .ok (.dat (.bl false)) [.dat (.tup x)] := w
      simp_arith [hA.is_integer, w, small]
    | lst x =>
      have w : callF G c (Str.ofString "_law_is_integer") [.dat (.lst x)] = .ok (.dat (.bl false)) [.dat (.lst x)] := w
      simp_arith [hA.is_integer, w, small]
theorem all_len0 (f : D → Bool) (xs : List D) : decide ((((xs.filter fun d => !f d).length : Nat) : Int) = 0) = xs.all f := by
  have e := not_all f xs
  cases q : xs.all f <;> rw [q] at e
  · exact decide_eq_false fun z => by rw [z] at e; exact absurd e (by decide)
  · have e := of_decide_eq_false e
    exact decide_eq_true (by omega)
theorem p_law_row2 (hA : HA G) (h : HRx G) {k : Nat} {d : D} (hd : okD k d = true) {n : Nat} (hn : 3 ≤ n) :
    callF G n (Str.ofString "_law_is_row") [.dat d, .dat (.int 2), .dat (.int 0), .dat (.int 1000)] = .ok (.dat (.bl (pairB d))) [.dat d, .dat (.int 2), .dat (.int 0), .dat (.int 1000)] := by
  obtain ⟨c, rfl⟩ : ∃ c, n = c + 1 := ⟨n - 1, by omega⟩
  rw [callF_s h.lrow rfl]
  cases d with
  | tup xs =>
    obtain ⟨hl, j, _, _⟩ := okD_tup' hd
    have lc := small_lc hA (c := c) (by omega) hl (.int 2)
    by_cases q : xs.length = 2
    · have e : pairB (.tup xs) = xs.all small := by
        show (decide (xs.length ≤ 1000) && xs.all small && decide (xs.length = 2)) = _
        rw [decide_eq_true q, decide_eq_true (show xs.length ≤ 1000 by omega), Bool.true_and, Bool.and_true]
      have q2 : decide ((xs.length : Int) = 2) = true := decide_eq_true (by omega)
      rw [e]
      simp_arith [TL.f__law_is_row, TL.b__law_is_row, tyIs, q2, lc, all_len0]
    · have e : pairB (.tup xs) = false := by
        show (decide (xs.length ≤ 1000) && xs.all small && decide (xs.length = 2)) = _
        rw [decide_eq_false q, Bool.and_false]
      have q2 : decide ((xs.length : Int) = 2) = false := decide_eq_false (by omega)
      rw [e]
      simp_arith [TL.f__law_is_row, TL.b__law_is_row, tyIs, q2]
  | _ => simp_arith [TL.f__law_is_row, TL.b__law_is_row, tyIs, pairB, rowB]
theorem p_are_pairs (h : HPr G) (hr : HRx G) {k : Nat} {d : D} (hd : okD k d = true) {n : Nat} (hn : 4 ≤ n) : callF G n (Str.ofString "are_pairs") [.dat d] = .ok (.dat (.bl (pairsB d))) [.dat d] := by
  obtain ⟨c, rfl⟩ : ∃ c, n = c + 1 := ⟨n - 1, by omega⟩
  rw [callF_s h.pairs rfl]
  cases d with
  | tup xs =>
    obtain ⟨hl, j, _, hx⟩ := okD_tup' hd
    have lc : kLc G (callF G c) (.and (.call (Str.ofString "is_row") (.cons (.var 1) .nil)) (.cmp .eq (.blt .len (.var 1)) (.int 2))) (.nm 1) .yes [1] xs [.dat (.tup xs), .no] = .ok (.new (xs.map fun d => .bl (pairB d))) [.dat (.tup xs), .no] := by
      rw [kLc_map (fun _ => true) (fun d => .bl (pairB d)) (by rfl) (by simp_arith [if_true]) (by simp_arith [if_true]) (fun d hd => ?_) (by unfold NR at hl; unfold LIM; omega)]
      · rw [filt_yes]
      · have r := p_is_row hr (hx d hd) (n := c) (by omega)
        refine ⟨_, by simp_arith [if_true]; rfl, by simp_arith [if_true], z_m9, fun _ => ?_⟩
        cases q : rowB d with
        | false =>
          rw [q] at r
          have e : pairB d = false := by unfold pairB; rw [q]; rfl
          simp_arith [hr.row, r, e]
        | true =>
          rw [q] at r
          obtain ⟨ns, rfl, _⟩ := row_tup q
          have e : pairB (.tup (ns.map D.int)) = decide ((ns.length : Int) = 2) := by
            show (rowB (.tup (ns.map D.int)) && decide ((ns.map D.int).length = 2)) = _
            rw [q, List.length_map, Bool.true_and]
            by_cases z : ns.length = 2
            · rw [decide_eq_true z, decide_eq_true (by omega)]
            · rw [decide_eq_false z, decide_eq_false (by omega)]
          simp_arith [hr.row, r, e, List.length_map]
    have all : bltR .all (.lst (xs.map fun d => .bl (pairB d))) = some (.dat (.bl (xs.all pairB))) := by rw [z_v45 (boolsD_map pairB xs), all_id]
    by_cases q : xs.length ≤ 1000
    · have q2 : decide (1000 < (xs.length : Int)) = false := decide_eq_false (by omega)
      have e : pairsB (.tup xs) = xs.all pairB := by show (decide (xs.length ≤ 1000) && xs.all pairB) = _; rw [decide_eq_true q, Bool.true_and]
      rw [e]
      simp_arith [TL.f_are_pairs, TL.b_are_pairs, tyIs, hr.most, q2, lc, all]
    · have q2 : decide (1000 < (xs.length : Int)) = true := decide_eq_true (by omega)
      have e : pairsB (.tup xs) = false := by show (decide (xs.length ≤ 1000) && xs.all pairB) = _; rw [decide_eq_false q, Bool.false_and]
      rw [e]
      simp_arith [TL.f_are_pairs, TL.b_are_pairs, tyIs, hr.most, q2]
  | _ => simp_arith [TL.f_are_pairs, TL.b_are_pairs, tyIs, pairsB]
theorem p_law_pairs (hA : HA G) (h : HPr G) (hr : HRx G) {k : Nat} {d : D} (hd : okD k d = true) {n : Nat} (hn : 4 ≤ n) : callF G n (Str.ofString "_law_pairs_form") [.dat d] = .ok (.dat (.bl (pairsB d))) [.dat d] := by
  obtain ⟨c, rfl⟩ : ∃ c, n = c + 1 := ⟨n - 1, by omega⟩
  rw [callF_s h.lpairs rfl]
  cases d with
  | tup xs =>
    obtain ⟨hl, j, _, hx⟩ := okD_tup' hd
    have lc : kLc G (callF G c) (.var 1) (.nm 1) (.one (.nt (.call (Str.ofString "_law_is_row") (.cons (.var 1) (.cons (.int 2) (.cons (.int 0) (.cons (.int 1000) .nil))))))) [1] xs [.dat (.tup xs), .no] = .ok (.new (xs.filter fun d => !pairB d)) [.dat (.tup xs), .no] := by
      rw [kLc_map (fun d => !pairB d) id (by rfl) (by simp_arith [if_true]) (by simp_arith [if_true]) (fun d hd => ?_) (by unfold NR at hl; unfold LIM; omega)]
      · rw [List.map_id]
      · have r := p_law_row2 hA hr (hx d hd) (n := c) (by omega)
        exact ⟨_, by simp_arith [if_true]; rfl, by simp_arith [if_true], by simp_arith [hr.lrow, r], fun _ => by simp_arith [id]⟩
    by_cases q : xs.length ≤ 1000
    · have q2 : decide ((xs.length : Int) ≤ 1000) = true := decide_eq_true (by omega)
      have e : pairsB (.tup xs) = xs.all pairB := by show (decide (xs.length ≤ 1000) && xs.all pairB) = _; rw [decide_eq_true q, Bool.true_and]
      rw [e]
      simp_arith [TL.f__law_pairs_form, TL.b__law_pairs_form, tyIs, q2, lc, all_len0]
    · have q2 : decide ((xs.length : Int) ≤ 1000) = false := decide_eq_false (by omega)
      have e : pairsB (.tup xs) = false := by show (decide (xs.length ≤ 1000) && xs.all pairB) = _; rw [decide_eq_false q, Bool.false_and]
      rw [e]
      simp_arith [TL.f__law_pairs_form, TL.b__law_pairs_form, tyIs, q2]
  | _ => simp_arith [TL.f__law_pairs_form, TL.b__law_pairs_form, tyIs, pairsB]
theorem pairs_tup {d : D} (h : pairsB d = true) : ∃ ps : List (Int × Int), d = .tup (ps.map pr) ∧ ps.length ≤ 1000 := by
  cases d with
  | tup xs =>
    obtain ⟨q1, q2⟩ := Bool.and_eq_true_iff.mp (show (decide (xs.length ≤ 1000) && xs.all pairB) = true from h)
    obtain ⟨ps, rfl, _⟩ := pairs_of q2
    exact ⟨ps, rfl, by have := of_decide_eq_true q1; rwa [List.length_map] at this⟩
  | _ => cases h
end DI
end
section
set_option maxRecDepth 100000
set_option linter.all false
set_option Elab.async false
set_option maxHeartbeats 8000000
/-! PB57: points joined two by two: their faults, told twice. -/
namespace DI
open PySem
variable {G : Gm}
structure HJn (G : Gm) : Prop where
  joins : G.fn (Str.ofString "joins_fault") = some TL.f_joins_fault
  ljoins : G.fn (Str.ofString "_law_joins") = some TL.f__law_joins
def flatP (ps : List (Int × Int)) : List Int := ps.flatMap fun p => [p.1, p.2]
theorem flatP_len : ∀ ps, (flatP ps).length = 2 * ps.length
  | [] => rfl
  | p :: r => by
    show ([p.1, p.2] ++ flatP r).length = _
    rw [List.length_append, flatP_len r, List.length_cons]; simp; omega
theorem flatP_map (ps : List (Int × Int)) : ((ps.map pr).flatMap fun d => match d with | .tup xs => xs | _ => []) = (flatP ps).map D.int := by
  unfold flatP
  rw [List.flatMap_map, List.map_flatMap]
  rfl
def joinsPs (ps : List (Int × Int)) : List (Str × D) :=
  [(Str.ofString "point", firstT (2 * ps.length) (wrB (flatP ps))),
   (Str.ofString "turned", firstT ps.length fun k => decide ((pg ps k).2 < (pg ps k).1)),
   (Str.ofString "order", firstT (ps.length - 1) fun k => pltB (pg ps (k + 1)) (pg ps k))]
def joinsF (d : D) : D := if pairsB d = true then firstP (joinsPs (pairsI d)) else .tup [.str (Str.ofString "form"), .int 0]
theorem joinsF_kind (d : D) : joinsF d = .non ∨ ∃ x y, joinsF d = .tup [x, y] := by
  unfold joinsF
  split
  · rcases firstP_kind (joinsPs (pairsI d)) with e | ⟨x, y, e⟩
    · exact .inl e
    · exact .inr ⟨_, _, e⟩
  · exact .inr ⟨_, _, rfl⟩
theorem joinsF_ok (d : D) : okD 1 (joinsF d) = true := by
  unfold joinsF
  split
  · refine firstP_ok fun q hq => ?_
    unfold joinsPs at hq
    simp only [List.mem_cons, List.not_mem_nil, or_false] at hq
    rcases hq with rfl | rfl | rfl
    · exact ⟨(show okS (Str.ofString "point") = true by decide +kernel), firstT_ok⟩
    · exact ⟨(show okS (Str.ofString "turned") = true by decide +kernel), firstT_ok⟩
    · exact ⟨(show okS (Str.ofString "order") = true by decide +kernel), firstT_ok⟩
  · decide +kernel
theorem joinsF_pr {ps : List (Int × Int)} (h : pairsB (.tup (ps.map pr)) = true) : joinsF (.tup (ps.map pr)) = firstP (joinsPs ps) := by
  unfold joinsF; rw [if_pos h, pairsI_pr]
/-- comparing the next one with this one -/
theorem atI_pg1 {ps : List (Int × Int)} {k : Nat} (h : k + 1 < ps.length) : L2.atI (ps.map pr) ((k : Int) + 1) = some (pr (pg ps (k + 1))) := atI_pg (k := k + 1) h
theorem p_joins (h : HJn G) (hp : HPr G) (hr : HRx G) (hf : HF G) (hw : HWr G) {k : Nat} {d : D} (hd : okD k d = true) {n : Nat} (hn : 5 ≤ n) : callF G n (Str.ofString "joins_fault") [.dat d] = .ok (.dat (joinsF d)) [.dat d] := by
  obtain ⟨c, rfl⟩ : ∃ c, n = c + 1 := ⟨n - 1, by omega⟩
  have r := p_are_pairs hp hr hd (n := c) (by omega)
  rw [callF_s h.joins rfl]
  cases q : pairsB d with
  | false =>
    rw [q] at r
    have e : joinsF d = .tup [.str (Str.ofString "form"), .int 0] := by unfold joinsF; rw [if_neg (by rw [q]; decide)]
    rw [e]
    simp_arith [TL.f_joins_fault, TL.b_joins_fault, hp.pairs, r, hr.form]
  | true =>
    rw [q] at r
    obtain ⟨ps, rfl, hl⟩ := pairs_tup q
    rw [joinsF_pr q]
    have fl := flatP_len ps
    have ld : ∀ s1 s2 s3 : Sl, (∀ l, s1 ≠ .own l ∧ s1 ≠ .lent l) → kLd G (callF G c) (.var 1) (.nm 4) (.nm 1) (.seq (.var 4)) [4, 1] [1] (ps.map pr) [.dat (.tup (ps.map pr)), .no, s2, s3, .no, .no] = .ok (.new ((flatP ps).map D.int)) [.dat (.tup (ps.map pr)), .no, s2, s3, .no, .no] := by
      intro s1 s2 s3 _
      rw [kLd_pure (fun d => match d with | .tup xs => xs | _ => []) (fun _ x => x) (by simp_arith [if_true]; rfl) (fun d hd => ?_) (by rw [flatP_map, List.length_map, fl]; unfold LIM; omega)]
      · simp_arith [List.map_id', flatP_map]
      · obtain ⟨p, _, rfl⟩ := List.mem_map.mp hd
        refine ⟨_, by simp_arith [if_true]; rfl, by simp_arith [pr], by simp_arith [if_true], fun x hx => ⟨_, by simp_arith [if_true]; rfl, by simp_arith [if_true], by simp_arith [if_true]⟩⟩
    have mu : binR .mul (.int 2) (.int (ps.length : Int)) = some (.dat (.int ((2 * ps.length : Nat) : Int))) := by rw [z_v3 (.inl (by decide))]; rfl
    have fw := p_first_wrong hw hf (flatP ps) (2 * ps.length) (by omega) (n := c) (by omega)
    have lt : ∀ s1 : Sl, kLc G (callF G c) (.cmp .gt (.idx (.var 4) (.int 0)) (.idx (.var 4) (.int 1))) (.nm 4) .yes [4] (ps.map pr) [.dat (.tup (ps.map pr)), s1, .no, .no, .no, .no] =
        .ok (.new ((List.range ps.length).map fun (k : Nat) => D.bl (decide ((pg ps k).2 < (pg ps k).1)))) [.dat (.tup (ps.map pr)), s1, .no, .no, .no, .no] := by
      intro s1
      rw [kLc_map (fun _ => true) (fun d => .bl (decide ((prI d).2 < (prI d).1))) (by simp_arith [if_true]; rfl) (by simp_arith [if_true]) (by simp_arith [if_true]) (fun d hd => ?_) (by rw [List.length_map]; unfold LIM; omega)]
      · rw [filt_yes, List.map_map, ← map_pg ps (fun p => D.bl (decide (p.2 < p.1)))]; rfl
      · obtain ⟨p, _, rfl⟩ := List.mem_map.mp hd
        exact ⟨_, by simp_arith [if_true]; rfl, by simp_arith [if_true], z_m9, fun _ => by simp_arith [pr, at0, at1]; rfl⟩
    have ft := p_first_true hf ps.length (fun k => decide ((pg ps k).2 < (pg ps k).1)) (by omega) (n := c) (by omega)
    have lo : ∀ s1 s2 : Sl, kLc G (callF G c) (.cmp .gt (.idx (.var 0) (.var 5)) (.idx (.var 0) (.bin .add (.var 5) (.int 1)))) (.nm 5) .yes [5] (rngL 0 (ps.length - 1)) [.dat (.tup (ps.map pr)), s1, s2, .no, .no, .no] =
        .ok (.new ((List.range (ps.length - 1)).map fun (k : Nat) => D.bl (pltB (pg ps (k + 1)) (pg ps k)))) [.dat (.tup (ps.map pr)), s1, s2, .no, .no, .no] := by
      intro s1 s2
      rw [kLc_rng (fun _ => true) (fun k => .bl (pltB (pg ps (k + 1)) (pg ps k))) (by simp_arith [if_true]; rfl) (by simp_arith [if_true]) (by simp_arith [if_true]) (fun k hk => ?_) (by unfold LIM; omega)]
      · rw [filt_yes]
      · exact ⟨_, by simp_arith [if_true]; rfl, by simp_arith [if_true], z_m9, fun _ => by simp_arith [atI_pg1 (show k + 1 < ps.length by omega), atI_pg (show k < ps.length by omega), gt_pr]⟩
    have fo' := p_first_true hf (ps.length - 1) (fun k => pltB (pg ps (k + 1)) (pg ps k)) (by omega) (n := c) (by omega)
    obtain ⟨g, fo⟩ := p_first_of hf (joinsPs ps) (n := c) (by omega)
    simp only [joinsPs, List.map_cons, List.map_nil] at fo
    have fa : ∀ x d, callF G c (Str.ofString "fault_at") [.dat (.str x), .dat d] = .ok (.dat (faultAt x d)) [.dat (.str x), .dat d] := fun x d => p_fault_at hf x d (by omega)
    have b1 : ((ps.length : Int) - 1).natAbs < 1152921504606846976 := by omega
    have t1 : ((ps.length : Int) - 1).toNat = ps.length - 1 := by omega
    simp_arith [TL.f_joins_fault, TL.b_joins_fault, hp.pairs, r, ld .no .no .no (fun _ => ⟨(fun z => nomatch z), (fun z => nomatch z)⟩), List.length_map, mu, hw.wrong, fw, lt, hf.first_true, ft, b1, t1, lo, fo', hf.fault_at, fa, hf.first_of, fo, joinsPs]
theorem p_law_joins (hA : HA G) (h : HJn G) (hp : HPr G) (hr : HRx G) (hf : HF G) (hw : HWr G) {k : Nat} {d : D} (hd : okD k d = true) {n : Nat} (hn : 5 ≤ n) : ∃ g, callF G n (Str.ofString "_law_joins") [.dat d] = .ok (.dat (joinsF d)) [g] := by
  obtain ⟨c, rfl⟩ : ∃ c, n = c + 1 := ⟨n - 1, by omega⟩
  have r := p_law_pairs hA hp hr hd (n := c) (by omega)
  rw [callF_s h.ljoins rfl]
  refine ⟨.dat d, ?_⟩
  cases q : pairsB d with
  | false =>
    rw [q] at r
    have e : joinsF d = .tup [.str (Str.ofString "form"), .int 0] := by unfold joinsF; rw [if_neg (by rw [q]; decide)]
    rw [e]
    simp_arith [TL.f__law_joins, TL.b__law_joins, hp.lpairs, r]
  | true =>
    rw [q] at r
    obtain ⟨ps, rfl, hl⟩ := pairs_tup q
    rw [joinsF_pr q]
    have fl := flatP_len ps
    have loop : ∀ (qs : List (Int × Int)) (acc : List Int) (s : Sl), acc.length + 2 * qs.length ≤ 5000 → anyS s → ∃ s', forL (.nm 2) (exs G (callF G c) (.cons (.set 1 (.bin .add (.var 1) (.blt .list (.var 2)))) .nil)) (qs.map pr) [.dat (.tup (ps.map pr)), .dat (.lst (acc.map D.int)), s, .no, .no, .no] =
        .nx [.dat (.tup (ps.map pr)), .dat (.lst ((acc ++ flatP qs).map D.int)), s', .no, .no, .no] := by
      intro qs
      induction qs with
      | nil => intro acc s _ _; exact ⟨s, by rw [List.map_nil, z_l1]; simp [flatP]⟩
      | cons p r ih =>
        intro acc s hl hs
        rw [List.length_cons] at hl
        obtain ⟨s', e⟩ := ih (acc ++ [p.1, p.2]) (.dat (pr p)) (by simp; omega) (.inr ⟨_, rfl⟩)
        refine ⟨s', ?_⟩
        have e2 : acc ++ [p.1, p.2] ++ flatP r = acc ++ flatP (p :: r) := by rw [List.append_assoc]; rfl
        have e3 : (acc ++ [p.1, p.2]).map D.int = acc.map D.int ++ [.int p.1, .int p.2] := by rw [List.map_append]; rfl
        have lim : (acc.map D.int).length + 2 ≤ LIM := by rw [List.length_map]; unfold LIM; omega
        rw [e2, e3] at e
        rcases hs with rfl | ⟨d, rfl⟩ <;> simp_arith [pr, lim] <;> exact e
    obtain ⟨s', lp⟩ := loop ps [] .no (by simp; omega) (.inl rfl)
    simp only [List.map_nil, List.nil_append] at lp
    have mu : binR .mul (.int 2) (.int (ps.length : Int)) = some (.dat (.int ((2 * ps.length : Nat) : Int))) := by rw [z_v3 (.inl (by decide))]; rfl
    have fw := p_law_wrong hw hf (flatP ps) (by omega) (2 * ps.length) (by omega) (n := c) (by omega)
    have b1 : ((ps.length : Int) - 1).natAbs < 1152921504606846976 := by omega
    have t1 : ((ps.length : Int) - 1).toNat = ps.length - 1 := by omega
    have b2 : ((ps.length : Int)).natAbs < 1152921504606846976 := by omega
    have t2 : ((ps.length : Int)).toNat = ps.length := by omega
    have lt : ∀ s1 s2 : Sl, kLc G (callF G c) (.var 5) (.nm 5) (.one (.cmp .gt (.idx (.idx (.var 0) (.var 5)) (.int 0)) (.idx (.idx (.var 0) (.var 5)) (.int 1)))) [5] (rngL 0 ps.length) [.dat (.tup (ps.map pr)), s1, s2, .no, .no, .no] =
        .ok (.new (((List.range ps.length).filter fun (k : Nat) => decide ((pg ps k).2 < (pg ps k).1)).map fun (k : Nat) => D.int (k : Int))) [.dat (.tup (ps.map pr)), s1, s2, .no, .no, .no] := by
      intro s1 s2
      refine kLc_rng (fun k => decide ((pg ps k).2 < (pg ps k).1)) (fun (k : Nat) => D.int (k : Int)) (by simp_arith [if_true]; rfl) (by simp_arith [if_true]) (by simp_arith [if_true]) (fun k hk => ?_) (by unfold LIM; omega)
      exact ⟨_, by simp_arith [if_true]; rfl, by simp_arith [if_true], by simp_arith [atI_pg hk, pr, at0, at1], fun _ => by simp_arith [if_true]⟩
    have lo : ∀ s1 s2 s3 : Sl, kLc G (callF G c) (.var 5) (.nm 5) (.one (.cmp .gt (.idx (.var 0) (.var 5)) (.idx (.var 0) (.bin .add (.var 5) (.int 1))))) [5] (rngL 0 (ps.length - 1)) [.dat (.tup (ps.map pr)), s1, s2, s3, .no, .no] =
        .ok (.new (((List.range (ps.length - 1)).filter fun (k : Nat) => pltB (pg ps (k + 1)) (pg ps k)).map fun (k : Nat) => D.int (k : Int))) [.dat (.tup (ps.map pr)), s1, s2, s3, .no, .no] := by
      intro s1 s2 s3
      refine kLc_rng (fun k => pltB (pg ps (k + 1)) (pg ps k)) (fun (k : Nat) => D.int (k : Int)) (by simp_arith [if_true]; rfl) (by simp_arith [if_true]) (by simp_arith [if_true]) (fun k hk => ?_) (by unfold LIM; omega)
      exact ⟨_, by simp_arith [if_true]; rfl, by simp_arith [if_true], by simp_arith [atI_pg1 (show k + 1 < ps.length by omega), atI_pg (show k < ps.length by omega), gt_pr], fun _ => by simp_arith [if_true]⟩
    obtain ⟨g2, l2⟩ := p_least hf ps.length (fun k => decide ((pg ps k).2 < (pg ps k).1)) (by omega) (n := c) (by omega)
    obtain ⟨g3, l3⟩ := p_least hf (ps.length - 1) (fun k => pltB (pg ps (k + 1)) (pg ps k)) (by omega) (n := c) (by omega)
    obtain ⟨g, fo⟩ := p_first hf (joinsPs ps) (n := c) (by omega)
    simp only [joinsPs, List.map_cons, List.map_nil] at fo
    simp_arith [TL.f__law_joins, TL.b__law_joins, hp.lpairs, r, lp, List.length_map, b2, t2, lt, b1, t1, lo, mu, hw.lwrong, fw, hf.least, l2, l3, hf.first, fo, joinsPs]
end DI
end
section
set_option maxRecDepth 100000
set_option linter.all false
set_option Elab.async false
set_option maxHeartbeats 8000000
/-! PB58: nests: their faults, told twice; the step to tables. -/
namespace DI
open PySem
variable {G : Gm}
structure HNe (G : Gm) : Prop where
  within : G.fn (Str.ofString "is_within") = some TL.f_is_within
  fault : G.fn (Str.ofString "fault_nests") = some TL.f_fault_nests
  law : G.fn (Str.ofString "_law_f_nests") = some TL.f__law_f_nests
  nests : G.fn (Str.ofString "_law_nests") = some TL.f__law_nests
  step : G.fn (Str.ofString "nests_to_tables") = some TL.f_nests_to_tables
def inB (p q : Int × Int) : Bool := decide (q.1 < p.1) && decide (p.2 < q.2)
theorem p_within (h : HNe G) (p q : Int × Int) {n : Nat} (hn : 1 ≤ n) : callF G n (Str.ofString "is_within") [.dat (pr p), .dat (pr q)] = .ok (.dat (.bl (inB p q))) [.dat (pr p), .dat (pr q)] := by
  obtain ⟨c, rfl⟩ : ∃ c, n = c + 1 := ⟨n - 1, by omega⟩
  rw [callF_s h.within rfl]
  cases q1 : decide (q.1 < p.1) <;> simp_arith [TL.f_is_within, TL.b_is_within, pr, at0, at1, inB, q1]
def wiPs (ps : List (Int × Int)) : List (Str × D) := [(Str.ofString "within", firstT ps.length fun k => ps.any (inB (pg ps k)))]
def nestF (d : D) : D := if isNonD (joinsF d) = true then firstP (wiPs (pairsI d)) else joinsF d
theorem nestF_kind (d : D) : nestF d = .non ∨ ∃ x y, nestF d = .tup [x, y] := by
  unfold nestF
  split
  · rcases firstP_kind (wiPs (pairsI d)) with e | ⟨x, y, e⟩
    · exact .inl e
    · exact .inr ⟨_, _, e⟩
  · exact joinsF_kind d
theorem nestF_ok (d : D) : okD 1 (nestF d) = true := by
  unfold nestF
  split
  · refine firstP_ok fun q hq => ?_
    unfold wiPs at hq
    obtain rfl := List.mem_singleton.mp hq
    exact ⟨(show okS (Str.ofString "within") = true by decide +kernel), firstT_ok⟩
  · exact joinsF_ok d
theorem joins_non {d : D} (h : joinsF d = .non) : ∃ ps : List (Int × Int), d = .tup (ps.map pr) ∧ ps.length ≤ 1000 := by
  unfold joinsF at h
  split at h
  · rename_i q; exact pairs_tup q
  · cases h
theorem any_len (f : D → Bool) : ∀ xs : List D, decide ((0 : Int) < (((xs.filter f).length : Nat) : Int)) = xs.any f
  | [] => rfl
  | x :: r => by
    have ih := any_len f r
    rw [List.any_cons]
    cases q : f x with
    | true => rw [List.filter_cons_of_pos q, List.length_cons, Bool.true_or]; exact decide_eq_true (by omega)
    | false => rw [List.filter_cons_of_neg (by rw [q]; decide), ih, Bool.false_or]
theorem firstP1 (x : Str) (d : D) : firstP [(x, d)] = faultAt x d := by
  unfold firstP faultAt
  cases isNonD d <;> rfl
theorem anyP (f : D → Bool) (ps : List (Int × Int)) : (ps.map pr).any f = ps.any fun q => f (pr q) := by rw [List.any_map]; rfl
theorem p_fault_nests (h : HNe G) (hj : HJn G) (hp : HPr G) (hr : HRx G) (hf : HF G) (hw : HWr G) {k : Nat} {d : D} (hd : okD k d = true) {n : Nat} (hn : 6 ≤ n) : ∃ g, callF G n (Str.ofString "fault_nests") [.dat d] = .ok (.dat (nestF d)) [g] := by
  obtain ⟨c, rfl⟩ : ∃ c, n = c + 1 := ⟨n - 1, by omega⟩
  have r := p_joins hj hp hr hf hw hd (n := c) (by omega)
  rw [callF_s h.fault rfl]
  refine ⟨.dat d, ?_⟩
  rcases joinsF_kind d with e | ⟨x, y, e⟩
  · have en : nestF d = firstP (wiPs (pairsI d)) := by unfold nestF; rw [e]; rfl
    rw [e] at r
    obtain ⟨ps, rfl, hl⟩ := joins_non e
    rw [en, pairsI_pr]
    have inn : ∀ (p : Int × Int), kLc G (callF G c) (.call (Str.ofString "is_within") (.cons (.var 2) (.cons (.var 3) .nil))) (.nm 3) .yes [3] (ps.map pr) [.dat (.tup (ps.map pr)), .dat .non, .dat (pr p), .no] = .ok (.new ((ps.map pr).map fun d => .bl (inB p (prI d)))) [.dat (.tup (ps.map pr)), .dat .non, .dat (pr p), .no] := by
      intro p
      rw [kLc_map (fun _ => true) (fun d => .bl (inB p (prI d))) (by simp_arith [if_true]; rfl) (by simp_arith [if_true]) (by simp_arith [if_true]) (fun d hd => ?_) (by rw [List.length_map]; unfold LIM; omega)]
      · rw [filt_yes]
      · obtain ⟨q, _, rfl⟩ := List.mem_map.mp hd
        have w := p_within h p q (n := c) (by omega)
        exact ⟨_, by simp_arith [if_true]; rfl, by simp_arith [if_true], z_m9, fun _ => by simp_arith [h.within, w]; rfl⟩
    have any : ∀ p : Int × Int, bltR .any (.lst ((ps.map pr).map fun d => .bl (inB p (prI d)))) = some (.dat (.bl (ps.any (inB p)))) := by
      intro p
      rw [z_v46 (boolsD_map (fun d => inB p (prI d)) (ps.map pr)), List.any_map, anyP]; rfl
    have lc : kLc G (callF G c) (.blt .any (.lc (.call (Str.ofString "is_within") (.cons (.var 2) (.cons (.var 3) .nil))) (.nm 3) (.seq (.var 0)) .yes [3])) (.nm 2) .yes [2] (ps.map pr) [.dat (.tup (ps.map pr)), .dat .non, .no, .no] = .ok (.new ((List.range ps.length).map fun (k : Nat) => D.bl (ps.any (inB (pg ps k))))) [.dat (.tup (ps.map pr)), .dat .non, .no, .no] := by
      rw [kLc_map (fun _ => true) (fun d => .bl (ps.any (inB (prI d)))) (by simp_arith [if_true]; rfl) (by simp_arith [if_true]) (by simp_arith [if_true]) (fun d hd => ?_) (by rw [List.length_map]; unfold LIM; omega)]
      · rw [filt_yes, List.map_map, ← map_pg ps (fun p => D.bl (ps.any (inB p)))]; rfl
      · obtain ⟨p, _, rfl⟩ := List.mem_map.mp hd
        exact ⟨_, by simp_arith [if_true]; rfl, by simp_arith [if_true], z_m9, fun _ => by simp_arith [inn, any]; rfl⟩
    have ft := p_first_true hf ps.length (fun k => ps.any (inB (pg ps k))) (by omega) (n := c) (by omega)
    have fa : ∀ x d, callF G c (Str.ofString "fault_at") [.dat (.str x), .dat d] = .ok (.dat (faultAt x d)) [.dat (.str x), .dat d] := fun x d => p_fault_at hf x d (by omega)
    simp_arith [TL.f_fault_nests, TL.b_fault_nests, hj.joins, r, lc, hf.first_true, ft, hf.fault_at, fa, wiPs, firstP1]
  · have en : nestF d = joinsF d := by unfold nestF; rw [e]; rfl
    rw [e] at r
    rw [en, e]
    simp_arith [TL.f_fault_nests, TL.b_fault_nests, hj.joins, r]
theorem p_law_f_nests (hA : HA G) (h : HNe G) (hj : HJn G) (hp : HPr G) (hr : HRx G) (hf : HF G) (hw : HWr G) {k : Nat} {d : D} (hd : okD k d = true) {n : Nat} (hn : 6 ≤ n) : ∃ g, callF G n (Str.ofString "_law_f_nests") [.dat d] = .ok (.dat (nestF d)) [g] := by
  obtain ⟨c, rfl⟩ : ∃ c, n = c + 1 := ⟨n - 1, by omega⟩
  obtain ⟨g, r⟩ := p_law_joins hA hj hp hr hf hw hd (n := c) (by omega)
  rw [callF_s h.law rfl]
  refine ⟨.dat d, ?_⟩
  rcases joinsF_kind d with e | ⟨x, y, e⟩
  · have en : nestF d = firstP (wiPs (pairsI d)) := by unfold nestF; rw [e]; rfl
    rw [e] at r
    obtain ⟨ps, rfl, hl⟩ := joins_non e
    rw [en, pairsI_pr]
    have inn : ∀ (k : Nat), k < ps.length → kLc G (callF G c) (.var 4) (.nm 4) (.one (.and (.cmp .lt (.idx (.var 4) (.int 0)) (.idx (.idx (.var 0) (.var 3)) (.int 0))) (.cmp .lt (.idx (.idx (.var 0) (.var 3)) (.int 1)) (.idx (.var 4) (.int 1))))) [4] (ps.map pr) [.dat (.tup (ps.map pr)), .dat .non, .no, .dat (.int k), .no] =
        .ok (.new ((ps.map pr).filter fun d => inB (pg ps k) (prI d))) [.dat (.tup (ps.map pr)), .dat .non, .no, .dat (.int k), .no] := by
      intro k hk
      rw [kLc_map (fun d => inB (pg ps k) (prI d)) id (by simp_arith [if_true]; rfl) (by simp_arith [if_true]) (by simp_arith [if_true]) (fun d hd => ?_) (by rw [List.length_map]; unfold LIM; omega)]
      · rw [List.map_id]
      · obtain ⟨q, _, rfl⟩ := List.mem_map.mp hd
        refine ⟨_, by simp_arith [if_true]; rfl, by simp_arith [if_true], ?_, fun _ => by simp_arith [id]⟩
        show _ = Out.ok (inB (pg ps k) q) _
        unfold inB
        cases q1 : decide (q.1 < (pg ps k).1) <;> simp_arith [atI_pg hk, pr, at0, at1, q1]
    have lc : kLc G (callF G c) (.var 3) (.nm 3) (.one (.cmp .gt (.blt .len (.lc (.var 4) (.nm 4) (.seq (.var 0)) (.one (.and (.cmp .lt (.idx (.var 4) (.int 0)) (.idx (.idx (.var 0) (.var 3)) (.int 0))) (.cmp .lt (.idx (.idx (.var 0) (.var 3)) (.int 1)) (.idx (.var 4) (.int 1))))) [4])) (.int 0))) [3] (rngL 0 ps.length) [.dat (.tup (ps.map pr)), .dat .non, .no, .no, .no] =
        .ok (.new (((List.range ps.length).filter fun (k : Nat) => ps.any (inB (pg ps k))).map fun (k : Nat) => D.int (k : Int))) [.dat (.tup (ps.map pr)), .dat .non, .no, .no, .no] := by
      refine kLc_rng (fun k => ps.any (inB (pg ps k))) (fun (k : Nat) => D.int (k : Int)) (by simp_arith [if_true]; rfl) (by simp_arith [if_true]) (by simp_arith [if_true]) (fun k hk => ?_) (by unfold LIM; omega)
      have e2 : ((ps.map pr).any fun d => inB (pg ps k) (prI d)) = ps.any (inB (pg ps k)) := by rw [anyP]; rfl
      exact ⟨_, by simp_arith [if_true]; rfl, by simp_arith [if_true], by simp_arith [inn k hk, any_len, e2], fun _ => by simp_arith [if_true]⟩
    have b2 : ((ps.length : Int)).natAbs < 1152921504606846976 := by omega
    have t2 : ((ps.length : Int)).toNat = ps.length := by omega
    obtain ⟨g2, l2⟩ := p_least hf ps.length (fun k => ps.any (inB (pg ps k))) (by omega) (n := c) (by omega)
    obtain ⟨g3, fo⟩ := p_first hf (wiPs ps) (n := c) (by omega)
    simp only [wiPs, List.map_cons, List.map_nil] at fo
    simp_arith [TL.f__law_f_nests, TL.b__law_f_nests, hj.ljoins, r, List.length_map, b2, t2, lc, hf.least, l2, hf.first, fo, wiPs]
  · have en : nestF d = joinsF d := by unfold nestF; rw [e]; rfl
    rw [e] at r
    rw [en, e]
    simp_arith [TL.f__law_f_nests, TL.b__law_f_nests, hj.ljoins, r]
/-- the nests of brackets -/
def nst (w : List Int) : List (Int × Int) := (plI 0 w).zip (plI 1 w)
theorem two_eq {w : List Int} (p : Pre 0 w) : (plI 0 w).length = (plI 1 w).length ∧ 2 * (plI 0 w).length = w.length := by
  have hb := p.bits
  have hbit : ∀ k, k < w.length → gt w k = 0 ∨ gt w k = 1 := fun k hk => p.bit k hk
  obtain ⟨h1, h2⟩ := p.hts
  have zo : ∀ n, zb w n = (plN 0 w n).length := fun _ => rfl
  have hn := hts_zb hb w.length (Nat.le_refl _)
  rw [h1, zo] at hn
  have both := plN_both hbit w.length (Nat.le_refl _)
  rw [plI_len, plI_len]
  omega
theorem nst_len {w : List Int} (p : Pre 0 w) : (nst w).length = (plI 0 w).length := by
  unfold nst; rw [List.length_zip, (two_eq p).1, Nat.min_self]
theorem nst_at {w : List Int} (p : Pre 0 w) {k : Nat} (h : k < (plI 0 w).length) : pg (nst w) k = (gt (plI 0 w) k, gt (plI 1 w) k) := by
  have e := pg_at (ps := nst w) (k := k) (by rw [nst_len p]; exact h)
  unfold nst at e
  have h1 := gt_at (w := plI 1 w) (k := k) (by rw [← (two_eq p).1]; exact h)
  have z := List.getElem?_zip_eq_some (l₁ := plI 0 w) (l₂ := plI 1 w) (i := k) (z := (gt (plI 0 w) k, gt (plI 1 w) k))
  rw [z.mpr ⟨gt_at h, h1⟩] at e
  exact (Option.some.inj e).symm
theorem p_law_nests (h : HNe G) (ho : G.fn (Str.ofString "_law_opens") = some TL.f__law_opens) (hs : G.fn (Str.ofString "_law_shuts") = some TL.f__law_shuts) {w : List Int} (p : Pre 0 w) (hw : w.length ≤ 1000) {n : Nat} (hn : 2 ≤ n) :
    callF G n (Str.ofString "_law_nests") [.dat (wd w)] = .ok (.dat (.tup ((nst w).map pr))) [.dat (wd w)] := by
  obtain ⟨c, rfl⟩ : ∃ c, n = c + 1 := ⟨n - 1, by omega⟩
  rw [callF_s h.nests rfl]
  have e0 := p_opens ho w (by omega) (n := c) (by omega)
  have e1 := p_shuts hs w (by omega) (n := c) (by omega)
  have tl := two_eq p
  rw [plc_eq] at e0 e1
  have lc : kLc G (callF G c) (.tup (.cons (.idx (.var 1) (.var 3)) (.cons (.idx (.var 2) (.var 3)) .nil))) (.nm 3) .yes [3] (rngL 0 (plI 0 w).length) [.dat (wd w), .dat (.lst ((plI 0 w).map D.int)), .dat (.lst ((plI 1 w).map D.int)), .no] =
      .ok (.new ((nst w).map pr)) [.dat (wd w), .dat (.lst ((plI 0 w).map D.int)), .dat (.lst ((plI 1 w).map D.int)), .no] := by
    rw [kLc_rng (fun _ => true) (fun k => pr (pg (nst w) k)) (by simp_arith [if_true]; rfl) (by simp_arith [if_true]) (by simp_arith [if_true]) (fun k hk => ?_) (by unfold LIM; omega)]
    · rw [filt_yes, ← nst_len p, ← map_pg (nst w) pr]
    · exact ⟨_, by simp_arith [if_true]; rfl, by simp_arith [if_true], z_m9, fun _ => by simp_arith [atI_gt hk, atI_gt (w := plI 1 w) (show k < (plI 1 w).length by omega), nst_at p hk, pr]⟩
  have b2 : (((plI 0 w).length : Int)).natAbs < 1152921504606846976 := by omega
  have t2 : (((plI 0 w).length : Int)).toNat = (plI 0 w).length := by omega
  simp_arith [TL.f__law_nests, TL.b__law_nests, ho, e0, hs, e1, agRes, List.length_map, b2, t2, lc]
theorem p_step39 (h : HNe G) (ps : List (Int × Int)) (hl : ps.length ≤ 1000) {n : Nat} (hn : 1 ≤ n) : ∃ g, callF G n (Str.ofString "nests_to_tables") [.dat (.tup (ps.map pr))] = .ok (.dat (.tup [.tup ((ps.map (·.1)).map D.int), .tup ((ps.map (·.2)).map D.int)])) [g] := by
  obtain ⟨c, rfl⟩ : ∃ c, n = c + 1 := ⟨n - 1, by omega⟩
  rw [callF_s h.step rfl]
  refine ⟨.dat (.tup (ps.map pr)), ?_⟩
  have l1 : kLc G (callF G c) (.var 1) (.two 1 2) .yes [1, 2] (ps.map pr) [.dat (.tup (ps.map pr)), .no, .no, .no] = .ok (.new ((ps.map (·.1)).map D.int)) [.dat (.tup (ps.map pr)), .no, .no, .no] := by
    rw [kLc_map (fun _ => true) (fun d => .int (prI d).1) (by simp_arith [if_true]; rfl) (by simp_arith [if_true]) (by simp_arith [if_true]) (fun d hd => ?_) (by rw [List.length_map]; unfold LIM; omega)]
    · rw [filt_yes, List.map_map, List.map_map]; rfl
    · obtain ⟨q, _, rfl⟩ := List.mem_map.mp hd
      exact ⟨_, by simp_arith [pr]; rfl, by simp_arith [if_true], z_m9, fun _ => by simp_arith [if_true]; rfl⟩
  have l2 : kLc G (callF G c) (.var 3) (.two 2 3) .yes [2, 3] (ps.map pr) [.dat (.tup (ps.map pr)), .no, .no, .no] = .ok (.new ((ps.map (·.2)).map D.int)) [.dat (.tup (ps.map pr)), .no, .no, .no] := by
    rw [kLc_map (fun _ => true) (fun d => .int (prI d).2) (by simp_arith [if_true]; rfl) (by simp_arith [if_true]) (by simp_arith [if_true]) (fun d hd => ?_) (by rw [List.length_map]; unfold LIM; omega)]
    · rw [filt_yes, List.map_map, List.map_map]; rfl
    · obtain ⟨q, _, rfl⟩ := List.mem_map.mp hd
      exact ⟨_, by simp_arith [pr]; rfl, by simp_arith [if_true], z_m9, fun _ => by simp_arith [if_true]; rfl⟩
  simp_arith [TL.f_nests_to_tables, TL.b_nests_to_tables, l1, l2]
theorem nst_fst {w : List Int} (p : Pre 0 w) : (nst w).map (·.1) = plI 0 w ∧ (nst w).map (·.2) = plI 1 w := by
  unfold nst
  exact ⟨List.map_fst_zip (by rw [(two_eq p).1]; exact Nat.le_refl _), List.map_snd_zip (by rw [(two_eq p).1]; exact Nat.le_refl _)⟩
end DI
end
section
set_option maxRecDepth 100000
set_option linter.all false
set_option Elab.async false
set_option maxHeartbeats 8000000
/-! PB59: nests of brackets have no fault; sizes of rows of pairs. -/
namespace DI
open PySem
variable {G : Gm}
def PrS (ps : List (Int × Int)) : Prop := ∀ p ∈ ps, (0 ≤ p.1 ∧ p.1 ≤ 1000) ∧ 0 ≤ p.2 ∧ p.2 ≤ 1000
theorem pairsB_pr {ps : List (Int × Int)} (h : PrS ps) (hl : ps.length ≤ 1000) : pairsB (.tup (ps.map pr)) = true := by
  show (decide ((ps.map pr).length ≤ 1000) && (ps.map pr).all pairB) = true
  rw [decide_eq_true (by rw [List.length_map]; exact hl), Bool.true_and, List.all_map]
  refine List.all_eq_true.mpr fun p hp => ?_
  obtain ⟨⟨a, b⟩, c, d⟩ := h p hp
  show (decide (2 ≤ 1000) && (small (.int p.1) && (small (.int p.2) && true)) && decide (2 = 2)) = true
  have e1 : small (.int p.1) = true := by show (decide (0 ≤ p.1) && decide (p.1 ≤ 1000)) = true; rw [decide_eq_true a, decide_eq_true b]; rfl
  have e2 : small (.int p.2) = true := by show (decide (0 ≤ p.2) && decide (p.2 ≤ 1000)) = true; rw [decide_eq_true c, decide_eq_true d]; rfl
  rw [e1, e2]; rfl
theorem prs_row : ∀ {ps : List (Int × Int)}, PrS ps → smIs (ps.map pr) = true ∧ wts (ps.map pr) = 34 * ps.length
  | [], _ => ⟨rfl, rfl⟩
  | p :: r, h => by
    obtain ⟨a, b⟩ := prs_row (ps := r) fun q hq => h q (List.mem_cons_of_mem _ hq)
    obtain ⟨⟨c1, c2⟩, c3, c4⟩ := h p List.mem_cons_self
    have e : (10 : Nat) ^ 9 = 1000000000 := rfl
    refine ⟨?_, ?_⟩
    · show ((decide (p.1.natAbs < 10 ^ 9) && (decide (p.2.natAbs < 10 ^ 9) && true)) && smIs (r.map pr)) = true
      rw [a, decide_eq_true (by omega), decide_eq_true (by omega)]; rfl
    · show (4 + ((12 + 2) + ((12 + 2) + 0)) + 2) + wts (r.map pr) = 34 * (r.length + 1)
      rw [b]; omega
theorem prs_sh {ps : List (Int × Int)} (hl : ps.length ≤ 1000) {k : Nat} : shD (k + 2) (.tup (ps.map pr)) = true :=
  shD_tup (by rw [List.length_map]; exact hl) fun x hx => by
    obtain ⟨p, _, rfl⟩ := List.mem_map.mp hx
    refine shD_tup (by simp) fun y hy => ?_
    simp only [List.mem_cons, List.not_mem_nil, or_false] at hy
    rcases hy with rfl | rfl <;> cases k <;> rfl
theorem prs_tup {ps : List (Int × Int)} (h : PrS ps) (hl : ps.length ≤ 20) : ∃ xs, D.tup (ps.map pr) = .tup xs ∧ shD 30 (.tup xs) = true ∧ smI (.tup xs) = true ∧ wt (.tup xs) ≤ 1000000 := by
  obtain ⟨a, b⟩ := prs_row h
  refine ⟨_, rfl, prs_sh (by omega), a, ?_⟩
  show 4 + wts (ps.map pr) ≤ _
  rw [b]; omega
theorem count_flat (k : Int) : ∀ ps : List (Int × Int), (flatP ps).count k = (ps.map (·.1)).count k + (ps.map (·.2)).count k
  | [] => rfl
  | p :: r => by
    show ([p.1, p.2] ++ flatP r).count k = _
    rw [List.count_append, count_flat k r, List.map_cons, List.map_cons, List.count_cons, List.count_cons, List.count_cons, List.count_cons, List.count_nil]
    omega
theorem plI_lt {s : Int} {w : List Int} {i j : Nat} (hij : i < j) (hj : j < (plI s w).length) : gt (plI s w) i < gt (plI s w) j := by
  obtain ⟨a, a1, a2, a3, a4⟩ := plI_at (s := s) (w := w) (j := i) (by omega)
  obtain ⟨b, b1, b2, b3, b4⟩ := plI_at (s := s) (w := w) (j := j) hj
  rw [a1, b1]
  have : a < b := by
    by_cases z : a < b
    · exact z
    · have := plN_mono s w b a (by omega); omega
  omega
theorem op_lt_sh {w : List Int} (p : Pre 0 w) {k : Nat} (hk : k < (plI 0 w).length) : gt (plI 0 w) k < gt (plI 1 w) k := by
  have hb := p.bits
  have hbit : ∀ k, k < w.length → gt w k = 0 ∨ gt w k = 1 := fun k hk => p.bit k hk
  have h2 := p.hts.2
  have zo : ∀ n, zb w n = (plN 0 w n).length := fun _ => rfl
  obtain ⟨a, a1, a2, a3, a4⟩ := plI_at (s := 0) (w := w) (j := k) hk
  obtain ⟨b, b1, b2, b3, b4⟩ := plI_at (s := 1) (w := w) (j := k) (by rw [← (two_eq p).1]; exact hk)
  rw [a1, b1]
  have hh2 := h2 (b + 1) (by omega)
  have e2 := hts_zb hb (b + 1) (by omega)
  rw [zo] at e2
  have bo2 := plN_both hbit (b + 1) (by omega)
  have bo := plN_both hbit b (by omega)
  have s2 : (plN 1 w (b + 1)).length = k + 1 := by rw [plN_succ, b4, if_pos rfl, List.length_append, b2]; rfl
  have z0 : (plN 0 w (b + 1)).length = (plN 0 w b).length := by rw [plN_succ, b4, if_neg (by decide), List.append_nil]
  have : a < b := by
    by_cases z : a < b
    · exact z
    · have := plN_mono 0 w b a (by omega); omega
  omega
theorem count_two {w : List Int} (p : Pre 0 w) {k : Nat} (hk : k < w.length) : (plI 0 w).count (k : Int) + (plI 1 w).count (k : Int) = 1 := by
  unfold plI
  rw [count_pl, count_pl]
  rcases p.bit k hk with b | b
  · rw [if_pos ⟨hk, b⟩, if_neg (fun z => by rw [b] at z; exact absurd z.2 (by decide))]
  · rw [if_neg (fun z => by rw [b] at z; exact absurd z.2 (by decide)), if_pos ⟨hk, b⟩]
theorem nst_S {w : List Int} (p : Pre 0 w) (hw : w.length ≤ 1000) : PrS (nst w) := by
  intro q hq
  obtain ⟨k, hk, e⟩ := List.mem_iff_getElem.mp hq
  have hk' : k < (plI 0 w).length := by rw [← nst_len p]; exact hk
  have g := pg_at (ps := nst w) (k := k) hk
  rw [List.getElem?_eq_getElem hk, e] at g
  rw [Option.some.inj g, nst_at p hk']
  obtain ⟨a, a1, a2, a3, a4⟩ := plI_at (s := 0) (w := w) (j := k) hk'
  obtain ⟨b, b1, b2, b3, b4⟩ := plI_at (s := 1) (w := w) (j := k) (by rw [← (two_eq p).1]; exact hk')
  dsimp only
  rw [a1, b1]
  omega
theorem mem_pg {ps : List (Int × Int)} {q : Int × Int} (h : q ∈ ps) : ∃ k, k < ps.length ∧ q = pg ps k := by
  obtain ⟨k, hk, e⟩ := List.mem_iff_getElem.mp h
  have g := pg_at (ps := ps) (k := k) hk
  rw [List.getElem?_eq_getElem hk, e] at g
  exact ⟨k, hk, Option.some.inj g⟩
theorem nest_good {w : List Int} (p : Pre 0 w) (hw : w.length ≤ 1000) : nestF (.tup ((nst w).map pr)) = .non := by
  have tl := two_eq p
  have nl := nst_len p
  have pb := pairsB_pr (nst_S p hw) (by omega)
  have j : joinsF (.tup ((nst w).map pr)) = .non := by
    rw [joinsF_pr pb]
    refine firstP_none fun q hq => ?_
    unfold joinsPs at hq
    simp only [List.mem_cons, List.not_mem_nil, or_false] at hq
    rcases hq with rfl | rfl | rfl
    · refine firstT_non fun k hk => ?_
      unfold wrB
      rw [count_flat, (nst_fst p).1, (nst_fst p).2, count_two p (by omega)]; rfl
    · refine firstT_non fun k hk => decide_eq_false ?_
      rw [nst_at p (by omega)]
      have := op_lt_sh p (k := k) (by omega)
      dsimp only; omega
    · refine firstT_non fun k hk => ?_
      rw [nst_at p (show k < _ by omega), nst_at p (show k + 1 < _ by omega)]
      have := plI_lt (s := 0) (w := w) (i := k) (j := k + 1) (by omega) (by omega)
      unfold pltB
      dsimp only
      rw [if_neg (by omega)]
      exact decide_eq_false (by omega)
  unfold nestF
  rw [j]
  show firstP (wiPs _) = _
  rw [pairsI_pr]
  refine firstP_none fun q hq => ?_
  unfold wiPs at hq
  obtain rfl := List.mem_singleton.mp hq
  refine firstT_non fun k hk => ?_
  refine List.any_eq_false.mpr fun q hq => ?_
  obtain ⟨i, hi, rfl⟩ := mem_pg hq
  rw [nl] at hk hi
  rw [nst_at p hk, nst_at p hi]
  unfold inB
  dsimp only
  intro z
  rw [Bool.and_eq_true, decide_eq_true_eq, decide_eq_true_eq] at z
  have hik : i < k := by
    by_cases e : i = k
    · subst e; omega
    · by_cases y : i < k
      · exact y
      · have := plI_lt (s := 0) (w := w) (i := k) (j := i) (by omega) hi; omega
  have := plI_lt (s := 1) (w := w) (i := i) (j := k) hik (by omega)
  omega
end DI
end
section
set_option maxRecDepth 100000
set_option linter.all false
set_option Elab.async false
set_option maxHeartbeats 4000000
namespace K39
open PySem DI
theorem hA : HA G := ⟨g__law_is_integer, g__law_same, g__law_pool, g__law_spread, g__law_draw, g__law_pick, g__law_bent, g__law_booled, g__law_listed, g__law_swapped, g__law_changed, g__law_all, g__law_brackets, g__law_bends, g_carried, g_check, g_fault_registry, g_must_be_family, by rfl⟩
theorem hS : HS G (Str.ofString "nests") (Str.ofString "tables") (Str.ofString "fault_nests") (Str.ofString "nests_to_tables") :=
  ⟨⟨_, _, e_FAULTS, by rfl, g_fault_nests⟩, ⟨_, _, e_STEPS, by rfl, g_nests_to_tables⟩⟩
theorem hF : HF G := ⟨g_first_true, g_fault_at, g_first_of, g__law_least, g__law_first⟩
theorem hRw : HRx G := ⟨g_is_whole, g_is_from, g_is_row, g__law_is_row, c_MOST, c_FORM⟩
theorem hWr : HWr G := ⟨g_first_wrong, g__law_wrong_number⟩
theorem hPr : HPr G := ⟨g_are_pairs, g__law_pairs_form⟩
theorem hJn : HJn G := ⟨g_joins_fault, g__law_joins⟩
theorem hNe : HNe G := ⟨g_is_within, g_fault_nests, g__law_f_nests, g__law_nests, g_nests_to_tables⟩
theorem hW : HW G (.call (Str.ofString "_law_nests") (.cons (.var 3) .nil)) (.call (Str.ofString "_law_tables") (.cons (.var 3) .nil)) none (Str.ofString "nests") (Str.ofString "tables") (Str.ofString "fault_nests") (Str.ofString "nests_to_tables") (Str.ofString "_law_f_nests")
    (fun w => .tup ((nst w).map pr)) (fun w => .tup [.tup (plc 0 w), .tup (plc 1 w)]) nestF where
  law := g_law
  car := g__law_carried
  dir_ := .inl rfl
  flF := ⟨_, g__law_f_nests⟩
  fsF := ⟨_, g_nests_to_tables⟩
  here := fun n hn w hp hw s0 s1 s2 s4 s5 s6 s7 s8 => by
    have e := p_law_nests hNe g__law_opens g__law_shuts hp (by omega) (n := n) (by omega)
    simp_arith [hNe.nests, e, agRes]
  due := fun n hn w hp hw s0 s1 s2 s4 s5 s6 s7 s8 => by
    have e := p_law_tables g__law_tables g__law_opens g__law_shuts w (by omega) (n := n) (by omega)
    simp_arith [g__law_tables, e, agRes]
  row := fun w hp hw => prs_tup (nst_S hp (by omega)) (by rw [nst_len hp]; have := (two_eq hp).2; omega)
  duo := fun w hp hw => tab_okD hw
  good := fun n hn w hp hw => by
    have l : (nst w).length ≤ 1000 := by rw [nst_len hp]; have := (two_eq hp).2; omega
    obtain ⟨g, e⟩ := p_fault_nests hNe hJn hPr hRw hF hWr (shD_ok (prs_sh (k := 38) l)) (n := n) (by omega)
    rw [nest_good hp (by omega)] at e
    exact ⟨g, e⟩
  step := fun n hn w hp hw => by
    have l : (nst w).length ≤ 1000 := by rw [nst_len hp]; have := (two_eq hp).2; omega
    obtain ⟨g, e⟩ := p_step39 hNe (nst w) l (n := n) (by omega)
    rw [(nst_fst hp).1, (nst_fst hp).2, ← plc_eq, ← plc_eq] at e
    exact ⟨g, e⟩
  wro := fun d _ => okD_le (by omega) (nestF_ok d)
  wrk := fun d _ => nestF_kind d
  tell := fun n hn d hd => p_law_f_nests hA hNe hJn hPr hRw hF hWr hd (n := n) (by omega)
  bad := fun n hn d hd x y e => by
    obtain ⟨g, e2⟩ := p_fault_nests hNe hJn hPr hRw hF hWr hd (n := n) (by omega)
    rw [e] at e2
    exact ⟨g, e2⟩
theorem plain (ns : List Int) (hl : ns.length ≤ 63) : callF G 200 (Str.ofString "law") [.dat (.lst (ns.map D.int))] = .ok (.dat (.bl true)) [.dat (.lst (ns.map D.int))] :=
  law_main hA hS hW (by omega) ns
end K39
end
section
set_option Elab.async false
set_option linter.all false
set_option maxRecDepth 100000
set_option maxHeartbeats 0
open PySem PySem.W PySem.Calls PyProof.Rows
theorem K39.fin (N : Nat) (rm : L2.Room (N + 5) callerA) (pl : ∀ ns : List Int, ns.length ≤ 63 → DI.callF K39.G N (PySem.Str.ofString "law") [.dat (.lst (ns.map DI.D.int))] = .ok (.dat (.bl true)) [.dat (.lst (ns.map DI.D.int))]) : PySem.Challenge.rw_everycatalan_k39_whole_nests_to_tables.Holds := by
  o_law
  refine CH.holds_all (l := PySem.Challenge.rw_everycatalan_k39_whole_nests_to_tables) (q := K39.qv) (H := K39.hk) (loose := K39.names) (d := HandSHeadRun.topDef (OpenLaw.row PySem.Challenge.rw_everycatalan_k39_whole_nests_to_tables).prog 140) (by kernel_rfl) (by kernel_rfl) (by kernel_rfl) (fun s => by kernel_rfl)
    (CH.go_any K39.body_eq (by kernel_rfl) (by kernel_rfl) K39.ob_eq K39.run) (by rfl) (by rfl) (by rfl) (by first | assumption | decide +kernel) (by decide +kernel) ⟨rfl, rfl, rfl, rfl, rfl, by decide +kernel⟩ ?hw ?hc
  case hw => w_witness2
  case hc =>
    refine DI.walk_ofH (l := PySem.Challenge.rw_everycatalan_k39_whole_nests_to_tables) (n := 63) (k := N + 5) (x := "script") (CX := fun w => L2.CX K39.P w) rfl (by decide) (by kernel_rfl) rm ?F (fun w H s e s' z => by obtain ⟨_, _, _, _, _, _, _, _, _, _, _, _, z⟩ := z; exact z)
    intro w mg fa h Y G0 hmg0
    obtain ⟨K, KX, c⟩ := Y
    have hmg : mg ("law" : PySem.Str) = some (.ref fa) := by
      have e : (HandSHeadRun.topDef (OpenLaw.row PySem.Challenge.rw_everycatalan_k39_whole_nests_to_tables).prog 140).name = ("law" : PySem.Str) := by kernel_rfl
      rw [← e]
      exact hmg0
    obtain ⟨fd, df⟩ := K39.o_law KX G0 c
    have e := hmg.symm.trans df.mg
    cases e
    refine ⟨K, fd, DI.spOf K mg K39.xn (DI.callF K39.G N (PySem.Str.ofString "law")) 1, KX, (K39.look c).2.2.2.2.1, fun s v => L2.FunD.bindsA (ps := ["script"]) df.fun_ (fun _ _ _ _ _ _ us hl => match us, hl with | [_], _ => rfl) s [v] rfl, fun H a ns hl hS => DI.sp_of (pl ns hl) hS, fun base KB GB => ?_⟩
    exact DI.allOk (K39.modF KX G0 c) N _ _ _ _ _ _ _ _ _ _ _ (by rfl) df
theorem PySem.Challenge.cw_everycatalan_k39_whole_nests_to_tables_holds : PySem.Challenge.rw_everycatalan_k39_whole_nests_to_tables.Holds := by
  exact K39.fin 200 ⟨rfl, by decide, by decide⟩ K39.plain
end
end
