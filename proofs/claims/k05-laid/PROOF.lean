import PyProof.Rows.All
import Wide.All
import OpenK.AllK
import Wide.FinOn
import HandS.ForMost
import HandS.Wide
import KE.KSortTupG
import HandS.Lambda
import HandS.IsInst
import HandS.Walk
import HandS.ExcCtx
import HandS.CallSlots
import HandS.HotCalls
import HandS.SetFor
import KE.KExcIs
import HandS.HeadHook4
import HandS.Style
import HandS.SortInts
import HandS.TupSets
import HandS.Zip
import KE.DataMinMax
import HandS.SortKw
import HandS.Defaults
import HandS.HeadEnd
import HandS.HeadWalk
import KE.KNestM
import KE.KStateDown
import Lean
import HandS.Head0
import HandS.Head1
import HandS.Head2
import HandS.HeadHook1
import HandS.HeadHook2
import HandS.HeadHook3
import PySem.Challenge.RW_airhours_k05_whole_laid
set_option Elab.async false
set_option linter.all false
set_option maxRecDepth 100000
set_option maxHeartbeats 0
/-! Air: a small language of terms and blocks, evaluated over values without addresses. -/
namespace Air
open PySem L2

abbrev Ky := Sum Int Str
/-- values: what stands still has no address; an instance has a number -/
inductive D where
  | non | bl (b : Bool) | int (i : Int) | str (z : Str)
  | tup (xs : List D) | lst (xs : List D)
  | dK (ks : List Ky) (vs : List D) | dT (ks : List (List Ky)) (vs : List D)
  | scr (ns : List Int) | ins (k : Nat)
  deriving Inhabited
/-- what a name, an attribute holds: nothing, a value, a container of its own -/
inductive Sl where
  | no | val (d : D) | lst (xs : List D) | dK (ks : List Ky) (vs : List D) | dT (ks : List (List Ky)) (vs : List D)
  deriving Inhabited
abbrev Ob := List (Str × Sl)
abbrev Is := List Ob
abbrev Fr := List Sl
structure Ex where
  cls : Str
  fs : List (Str × D)
/-- how a value lies: still; in a name's own container; in an instance's; new; written at the top -/
inductive Kd where
  | fro | own | inst | new | cst
  deriving DecidableEq, Inhabited
inductive R (α : Type) where
  | ok (a : α) (I : Is) | exc (x : Ex) (I : Is) | bad
def R.bind {α β : Type} (r : R α) (f : α → Is → R β) : R β := match r with
  | .ok a I => f a I
  | .exc x I => .exc x I
  | .bad => .bad
inductive Xr where
  | nx (fr : Fr) (I : Is) | rt (r : Sl) (I : Is) | bk (fr : Fr) (I : Is) | ct (fr : Fr) (I : Is) | exc (x : Ex) (fr : Fr) (I : Is) | bad
def R.stm {α : Type} (r : R α) (fr : Fr) (f : α → Is → Xr) : Xr := match r with
  | .ok a I => f a I
  | .exc x I => .exc x fr I
  | .bad => .bad

inductive Cs where
  | non | bl (b : Bool) | int (i : Int) | str (z : Str)
  deriving DecidableEq
def Cs.d : Cs → D
  | .non => .non
  | .bl b => .bl b
  | .int i => .int i
  | .str z => .str z
inductive Bo where
  | add | sub | mul | fdiv | md | pow
  deriving DecidableEq
inductive Co where
  | eq | ne | lt | le | gt | ge | inn | nin
  deriving DecidableEq
/-- built-in functions by name -/
inductive Bi where
  | len | all | any | sorted | list | tuple | min1 | max1 | min2 | max2 | minD | int | str | divmod | dict | sum | sset
  deriving DecidableEq
inductive Tg where
  | nm (i : Nat) | tp (is : List Nat)
  deriving DecidableEq
inductive Tm where
  | cns (c : Cs) | loc (i : Nat) | gk (x : Str)
  | nil | cons (a b : Tm)
  | bin (o : Bo) (a b : Tm) | neg (a : Tm)
  | cmp (o : Co) (a b : Tm) | isn (ng : Bool) (a : Tm) | isb (ng k : Bool) (a : Tm)
  | ch2 (o1 o2 : Co) (a b c : Tm) | ch3 (o1 o2 o3 : Co) (a b c d : Tm)
  | and (a b : Tm) | or (a b : Tm) | not (a : Tm) | ite (c a b : Tm)
  | tup (es : Tm) | lst (es : Tm)
  | sub (a i : Tm) | slc (a lo hi : Tm) | rev (a : Tm)
  | call (x : Str) (es : Tm)
  | blt (f : Bi) (es : Tm)
  | isi (a : Tm) (ks : List Str)
  | lc (own : List (Str × Nat)) (elt : Tm) (tg : Tg) (it : Tm) (cond : Tm)
  | rng1 (a : Tm) | rng2 (a b : Tm) | enm (a : Tm) | zp (a b : Tm)
  | told (e : Tm)
/-- statements; a block is a row of them -/
inductive Sm where
  | nil | cons (s rest : Sm)
  | pass
  | asg (i : Nat) (e : Tm) | own (i : Nat) (e : Tm)
  | par (tg : List (Nat × Bool)) (es : Tm)
  | unp (tg : List Nat) (e : Tm)
  | app (i : Nat) (e : Tm) | ext (i : Nat) (e : Tm) | rem (i : Nat) (e : Tm)
  | expr (e : Tm)
  | iff (c : Tm) (a b : Sm)
  | for (tg : Tg) (it : Tm) (body : Sm)
  | forR (tg : Tg) (it : Tm) (c : Tm) (r : Cs)
  | whl (fuel : Nat) (c : Tm) (body : Sm)
  | ret (e : Tm) | retOwn (i : Nat) | bk | ct
  | frz (i : Nat)
  | rais (c : Str)

/-! ### operations on values -/
def lim : Nat := 16777216
def D.isFlat : D → Bool
  | .non | .bl _ | .int _ | .str _ => true
  | _ => false
mutual
/-- no list, no dict, no instance within -/
def D.still : D → Bool
  | .non | .bl _ | .int _ | .str _ => true
  | .tup xs => D.stills xs
  | _ => false
def D.stills : List D → Bool
  | [] => true
  | x :: xs => D.still x && D.stills xs
end
mutual
def D.py : D → PyData
  | .non => .none
  | .bl b => .bool b
  | .int i => .int i
  | .str z => .str z
  | .tup xs => .tuple (D.pys xs)
  | .lst xs => .list (D.pys xs)
  | .scr ns => .list (ns.map PyData.int)
  | .dK _ _ | .dT _ _ | .ins _ => .dict []
def D.pys : List D → List PyData
  | [] => []
  | x :: xs => D.py x :: D.pys xs
end
mutual
/-- may be compared by == -/
def D.eqc : D → Bool
  | .non | .bl _ | .int _ | .str _ => true
  | .tup xs => D.eqcs xs
  | .lst xs => D.eqcs xs
  | .scr _ => true
  | .dK _ _ | .dT _ _ | .ins _ => false
def D.eqcs : List D → Bool
  | [] => true
  | x :: xs => D.eqc x && D.eqcs xs
end
mutual
def D.dep : D → Nat
  | .tup xs => D.deps xs + 1
  | .lst xs => D.deps xs + 1
  | .scr _ => 2
  | _ => 1
def D.deps : List D → Nat
  | [] => 0
  | x :: xs => max (D.dep x) (D.deps xs)
end
def D.pyeq (a b : D) : Bool := PyData.eqv a.py b.py
def small (i : Int) : Bool := decide (-18446744073709551616 < i) && decide (i < 18446744073709551616)
def binD (o : Bo) (a b : D) (I : Is) : R (D × Kd) := match o, a, b with
  | .add, .int i, .int j => .ok (.int (i + j), .fro) I
  | .add, .str x, .str y => bif decide (x.length + y.length ≤ lim) then .ok (.str (x ++ y), .fro) I else .bad
  | .add, .lst x, .lst y => bif decide (x.length + y.length ≤ lim) then .ok (.lst (x ++ y), .new) I else .bad
  | .add, .tup x, .tup y => bif !x.isEmpty && !y.isEmpty && decide (x.length + y.length ≤ lim) then .ok (.tup (x ++ y), .fro) I else .bad
  | .sub, .int i, .int j => .ok (.int (i - j), .fro) I
  | .mul, .int i, .int j => bif small i || small j then .ok (.int (i * j), .fro) I else .bad
  | .mul, .lst x, .int j => bif decide (0 ≤ j) && decide (j < 1000000) && decide (x.length * j.toNat ≤ lim) then .ok (.lst (List.replicate j.toNat x).flatten, .new) I else .bad
  | .fdiv, .int i, .int j => bif decide (0 < j) && small j then .ok (.int (i / j), .fro) I else .bad
  | .md, .int i, .int j => bif decide (0 < j) then .ok (.int (i % j), .fro) I else .bad
  | .pow, .int i, .int j => bif small i && decide (0 ≤ j) && decide (j ≤ 1000000) then .ok (.int (i ^ j.toNat), .fro) I else .bad
  | _, _, _ => .bad
def b2 (b : Bool) (I : Is) : R (D × Kd) := .ok (.bl b, .fro) I
def D.flats (xs : List D) : Bool := xs.all D.isFlat
/-- x in xs, flat things -/
def inD (x : D) (xs : List D) : Bool := xs.any fun y => D.pyeq y x
/-- a text of one sign -/
def sgnD (x : Str) : Option Nat := match x with
  | ⟨⟨l⟩⟩ => match l with
    | [c] => some c
    | _ => none
def inDD (a b : D) : Option Bool := match b with
  | .str z => (match a with
    | .str x => (match sgnD x with
      | some c => some (decide (c ∈ z.cps.toList))
      | none => none)
    | _ => none)
  | .lst ys => bif D.isFlat a && D.flats ys then some (inD a ys) else bif D.eqc a && D.eqcs ys && decide (D.dep a ≤ 60) then some (inD a ys) else none
  | .tup ys => bif D.isFlat a && D.flats ys then some (inD a ys) else none
  | _ => none
def cmpD (o : Co) (a b : D) (I : Is) : R (D × Kd) := match o with
  | .eq => bif D.eqc a && D.eqc b && decide (min a.dep b.dep ≤ 64) then b2 (D.pyeq a b) I else .bad
  | .ne => bif D.eqc a && D.eqc b && decide (min a.dep b.dep ≤ 64) then b2 (!D.pyeq a b) I else .bad
  | .lt => (match a, b with
    | .int i, .int j => b2 (decide (i < j)) I
    | _, _ => .bad)
  | .le => (match a, b with
    | .int i, .int j => b2 (decide (i ≤ j)) I
    | _, _ => .bad)
  | .gt => (match a, b with
    | .int i, .int j => b2 (decide (j < i)) I
    | _, _ => .bad)
  | .ge => (match a, b with
    | .int i, .int j => b2 (decide (j ≤ i)) I
    | _, _ => .bad)
  | .inn => (match inDD a b with
    | some k => b2 k I
    | none => .bad)
  | .nin => (match inDD a b with
    | some k => b2 (!k) I
    | none => .bad)

/-- an item by its place, from behind where it is less than 0 -/
def subD (a i : D) (k : Kd) (I : Is) : R (D × Kd) := match a, i with
  | .lst xs, .int j => (match atI xs j with
    | some d => .ok (d, .fro) I
    | none => .bad)
  | .tup xs, .int j => (match atI xs j with
    | some d => bif decide (k = .cst) then .bad else .ok (d, .fro) I
    | none => .bad)
  | .scr ns, .int j => (match atI ns j with
    | some d => .ok (.int d, .fro) I
    | none => .bad)
  | .str z, .int j => bif decide (z.length ≤ lim) then (match atI z.cps.toList j with
    | some c => .ok (.str ⟨#[c]⟩, .fro) I
    | none => .bad) else .bad
  | _, _ => .bad
/-- places of a cut -/
def cutI (n d : Nat) : Option Int → Nat := HT.sIx n d
def cutD (xs : List D) (lo hi : Option Int) : List D := (xs.drop (HT.sIx xs.length 0 lo)).take (HT.sIx xs.length xs.length hi - HT.sIx xs.length 0 lo)
def slcD (a : D) (k : Kd) (lo hi : Option Int) (I : Is) : R (D × Kd) := match a with
  | .lst xs => .ok (.lst (cutD xs lo hi), .new) I
  | .tup xs => bif decide (k = .cst) || decide (HT.sIx xs.length 0 lo = 0 ∧ HT.sIx xs.length xs.length hi = xs.length) then .bad else .ok (.tup (cutD xs lo hi), .fro) I
  | .str z => bif decide (z.length ≤ lim) then .ok (.str (cutS z lo hi), .fro) I else .bad
  | _ => .bad
def isiD : D → Str → Option Bool
  | .ins _, _ => none
  | .dT _ _, _ => none
  | d, k => bif decide (k = "int") then some (match d with | .int _ => true | .bl _ => true | _ => false)
    else bif decide (k = "bool") then some (match d with | .bl _ => true | _ => false)
    else bif decide (k = "str") then some (match d with | .str _ => true | _ => false)
    else bif decide (k = "tuple") then some (match d with | .tup _ => true | _ => false)
    else bif decide (k = "list") then some (match d with | .lst _ => true | .scr _ => true | _ => false)
    else none
def intsD : List D → Option (List Int)
  | [] => some []
  | .int i :: r => (intsD r).map (i :: ·)
  | _ :: _ => none
def strsD : List D → Option (List Str)
  | [] => some []
  | .str i :: r => (strsD r).map (i :: ·)
  | _ :: _ => none
def blsD : List D → Option (List Bool)
  | [] => some []
  | .bl i :: r => (blsD r).map (i :: ·)
  | _ :: _ => none
/-! ### order -/
abbrev Ik := Sum Int (List Nat)
def ltK (a b : List Ik) : Bool := PyProof.Rows.lexLt PyProof.Rows.itemOrd a b
def ikD : D → Option Ik
  | .int i => some (.inl i)
  | .str z => some (.inr z.cps.toList)
  | _ => none
def iksD : List D → Option (List Ik)
  | [] => some []
  | d :: r => match ikD d, iksD r with
    | some k, some ks => some (k :: ks)
    | _, _ => none
def D.key : D → List Ik
  | .tup xs => (iksD xs).getD []
  | d => (ikD d).toList
def D.le (a b : D) : Bool := !ltK b.key a.key
def insD (x : D) : List D → List D
  | [] => [x]
  | y :: r => bif D.le x y then x :: y :: r else y :: insD x r
def sortD : List D → List D
  | [] => []
  | x :: r => insD x (sortD r)
def isStr : Ik → Bool
  | .inl _ => false
  | .inr _ => true
def D.shape : D → Option (List Bool)
  | .tup xs => (iksD xs).map (·.map isStr)
  | _ => none
/-- all whole numbers, or all texts, or all tuples of such, alike -/
def sortT : List D → Bool
  | d :: ds => (match D.shape d with
    | some (_ :: _) => true
    | _ => false) && ds.all fun e => decide (D.shape e = D.shape d)
  | [] => false
def sortable (xs : List D) : Bool := (intsD xs).isSome || (strsD xs).isSome || sortT xs
def maxL : List Int → Int
  | [] => 0
  | [a] => a
  | a :: r => max a (maxL r)
def minL : List Int → Int
  | [] => 0
  | [a] => a
  | a :: r => min a (minL r)
def addU (x : Int) : List Int → List Int
  | [] => [x]
  | y :: r => bif decide (x < y) then x :: y :: r else bif decide (x = y) then y :: r else y :: addU x r
/-- the numbers, each once, rising -/
def setL : List Int → List Int
  | [] => []
  | x :: r => addU x (setL r)
def kyD : Ky → D
  | .inl i => .int i
  | .inr z => .str z
def biD (f : Bi) (as : List (D × Kd)) (I : Is) : R (D × Kd) := match f, as with
  | .len, [(.str z, _)] => bif decide (z.length ≤ lim) then .ok (.int z.length, .fro) I else .bad
  | .len, [(.lst xs, _)] => .ok (.int xs.length, .fro) I
  | .len, [(.tup xs, k)] => bif decide (k = .cst) then .bad else .ok (.int xs.length, .fro) I
  | .len, [(.scr xs, _)] => .ok (.int xs.length, .fro) I
  | .len, [(.dK ks _, _)] => .ok (.int ks.length, .fro) I
  | .all, [(.lst xs, _)] => (match blsD xs with
    | some bs => .ok (.bl (bs.all id), .fro) I
    | none => .bad)
  | .any, [(.lst xs, _)] => (match blsD xs with
    | some bs => .ok (.bl (bs.any id), .fro) I
    | none => .bad)
  | .sum, [(.lst xs, _)] => (match intsD xs with
    | some ns => .ok (.int ns.sum, .fro) I
    | none => .bad)
  | .sorted, [(.lst xs, _)] => bif sortable xs then .ok (.lst (sortD xs), .new) I else .bad
  | .sset, [(.lst xs, _)] => (match intsD xs with
    | some ns => bif decide (ns.length < 64) then .ok (.lst ((setL ns).map D.int), .new) I else .bad
    | none => .bad)
  | .list, [(.lst xs, _)] => .ok (.lst xs, .new) I
  | .list, [(.tup xs, k)] => bif decide (k = .cst) then .bad else .ok (.lst xs, .new) I
  | .tuple, [(.lst xs, _)] => .ok (.tup xs, .fro) I
  | .tuple, [(.tup xs, k)] => bif decide (k = .cst) then .bad else .ok (.tup xs, .fro) I
  | .max1, [(.lst xs, _)] => (match intsD xs with
    | some (n :: ns) => .ok (.int (maxL (n :: ns)), .fro) I
    | _ => .bad)
  | .min1, [(.lst xs, _)] => (match intsD xs with
    | some (n :: ns) => .ok (.int (minL (n :: ns)), .fro) I
    | _ => .bad)
  | .minD, [(.lst xs, _), (.int d, _)] => (match intsD xs with
    | some [] => .ok (.int d, .fro) I
    | some (n :: ns) => .ok (.int (minL (n :: ns)), .fro) I
    | none => .bad)
  | .max2, [(.int a, _), (.int b, _)] => .ok (.int (max a b), .fro) I
  | .min2, [(.int a, _), (.int b, _)] => .ok (.int (min a b), .fro) I
  | .divmod, [(.int a, _), (.int b, _)] => bif decide (0 < b) && decide (b < 1000000) then .ok (.tup [.int (a / b), .int (a % b)], .fro) I else .bad
  | .int, [(.int a, _)] => .ok (.int a, .fro) I
  | .int, [(.bl b, _)] => .ok (.int (bif b then 1 else 0), .fro) I
  | _, _ => .bad

/-- the names of exceptions that can be told -/
def tellN : List Str := ["NoName", "NoDay", "NoHour", "NoMore", "NoShow", "NoSort", "NoStation", "NoRule", "Full", "Taken", "NoRights", "Settled", "TooLate", "NoRow", "NotLive", "TooLong", "NewsAhead", "Clash", "NoWish", "NoDeeds", "NoText"]
/-- what is told of what was raised -/
def tellR : R (D × Kd) → R (D × Kd)
  | .ok p I => .ok p I
  | .exc x I => bif decide (x.cls ∈ tellN) then .ok (.tup [.str "refused", .str x.cls], .fro) I else .bad
  | .bad => .bad
/-! ### names -/
def asgT : Tg → D → Fr → Option Fr
  | .nm i, d, fr => some (fr.set i (.val d))
  | .tp is, .tup ds, fr => bif decide (is.length = ds.length) then some ((is.zip ds).foldl (fun fr p => fr.set p.1 (.val p.2)) fr) else none
  | _, _, _ => none
def wipeF (fr : Fr) (own : List (Str × Nat)) : Fr := own.foldr (fun p fr => fr.set p.2 .no) fr
/-- a value that stands still from now on -/
def frzK : D × Kd → Option D
  | (d, .fro) => some d
  | (d, .new) => some d
  | _ => none
def frzAll : List (D × Kd) → Option (List D)
  | [] => some []
  | p :: r => match frzK p, frzAll r with
    | some d, some ds => some (d :: ds)
    | _, _ => none
def R.fz {β : Type} (r : R (D × Kd)) (f : D → Is → R β) : R β := r.bind fun p I => match frzK p with
  | some d => f d I
  | none => .bad
def R.tst {β : Type} (r : R (D × Kd)) (f : Bool → Is → R β) : R β := r.bind fun p I => match p.1 with
  | .bl b => f b I
  | _ => .bad
/-- the table as it was -/
def R.reset {α : Type} (I : Is) : R α → R α
  | .ok a _ => .ok a I
  | .exc x _ => .exc x I
  | .bad => .bad
/-- nothing may be raised here -/
def R.quiet {α : Type} : R α → R α
  | .exc _ _ => .bad
  | r => r
def Sl.out : Sl → Option (D × Kd)
  | .no => none
  | .val d => some (d, .fro)
  | .lst xs => some (.lst xs, .new)
  | .dK ks vs => some (.dK ks vs, .new)
  | .dT ks vs => some (.dT ks vs, .new)
def Sl.inn : D → Option Sl
  | .lst xs => some (.lst xs)
  | .dK ks vs => some (.dK ks vs)
  | .dT ks vs => some (.dT ks vs)
  | _ => none
/-- stored by a name: a new container as its own where that is wanted -/
def stoK (own : Bool) : D × Kd → Option Sl
  | (d, .fro) => some (.val d)
  | (d, .new) => bif own then Sl.inn d else some (.val d)
  | _ => none
def isInst : Kd → Bool
  | .inst => true
  | _ => false
def lcL (step : Fr → Is → R (Option D)) (tg : Tg) (fr : Fr) : List D → Is → R (List D)
  | [], I => .ok [] I
  | x :: xs, I => match asgT tg x fr with
    | none => .bad
    | some fr' => (step fr' I).bind fun o I => (lcL step tg fr xs I).bind fun ys I => .ok (o.toList ++ ys) I
def rngL (lo hi : Int) : List D := (List.range (hi - lo).toNat).map fun (k : Nat) => D.int (lo + (k : Int))
def enmL : Nat → List D → List D
  | _, [] => []
  | k, x :: xs => .tup [.int k, x] :: enmL (k + 1) xs
def zpL : List D → List D → List D
  | x :: xs, y :: ys => .tup [x, y] :: zpL xs ys
  | _, _ => []
def zpK (p q : Kd) : Option Kd := bif isInst p || isInst q then (bif decide (p = .own) || decide (q = .own) then none else some .inst) else bif decide (p = .own) || decide (q = .own) then some .own else some .fro
def big62 (i : Int) : Bool := decide (-4611686018427387904 ≤ i) && decide (i < 4611686018427387904)
section
variable (cn : Str → Option D) (cf : Str → Bool → List D → Is → R Sl)
/-- the items of what is walked, and how it lies -/
def itD : D × Kd → Option (List D × Kd)
  | (.lst xs, k) => some (xs, k)
  | (.tup xs, k) => bif decide (k = .cst) then none else some (xs, k)
  | (.scr ns, k) => some (ns.map D.int, k)
  | (.str z, k) => some (z.cps.toList.map fun c => D.str ⟨#[c]⟩, k)
  | _ => none
def callD (x : Str) (ro : Bool) (as : List (D × Kd)) (I : Is) : R (D × Kd) := match frzAll as with
  | some ds => (bif ro then (cf x true ds I).reset I else cf x false ds I).bind fun s I => (match s.out with
    | some p => .ok p I
    | none => .bad)
  | none => bif as.any (fun p => decide (p.2 = .cst) || decide (p.2 = .inst)) then .bad else (((cf x true (as.map (·.1)) I).reset I).quiet).bind fun s I => (match s with
    | .val d => bif d.still then .ok (d, .fro) I else .bad
    | _ => .bad)
mutual
def ev : Tm → Bool → Fr → Is → R (D × Kd)
  | .cns c, _, _, I => .ok (c.d, .fro) I
  | .loc i, _, fr, I => (match fr[i]? with
    | some (.val d) => .ok (d, .fro) I
    | some (.lst xs) => .ok (.lst xs, .own) I
    | some (.dK ks vs) => .ok (.dK ks vs, .own) I
    | some (.dT ks vs) => .ok (.dT ks vs, .own) I
    | _ => .bad)
  | .gk x, _, _, I => (match cn x with
    | some (.int i) => .ok (.int i, .fro) I
    | some (.str z) => .ok (.str z, .fro) I
    | some (.tup xs) => .ok (.tup xs, .cst) I
    | _ => .bad)
  | .bin o a b, ro, fr, I => (ev a ro fr I).bind fun p I => (ev b (ro || isInst p.2) fr I).bind fun q I => binD o p.1 q.1 I
  | .neg a, ro, fr, I => (ev a ro fr I).bind fun p I => (match p.1 with
    | .int i => .ok (.int (-i), .fro) I
    | _ => .bad)
  | .cmp o a b, ro, fr, I => (ev a ro fr I).bind fun p I => (ev b (ro || isInst p.2) fr I).bind fun q I => cmpD o p.1 q.1 I
  | .isn ng a, ro, fr, I => (ev a ro fr I).bind fun p I => (match p.1 with
    | .non => b2 (!ng) I
    | _ => b2 ng I)
  | .isb ng k a, ro, fr, I => (ev a ro fr I).bind fun p I => (match p.1 with
    | .bl b => b2 (xor ng (b == k)) I
    | _ => .bad)
  | .ch2 o1 o2 a b c, ro, fr, I => (ev a ro fr I).bind fun p I => (ev b (ro || isInst p.2) fr I).bind fun q I => (cmpD o1 p.1 q.1 I).tst fun t I =>
      bif t then (ev c (ro || isInst q.2) fr I).bind fun r I => cmpD o2 q.1 r.1 I else b2 false I
  | .ch3 o1 o2 o3 a b c d, ro, fr, I => (ev a ro fr I).bind fun p I => (ev b (ro || isInst p.2) fr I).bind fun q I => (cmpD o1 p.1 q.1 I).tst fun t I =>
      bif t then (ev c (ro || isInst q.2) fr I).bind fun r I => (cmpD o2 q.1 r.1 I).tst fun t I =>
        bif t then (ev d (ro || isInst r.2) fr I).bind fun u I => cmpD o3 r.1 u.1 I else b2 false I
      else b2 false I
  | .and a b, ro, fr, I => (ev a ro fr I).tst fun t I => bif t then (ev b ro fr I).tst fun u I => b2 u I else b2 false I
  | .or a b, ro, fr, I => (ev a ro fr I).tst fun t I => bif t then b2 true I else (ev b ro fr I).tst fun u I => b2 u I
  | .not a, ro, fr, I => (ev a ro fr I).tst fun t I => b2 (!t) I
  | .ite c a b, ro, fr, I => (ev c ro fr I).tst fun t I => bif t then ev a ro fr I else ev b ro fr I
  | .tup es, ro, fr, I => (evK es ro fr I).bind fun ps I => (match frzAll ps with
    | some ds => bif decide (ds.length ≤ lim) then .ok (.tup ds, .fro) I else .bad
    | none => .bad)
  | .lst es, ro, fr, I => (evK es ro fr I).bind fun ps I => (match frzAll ps with
    | some ds => bif decide (ds.length ≤ lim) then .ok (.lst ds, .new) I else .bad
    | none => .bad)
  | .sub a i, ro, fr, I => (ev a ro fr I).bind fun p I => (ev i (ro || isInst p.2) fr I).bind fun q I => subD p.1 q.1 p.2 I
  | .slc a lo hi, ro, fr, I => (ev a ro fr I).bind fun p I => (evP lo (ro || isInst p.2) fr I).bind fun l I => (evP hi (ro || isInst p.2) fr I).bind fun h I => slcD p.1 p.2 l h I
  | .rev a, ro, fr, I => (ev a ro fr I).bind fun p I => (match p.1 with
    | .lst xs => .ok (.lst xs.reverse, .new) I
    | _ => .bad)
  | .call x es, ro, fr, I => (evK es ro fr I).bind fun ps I => callD cf x ro ps I
  | .blt f es, ro, fr, I => (evK es ro fr I).bind fun ps I => biD f ps I
  | .isi a ks, ro, fr, I => (ev a ro fr I).bind fun p I => (match ks with
    | [k] => (match isiD p.1 k with
      | some b => b2 b I
      | none => .bad)
    | _ => .bad)
  | .lc own elt tg it cond, ro, fr, I => (evI it ro fr I).bind fun p I =>
      ((lcL (fun fr I => (evC cond (ro || isInst p.2) fr I).bind fun t I => bif t then (ev elt (ro || isInst p.2) fr I).fz fun d I => .ok (some d) I else .ok none I) tg (wipeF fr own) p.1 I).quiet).bind fun ds I =>
        bif decide (ds.length ≤ lim) then .ok (.lst ds, .new) I else .bad
  | .told e, ro, fr, I => tellR (ev e ro fr I)
  | _, _, _, _ => .bad
/-- a row of terms -/
def evK : Tm → Bool → Fr → Is → R (List (D × Kd))
  | .nil, _, _, I => .ok [] I
  | .cons a b, ro, fr, I => (ev a ro fr I).bind fun p I => (evK b (ro || isInst p.2) fr I).bind fun ps I => .ok (p :: ps) I
  | _, _, _, _ => .bad
/-- a part of a cut -/
def evP : Tm → Bool → Fr → Is → R (Option Int)
  | .nil, _, _, I => .ok none I
  | .cons a .nil, ro, fr, I => (ev a ro fr I).bind fun p I => (match p.1 with
    | .int i => .ok (some i) I
    | _ => .bad)
  | _, _, _, _ => .bad
/-- the test of a list made item by item -/
def evC : Tm → Bool → Fr → Is → R Bool
  | .nil, _, _, I => .ok true I
  | .cons a .nil, ro, fr, I => (ev a ro fr I).tst fun t I => .ok t I
  | _, _, _, _ => .bad
/-- what is walked -/
def evI : Tm → Bool → Fr → Is → R (List D × Kd)
  | .rng1 a, ro, fr, I => (ev a ro fr I).bind fun p I => (match p.1 with
    | .int n => bif big62 n then .ok (rngL 0 n, .fro) I else .bad
    | _ => .bad)
  | .rng2 a b, ro, fr, I => (ev a ro fr I).bind fun p I => (ev b (ro || isInst p.2) fr I).bind fun q I => (match p.1, q.1 with
    | .int l, .int n => bif big62 l && big62 n then .ok (rngL l n, .fro) I else .bad
    | _, _ => .bad)
  | .enm a, ro, fr, I => (ev a ro fr I).bind fun p I => (match p.1 with
    | .lst xs => .ok (enmL 0 xs, p.2) I
    | _ => .bad)
  | .zp a b, ro, fr, I => (ev a ro fr I).bind fun p I => (ev b (ro || isInst p.2) fr I).bind fun q I => (match p.1, q.1 with
    | .lst xs, .lst ys => (match zpK p.2 q.2 with
      | some k => .ok (zpL xs ys, k) I
      | none => .bad)
    | _, _ => .bad)
  | .cons a .nil, ro, fr, I => (ev a ro fr I).bind fun p I => (match itD p with
    | some r => .ok r I
    | none => .bad)
  | _, _, _, _ => .bad
end
/-! ### blocks -/
def forL (body : Fr → Is → Xr) (tg : Tg) : List D → Fr → Is → Xr
  | [], fr, I => .nx fr I
  | x :: xs, fr, I => match asgT tg x fr with
    | none => .bad
    | some fr' => match body fr' I with
      | .nx fr I => forL body tg xs fr I
      | .ct fr I => forL body tg xs fr I
      | .bk fr I => .nx fr I
      | r => r
def whlL (test : Fr → Is → R Bool) (body : Fr → Is → Xr) : Nat → Fr → Is → Xr
  | 0, _, _ => .bad
  | n + 1, fr, I => (test fr I).stm fr fun t I => bif t then (match body fr I with
      | .nx fr I => whlL test body n fr I
      | .ct fr I => whlL test body n fr I
      | .bk fr I => .nx fr I
      | r => r) else .nx fr I
def Xr.bind (r : Xr) (f : Fr → Is → Xr) : Xr := match r with
  | .nx fr I => f fr I
  | r => r
def stoAll : List (Nat × Bool) → List (D × Kd) → Fr → Option Fr
  | [], [], fr => some fr
  | t :: ts, p :: ps, fr => match stoK t.2 p with
    | some s => stoAll ts ps (fr.set t.1 s)
    | none => none
  | _, _, _ => none
def frzS : Sl → Option D
  | .val d => some d
  | .lst xs => some (.lst xs)
  | .dK ks vs => some (.dK ks vs)
  | .dT ks vs => some (.dT ks vs)
  | .no => none
/-- a walk that only asks, and ends at the first yes -/
def frL (test : Fr → Is → R Bool) (r : D) (tg : Tg) : List D → Fr → Is → Xr
  | [], fr, I => .nx fr I
  | x :: xs, fr, I => match asgT tg x fr with
    | none => .bad
    | some fr' => (test fr' I).stm fr' fun t I => bif t then .rt (.val r) I else frL test r tg xs fr' I
def exec : Sm → Bool → Fr → Is → Xr
  | .nil, _, fr, I => .nx fr I
  | .cons s r, ro, fr, I => (exec s ro fr I).bind fun fr I => exec r ro fr I
  | .pass, _, fr, I => .nx fr I
  | .asg i e, ro, fr, I => (ev cn cf e ro fr I).stm fr fun p I => (match frzK p with
    | some d => .nx (fr.set i (.val d)) I
    | none => .bad)
  | .own i e, ro, fr, I => (ev cn cf e ro fr I).stm fr fun p I => (match stoK true p with
    | some s => .nx (fr.set i s) I
    | none => .bad)
  | .par tg es, ro, fr, I => (evK cn cf es ro fr I).stm fr fun ps I => (match stoAll tg ps fr with
    | some fr => .nx fr I
    | none => .bad)
  | .unp tg e, ro, fr, I => (ev cn cf e ro fr I).stm fr fun p I => (match frzK p with
    | some d => (match asgT (.tp tg) d fr with
      | some fr => .nx fr I
      | none => .bad)
    | none => .bad)
  | .app i e, ro, fr, I => (match fr[i]? with
    | some (.lst xs) => (ev cn cf e ro fr I).stm fr fun p I => (match frzK p with
      | some d => bif decide (xs.length < lim) then .nx (fr.set i (.lst (xs ++ [d]))) I else .bad
      | none => .bad)
    | _ => .bad)
  | .ext i e, ro, fr, I => (match fr[i]? with
    | some (.lst xs) => (ev cn cf e ro fr I).stm fr fun p I => (match p.1 with
      | .lst ys => bif decide (xs.length + ys.length ≤ lim) then .nx (fr.set i (.lst (xs ++ ys))) I else .bad
      | _ => .bad)
    | _ => .bad)
  | .rem i e, ro, fr, I => (match fr[i]? with
    | some (.lst xs) => (ev cn cf e ro fr I).stm fr fun p I => (match p.1, strsD xs with
      | .str z, some zs => bif decide (z ∈ zs) then .nx (fr.set i (.lst (xs.eraseIdx (zs.idxOf z)))) I else .bad
      | _, _ => .bad)
    | _ => .bad)
  | .expr e, ro, fr, I => (ev cn cf e ro fr I).stm fr fun _ I => .nx fr I
  | .iff c a b, ro, fr, I => ((ev cn cf c ro fr I).tst fun t I => .ok t I).stm fr fun t I => bif t then exec a ro fr I else exec b ro fr I
  | .for tg it body, ro, fr, I => (evI cn cf it ro fr I).stm fr fun p I => bif decide (p.2 = .own) then .bad else forL (fun fr I => exec body (ro || isInst p.2) fr I) tg p.1 fr I
  | .forR tg it c r, ro, fr, I => (evI cn cf it ro fr I).stm fr fun p I => frL (fun fr I => (ev cn cf c (ro || isInst p.2) fr I).tst fun t I => .ok t I) r.d tg p.1 fr I
  | .whl n c body, ro, fr, I => whlL (fun fr I => (ev cn cf c ro fr I).tst fun t I => .ok t I) (fun fr I => exec body ro fr I) n fr I
  | .ret e, ro, fr, I => (ev cn cf e ro fr I).stm fr fun p I => (match stoK true p with
    | some s => .rt s I
    | none => .bad)
  | .retOwn i, _, fr, I => (match fr[i]? with
    | some s => (match s.out with
      | some _ => .rt s I
      | none => .bad)
    | none => .bad)
  | .rais c, _, fr, I => .exc ⟨c, []⟩ fr I
  | .bk, _, fr, I => .bk fr I
  | .ct, _, fr, I => .ct fr I
  | .frz i, _, fr, I => (match fr[i]? with
    | some s => (match frzS s with
      | some d => .nx (fr.set i (.val d)) I
      | none => .nx fr I)
    | none => .nx fr I)
end
/-- a def -/
structure Fd where
  np : Nat
  nl : Nat
  dfl : List D
  body : Sm
structure Gm where
  cn : Str → Option D
  fn : Str → Option Fd
def fillD (fd : Fd) (as : List D) : Option (List D) := bif decide (as.length ≤ fd.np) && decide (fd.np ≤ as.length + fd.dfl.length) then some (as ++ fd.dfl.drop (as.length + fd.dfl.length - fd.np)) else none
def runB (r : Xr) : R Sl := match r with
  | .nx _ I => .ok (.val .non) I
  | .rt s I => .ok s I
  | .exc x _ I => .exc x I
  | _ => .bad
def callN (Γ : Gm) : Nat → Str → Bool → List D → Is → R Sl
  | 0, _, _, _, _ => .bad
  | n + 1, x, ro, as, I => match Γ.fn x with
    | some fd => (match fillD fd as with
      | some vs => runB (exec Γ.cn (callN Γ n) fd.body ro (vs.map Sl.val ++ List.replicate (fd.nl - fd.np) .no) I)
      | none => .bad)
    | none => .bad
end Air
/-! Air: how values lie on the heap. -/
namespace Air
open PySem L2

/-- the written part, known ahead -/
class Kf where
  K : PySem.W.Frag
variable [Kf]
/-- what stands still (F), the instances (M), the names' own containers, the instances' own things -/
structure Gh where
  F : Hp
  M : List (Addr × Addr)
  aF : List Addr
  aI : List Addr

mutual
inductive RV (F : Hp) (M : List (Addr × Addr)) : V → D → Prop
  | non : RV F M .non .non
  | bl (b : Bool) : RV F M (.bl b) (.bl b)
  | int (i : Int) : RV F M (.int i) (.int i)
  | str (z : Str) (h : PyData.strOk z = true) : RV F M (.str z) (.str z)
  | tup {a : Addr} {vs : List V} {ds : List D} : F a = some (.tup vs) → RVs F M vs ds → RV F M (.ref a) (.tup ds)
  | lst {a : Addr} {vs : List V} {ds : List D} : F a = some (.lst vs) → RVs F M vs ds → RV F M (.ref a) (.lst ds)
  | dK {a : Addr} {ks : List Ky} {vs : List V} {ds : List D} : F a = some (.dK (ks.zip vs)) → ks.length = vs.length → RVs F M vs ds → RV F M (.ref a) (.dK ks ds)
  | dT {a : Addr} {ks : List (List Ky)} {vs : List V} {ds : List D} : F a = some (.dT (ks.zip vs)) → ks.length = vs.length → RVs F M vs ds → RV F M (.ref a) (.dT ks ds)
  | scr {a : Addr} {ns : List Int} {o : Obj} : F a = some (.frz o (.lst (ns.map V.int))) → RV F M (.ref a) (.scr ns)
  | scrL {a : Addr} {ns : List Int} : F a = some (.lst (ns.map V.int)) → RV F M (.ref a) (.scr ns)
  | scrK {a : Addr} {ns : List Int} : (∀ H : Hp, SqL Kf.K H a (ns.map V.int)) → RV F M (.ref a) (.scr ns)
  | ins {p dx : Addr} {k : Nat} : M[k]? = some (p, dx) → RV F M (.ref p) (.ins k)
inductive RVs (F : Hp) (M : List (Addr × Addr)) : List V → List D → Prop
  | nil : RVs F M [] []
  | cons {v : V} {d : D} {vs : List V} {ds : List D} : RV F M v d → RVs F M vs ds → RVs F M (v :: vs) (d :: ds)
end

section
variable {F F' : Hp} {M M' : List (Addr × Addr)}
theorem pre_get {k : Nat} {x : Addr × Addr} (hM : M <+: M') (h : M[k]? = some x) : M'[k]? = some x := by
  obtain ⟨t, rfl⟩ := hM
  rw [List.getElem?_append_left (List.getElem?_eq_some_iff.mp h).1]
  exact h
mutual
theorem RV.mono (hF : ∀ a u, F a = some u → F' a = some u) (hM : M <+: M') : ∀ {v : V} {d : D}, RV F M v d → RV F' M' v d
  | _, _, .non => .non
  | _, _, .bl b => .bl b
  | _, _, .int i => .int i
  | _, _, .str z h => .str z h
  | _, _, .tup e r => .tup (hF _ _ e) (RVs.mono hF hM r)
  | _, _, .lst e r => .lst (hF _ _ e) (RVs.mono hF hM r)
  | _, _, .dK e l r => .dK (hF _ _ e) l (RVs.mono hF hM r)
  | _, _, .dT e l r => .dT (hF _ _ e) l (RVs.mono hF hM r)
  | _, _, .scr e => .scr (hF _ _ e)
  | _, _, .scrL e => .scrL (hF _ _ e)
  | _, _, .scrK e => .scrK e
  | _, _, .ins e => .ins (pre_get hM e)
theorem RVs.mono (hF : ∀ a u, F a = some u → F' a = some u) (hM : M <+: M') : ∀ {vs : List V} {ds : List D}, RVs F M vs ds → RVs F' M' vs ds
  | _, _, .nil => .nil
  | _, _, .cons r rs => .cons (RV.mono hF hM r) (RVs.mono hF hM rs)
end
theorem RVs.length : ∀ {vs : List V} {ds : List D}, RVs F M vs ds → vs.length = ds.length
  | _, _, .nil => rfl
  | _, _, .cons _ rs => by simp [RVs.length rs]
theorem RVs.append : ∀ {vs ws : List V} {ds es : List D}, RVs F M vs ds → RVs F M ws es → RVs F M (vs ++ ws) (ds ++ es)
  | _, _, _, _, .nil, s => s
  | _, _, _, _, .cons r rs, s => .cons r (RVs.append rs s)
theorem RVs.get : ∀ {vs : List V} {ds : List D} {i : Nat} {d : D}, RVs F M vs ds → ds[i]? = some d → ∃ v, vs[i]? = some v ∧ RV F M v d
  | _, _, _, _, .nil, e => by simp at e
  | _, _, 0, _, .cons r _, e => by simp at e; subst e; exact ⟨_, rfl, r⟩
  | _, _, i + 1, d, .cons _ rs, e => by
    obtain ⟨v, h1, h2⟩ := RVs.get (i := i) (d := d) rs (by simpa using e)
    exact ⟨v, by simpa using h1, h2⟩
theorem RVs.getV : ∀ {vs : List V} {ds : List D} {i : Nat} {v : V}, RVs F M vs ds → vs[i]? = some v → ∃ d, ds[i]? = some d ∧ RV F M v d
  | _, _, _, _, .nil, e => by simp at e
  | _, _, 0, _, .cons r _, e => by simp at e; subst e; exact ⟨_, rfl, r⟩
  | _, _, i + 1, v, .cons _ rs, e => by
    obtain ⟨d, h1, h2⟩ := RVs.getV (i := i) (v := v) rs (by simpa using e)
    exact ⟨d, by simpa using h1, h2⟩
theorem RVs.drop : ∀ {vs : List V} {ds : List D} (n : Nat), RVs F M vs ds → RVs F M (vs.drop n) (ds.drop n)
  | _, _, 0, r => r
  | _, _, _ + 1, .nil => .nil
  | _, _, n + 1, .cons _ rs => RVs.drop n rs
theorem RVs.take : ∀ {vs : List V} {ds : List D} (n : Nat), RVs F M vs ds → RVs F M (vs.take n) (ds.take n)
  | _, _, 0, _ => .nil
  | _, _, _ + 1, .nil => .nil
  | _, _, n + 1, .cons r rs => .cons r (RVs.take n rs)
theorem RVs.reverse {vs : List V} {ds : List D} (r : RVs F M vs ds) : RVs F M vs.reverse ds.reverse := by
  induction vs generalizing ds with
  | nil => cases r; exact .nil
  | cons v vs ih =>
    cases r with
    | cons r rs =>
      rw [List.reverse_cons, List.reverse_cons]
      exact (ih rs).append (.cons r .nil)
theorem RVs.ints : ∀ (ns : List Int), RVs F M (ns.map V.int) (ns.map D.int)
  | [] => .nil
  | n :: ns => .cons (.int n) (RVs.ints ns)
theorem RVs.intsD : ∀ {vs : List V} {ds : List D} {ns : List Int}, RVs F M vs ds → Air.intsD ds = some ns → vs = ns.map V.int
  | _, _, _, .nil, e => by cases e; rfl
  | _, _, _, .cons r rs, e => by
    cases r <;> simp only [Air.intsD] at e <;> try (cases e; done)
    rename_i i
    obtain ⟨ms, hm, rfl⟩ := Option.map_eq_some_iff.mp e
    rw [RVs.intsD rs hm]; rfl
theorem RVs.strsD : ∀ {vs : List V} {ds : List D} {ns : List Str}, RVs F M vs ds → Air.strsD ds = some ns → vs = ns.map V.str
  | _, _, _, .nil, e => by cases e; rfl
  | _, _, _, .cons r rs, e => by
    cases r <;> simp only [Air.strsD] at e <;> try (cases e; done)
    obtain ⟨ms, hm, rfl⟩ := Option.map_eq_some_iff.mp e
    rw [RVs.strsD rs hm]; rfl
theorem RVs.blsD : ∀ {vs : List V} {ds : List D} {ns : List Bool}, RVs F M vs ds → Air.blsD ds = some ns → vs = ns.map V.bl
  | _, _, _, .nil, e => by cases e; rfl
  | _, _, _, .cons r rs, e => by
    cases r <;> simp only [Air.blsD] at e <;> try (cases e; done)
    obtain ⟨ms, hm, rfl⟩ := Option.map_eq_some_iff.mp e
    rw [RVs.blsD rs hm]; rfl
end

/-! ### containers -/
def Lk (lk : Bool) (H : Hp) (a : Addr) (u : HO) : Prop := H a = some u ∨ (lk = true ∧ ∃ o, H a = some (.frz o u))
def SlAt (lk : Bool) (F : Hp) (M : List (Addr × Addr)) (H : Hp) (a : Addr) : Sl → Prop
  | .lst ds => ∃ vs, H a = some (.lst vs) ∧ RVs F M vs ds
  | .dK ks ds => ∃ vs, Lk lk H a (.dK (ks.zip vs)) ∧ ks.length = vs.length ∧ RVs F M vs ds
  | .dT ks ds => ∃ vs, Lk lk H a (.dT (ks.zip vs)) ∧ ks.length = vs.length ∧ RVs F M vs ds
  | _ => False
/-- what a place holds; its own addresses -/
def SlV (lk : Bool) (F : Hp) (M : List (Addr × Addr)) (H : Hp) (ov : Option V) (s : Sl) (as : List Addr) : Prop := match s with
  | .no => as = []
  | .val d => as = [] ∧ ∃ v, ov = some v ∧ RV F M v d
  | s => ∃ a, as = [a] ∧ ov = some (.ref a) ∧ SlAt lk F M H a s
inductive FrR (F : Hp) (M : List (Addr × Addr)) (H : Hp) : L2.St → Fr → List Addr → Prop
  | nil : FrR F M H [] [] []
  | cons {ov : Option V} {s : Sl} {as bs : List Addr} {σ : L2.St} {fr : Fr} : SlV false F M H ov s as → FrR F M H σ fr bs → FrR F M H (ov :: σ) (s :: fr) (as ++ bs)
inductive FdR (lk : Bool) (F : Hp) (M : List (Addr × Addr)) (H : Hp) : List (Str × V) → Ob → List Addr → Prop
  | nil : FdR lk F M H [] [] []
  | cons {x : Str} {v : V} {s : Sl} {as bs : List Addr} {fs : List (Str × V)} {ob : Ob} : SlV lk F M H (some v) s as → FdR lk F M H fs ob bs → FdR lk F M H ((x, v) :: fs) ((x, s) :: ob) (as ++ bs)
inductive IsR (C : Addr) (lk : Bool) (F : Hp) (M : List (Addr × Addr)) (H : Hp) : List (Addr × Addr) → Is → List Addr → Prop
  | nil : IsR C lk F M H [] [] []
  | cons {p dx : Addr} {fs : List (Str × V)} {ob : Ob} {as bs : List Addr} {ps : List (Addr × Addr)} {I : Is} : H p = some (.ins C dx fs) → H dx = some (.own p) → FdR lk F M H fs ob as → IsR C lk F M H ps I bs →
      IsR C lk F M H ((p, dx) :: ps) (ob :: I) (p :: as ++ bs)
/-- F's thing is there (a dict may be locked) -/
def Sub (H : Hp) (a : Addr) (u : HO) : Prop := H a = some u ∨ (((∃ kvs, u = .dK kvs) ∨ ∃ kvs, u = .dT kvs) ∧ ∃ o, H a = some (.frz o u))
/-- what may stand in F -/
def Fine : HO → Prop
  | .tup _ => True
  | .lst _ => True
  | .dK _ => True
  | .dT _ => True
  | .frz _ (.lst _) => True
  | _ => False
structure Cfg where
  C : Addr
  Tb : List (Addr × Str)
structure Sx (c : Cfg) (lk : Bool) (G : Gh) (fr : Fr) (I : Is) (σ : L2.St) (H : Hp) : Prop where
  fr : FrR G.F G.M H σ fr G.aF
  is : IsR c.C lk G.F G.M H G.M I G.aI
  nd : (G.aF ++ G.aI).Nodup
  sep : ∀ a ∈ G.aF ++ G.aI, G.F a = none
  sub : ∀ a u, G.F a = some u → Sub H a u
  fine : ∀ a u, G.F a = some u → Fine u
  tb : LamX.Tabs c.Tb H

/-- what is at a stays, but for a table -/
def Kp (H H' : Hp) (a : Addr) : Prop := ∀ o, H a = some o → (∀ ps, o ≠ .tbl ps) → H' a = some o
section
variable {c : Cfg} {lk : Bool} {F F' : Hp} {M M' : List (Addr × Addr)} {H H' : Hp} {G G' : Gh} {fr : Fr} {I : Is} {σ : L2.St}
theorem Lk.mono {a : Addr} {u : HO} (hu : ∀ ps, u ≠ .tbl ps) (k : Kp H H' a) (h : Lk lk H a u) : Lk lk H' a u := by
  rcases h with h | ⟨h, o, e⟩
  · exact .inl (k _ h hu)
  · exact .inr ⟨h, o, k _ e fun ps z => by cases z⟩
theorem Lk.some {a : Addr} {u : HO} (h : Lk lk H a u) : H a ≠ none := by
  rcases h with h | ⟨_, o, h⟩ <;> rw [h] <;> simp
theorem Lk.rd {a : Addr} {u : HO} (h : Lk lk H a u) : Rd H a u := by
  rcases h with h | ⟨_, o, h⟩
  · exact .inl h
  · exact .inr ⟨o, h⟩
theorem SlAt.mono {a : Addr} (hF : ∀ a u, F a = some u → F' a = some u) (hM : M <+: M') (k : Kp H H' a) : ∀ {s : Sl}, SlAt lk F M H a s → SlAt lk F' M' H' a s
  | .lst _, ⟨vs, e, r⟩ => ⟨vs, k _ e (fun ps z => by cases z), r.mono hF hM⟩
  | .dK _ _, ⟨vs, e, l, r⟩ => ⟨vs, e.mono (fun ps z => by cases z) k, l, r.mono hF hM⟩
  | .dT _ _, ⟨vs, e, l, r⟩ => ⟨vs, e.mono (fun ps z => by cases z) k, l, r.mono hF hM⟩
theorem SlAt.some {a : Addr} : ∀ {s : Sl}, SlAt lk F M H a s → H a ≠ none
  | .lst _, ⟨vs, e, r⟩ => by rw [e]; simp
  | .dK _ _, ⟨vs, e, l, r⟩ => e.some
  | .dT _ _, ⟨vs, e, l, r⟩ => e.some
theorem SlAt.weak {a : Addr} (lk : Bool) : ∀ {s : Sl}, SlAt false F M H a s → SlAt lk F M H a s
  | .lst _, ⟨vs, e, r⟩ => ⟨vs, e, r⟩
  | .dK _ _, ⟨vs, .inl e, l, r⟩ => ⟨vs, .inl e, l, r⟩
  | .dT _ _, ⟨vs, .inl e, l, r⟩ => ⟨vs, .inl e, l, r⟩
theorem SlV.mono {ov : Option V} {s : Sl} {as : List Addr} (hF : ∀ a u, F a = some u → F' a = some u) (hM : M <+: M') (k : ∀ a ∈ as, Kp H H' a) (h : SlV lk F M H ov s as) : SlV lk F' M' H' ov s as := by
  cases s with
  | no => exact h
  | val d => obtain ⟨e, v, e2, r⟩ := h; exact ⟨e, v, e2, r.mono hF hM⟩
  | _ => obtain ⟨a, rfl, e2, r⟩ := h; exact ⟨a, rfl, e2, r.mono hF hM (k a (by simp))⟩
theorem SlV.weak {ov : Option V} {s : Sl} {as : List Addr} (lk : Bool) (h : SlV false F M H ov s as) : SlV lk F M H ov s as := by
  cases s with
  | no => exact h
  | val d => exact h
  | _ => obtain ⟨a, e, e2, r⟩ := h; exact ⟨a, e, e2, r.weak lk⟩
theorem SlV.there {ov : Option V} {s : Sl} {as : List Addr} (h : SlV lk F M H ov s as) : ∀ a ∈ as, H a ≠ none := by
  cases s with
  | no => have e : as = [] := h; subst e; simp
  | val d => obtain ⟨rfl, _⟩ := h; simp
  | _ => obtain ⟨a, rfl, _, r⟩ := h; intro b hb; rw [List.mem_singleton.mp hb]; exact r.some
theorem FrR.mono (hF : ∀ a u, F a = some u → F' a = some u) (hM : M <+: M') {as : List Addr} (h : FrR F M H σ fr as) (k : ∀ a ∈ as, Kp H H' a) : FrR F' M' H' σ fr as := by
  induction h with
  | nil => exact .nil
  | cons hs _ ih => exact .cons (hs.mono hF hM fun a ha => k a (List.mem_append_left _ ha)) (ih fun a ha => k a (List.mem_append_right _ ha))
theorem FrR.there {as : List Addr} (h : FrR F M H σ fr as) : ∀ a ∈ as, H a ≠ none := by
  induction h with
  | nil => simp
  | cons hs _ ih => intro a ha; exact (List.mem_append.mp ha).elim (hs.there a) (ih a)
theorem FdR.mono (hF : ∀ a u, F a = some u → F' a = some u) (hM : M <+: M') {fs : List (Str × V)} {ob : Ob} {as : List Addr} (h : FdR lk F M H fs ob as) (k : ∀ a ∈ as, Kp H H' a) : FdR lk F' M' H' fs ob as := by
  induction h with
  | nil => exact .nil
  | cons hs _ ih => exact .cons (hs.mono hF hM fun a ha => k a (List.mem_append_left _ ha)) (ih fun a ha => k a (List.mem_append_right _ ha))
theorem FdR.weak {fs : List (Str × V)} {ob : Ob} {as : List Addr} (lk : Bool) (h : FdR false F M H fs ob as) : FdR lk F M H fs ob as := by
  induction h with
  | nil => exact .nil
  | cons hs _ ih => exact .cons (hs.weak lk) ih
theorem FdR.there {fs : List (Str × V)} {ob : Ob} {as : List Addr} (h : FdR lk F M H fs ob as) : ∀ a ∈ as, H a ≠ none := by
  induction h with
  | nil => simp
  | cons hs _ ih => intro a ha; exact (List.mem_append.mp ha).elim (hs.there a) (ih a)
theorem IsR.mono {C : Addr} (hF : ∀ a u, F a = some u → F' a = some u) (hM : M <+: M') {ps : List (Addr × Addr)} {as : List Addr} (h : IsR C lk F M H ps I as) (k : ∀ a ∈ as, Kp H H' a)
    (kd : ∀ a p, H a = some (.own p) → H' a = some (.own p)) : IsR C lk F' M' H' ps I as := by
  induction h with
  | nil => exact .nil
  | cons h1 h2 h3 _ ih =>
    exact .cons (k _ (by simp) _ h1 fun ps z => by cases z) (kd _ _ h2) (h3.mono hF hM fun a ha => k a (by simp [ha])) (ih fun a ha => k a (by simp [ha]))
theorem IsR.weak {C : Addr} {ps : List (Addr × Addr)} {as : List Addr} (lk : Bool) (h : IsR C false F M H ps I as) : IsR C lk F M H ps I as := by
  induction h with
  | nil => exact .nil
  | cons h1 h2 h3 _ ih => exact .cons h1 h2 (h3.weak lk) ih
theorem IsR.there {C : Addr} {ps : List (Addr × Addr)} {as : List Addr} (h : IsR C lk F M H ps I as) : ∀ a ∈ as, H a ≠ none := by
  induction h with
  | nil => simp
  | cons h1 h2 h3 _ ih =>
    intro a ha
    rcases List.mem_append.mp ha with ha | ha
    · rcases List.mem_cons.mp ha with rfl | ha
      · rw [h1]; simp
      · exact h3.there a ha
    · exact ih a ha
theorem Sub.mono {a : Addr} {u : HO} (k : ∀ o, H a = some o → H' a = some o) (h : Sub H a u) : Sub H' a u := by
  rcases h with h | ⟨h, o, e⟩
  · exact .inl (k _ h)
  · exact .inr ⟨h, o, k _ e⟩
theorem Sub.there {a : Addr} {u : HO} (h : Sub H a u) : H a ≠ none := by
  rcases h with h | ⟨_, o, h⟩ <;> rw [h] <;> simp
theorem Sub.tup {a : Addr} {vs : List V} (h : Sub H a (.tup vs)) : H a = some (.tup vs) := by
  rcases h with h | ⟨(⟨_, e⟩ | ⟨_, e⟩), _⟩
  · exact h
  · cases e
  · cases e
theorem Sub.lst {a : Addr} {vs : List V} (h : Sub H a (.lst vs)) : H a = some (.lst vs) := by
  rcases h with h | ⟨(⟨_, e⟩ | ⟨_, e⟩), _⟩
  · exact h
  · cases e
  · cases e
theorem Sub.frz {a : Addr} {o : Obj} {u : HO} (h : Sub H a (.frz o u)) : H a = some (.frz o u) := by
  rcases h with h | ⟨(⟨_, e⟩ | ⟨_, e⟩), _⟩
  · exact h
  · cases e
  · cases e
theorem Sub.rd {a : Addr} {u : HO} (h : Sub H a u) : Rd H a u := by
  rcases h with h | ⟨_, o, h⟩
  · exact .inl h
  · exact .inr ⟨o, h⟩
/-- all stays, more may come -/
theorem Sx.more (S : Sx c lk G fr I σ H) (k : ∀ a o, H a = some o → H' a = some o) : Sx c lk G fr I σ H' :=
  ⟨S.fr.mono (fun _ _ e => e) (List.prefix_refl _) fun a _ o e _ => k a o e, S.is.mono (fun _ _ e => e) (List.prefix_refl _) (fun a _ o e _ => k a o e) fun a p e => k a _ e, S.nd, S.sep, fun a u e => (S.sub a u e).mono (k a), S.fine, S.tb.ext k⟩
theorem Sx.new {p : Addr} {o : HO} (S : Sx c lk G fr I σ H) (hp : H p = none) : Sx c lk G fr I σ (upd H p o) := S.more fun a u e => by
  rw [upd_ne (ne_of_none e hp)]; exact e
theorem Sx.weak (S : Sx c false G fr I σ H) (lk : Bool) : Sx c lk G fr I σ H := ⟨S.fr, S.is.weak lk, S.nd, S.sep, S.sub, S.fine, S.tb⟩
theorem Sx.notF {a : Addr} (S : Sx c lk G fr I σ H) (hp : H a = none) : G.F a = none := by
  cases e : G.F a with
  | none => rfl
  | some u => exact absurd hp (S.sub a u e).there
theorem Sx.notFr {a : Addr} (S : Sx c lk G fr I σ H) (hp : H a = none) : a ∉ G.aF := fun h => S.fr.there a h hp
theorem Sx.notIs {a : Addr} (S : Sx c lk G fr I σ H) (hp : H a = none) : a ∉ G.aI := fun h => S.is.there a h hp
/-- F with one more -/
def Gh.put (G : Gh) (a : Addr) (u : HO) : Gh := { G with F := upd G.F a u }
theorem put_mono {a : Addr} {u : HO} (h : G.F a = none) : ∀ b w, G.F b = some w → (G.put a u).F b = some w := fun b w e => by
  show upd G.F a u b = some w
  rw [upd_ne (ne_of_none e h)]; exact e
/-- a thing of nobody's stands still from now on -/
theorem Sx.freeze {a : Addr} {u : HO} (S : Sx c lk G fr I σ H) (hu : Fine u) (h1 : Sub H a u) (h2 : a ∉ G.aF) (h3 : a ∉ G.aI) (h4 : G.F a = none) : Sx c lk (G.put a u) fr I σ H := by
  refine ⟨S.fr.mono (put_mono h4) (List.prefix_refl _) fun _ _ _ e _ => e, S.is.mono (put_mono h4) (List.prefix_refl _) (fun _ _ _ e _ => e) fun _ _ e => e, S.nd, fun b hb => ?_, fun b w e => ?_, fun b w e => ?_, S.tb⟩
  · show upd G.F a u b = none
    rw [upd_ne]
    · exact S.sep b hb
    · rintro rfl
      exact (List.mem_append.mp hb).elim h2 h3
  · have e : upd G.F a u b = some w := e
    by_cases hb : b = a
    · subst hb; rw [upd_same] at e; cases e; exact h1
    · rw [upd_ne hb] at e; exact S.sub b w e
  · have e : upd G.F a u b = some w := e
    by_cases hb : b = a
    · subst hb; rw [upd_same] at e; cases e; exact hu
    · rw [upd_ne hb] at e; exact S.fine b w e
end

/-! ### from one state to a later one -/
/-- behind a term -/
structure Ext (ro : Bool) (G : Gh) (H : Hp) (G' : Gh) (H' : Hp) : Prop where
  keep : ∀ a o, H a = some o → (ro = true ∨ a ∉ G.aI) → (∀ ps, o ≠ .tbl ps) → H' a = some o
  dom : ∀ a, H' a = none → H a = none
  F : ∀ a u, G.F a = some u → G'.F a = some u
  Fn : ∀ a u, G'.F a = some u → G.F a = some u ∨ H a = none
  aF : G'.aF = G.aF
  aI : ∀ a ∈ G'.aI, a ∈ G.aI ∨ H a = none
  M : G.M <+: G'.M
  ro : ro = true → G'.aI = G.aI ∧ G'.M = G.M
/-- behind a statement -/
structure ExtS (ro : Bool) (G : Gh) (H : Hp) (G' : Gh) (H' : Hp) : Prop where
  keep : ∀ a o, H a = some o → (ro = true ∨ a ∉ G.aI) → a ∉ G.aF → (∀ ps, o ≠ .tbl ps) → H' a = some o
  dom : ∀ a, H' a = none → H a = none
  F : ∀ a u, G.F a = some u → G'.F a = some u
  Fn : ∀ a u, G'.F a = some u → G.F a = some u ∨ H a = none ∨ a ∈ G.aF
  aF : ∀ a ∈ G'.aF, a ∈ G.aF ∨ H a = none
  aI : ∀ a ∈ G'.aI, a ∈ G.aI ∨ H a = none
  M : G.M <+: G'.M
  ro : ro = true → G'.aI = G.aI ∧ G'.M = G.M
section
variable {c : Cfg} {lk ro : Bool} {H H1 H2 : Hp} {G G1 G2 : Gh} {fr : Fr} {I : Is} {σ : L2.St}
theorem Ext.refl : Ext ro G H G H := ⟨fun _ _ e _ _ => e, fun _ e => e, fun _ _ e => e, fun _ _ e => .inl e, rfl, fun _ h => .inl h, List.prefix_refl _, fun _ => ⟨rfl, rfl⟩⟩
theorem Ext.trans (a : Ext ro G H G1 H1) (b : Ext ro G1 H1 G2 H2) : Ext ro G H G2 H2 where
  keep := fun x o e h t => b.keep x o (a.keep x o e h t) (by
    rcases h with h | h
    · exact .inl h
    · exact .inr fun hx => (a.aI x hx).elim h fun z => by rw [z] at e; cases e) t
  dom := fun x e => a.dom x (b.dom x e)
  F := fun x u e => b.F x u (a.F x u e)
  Fn := fun x u e => (b.Fn x u e).elim (a.Fn x u) fun z => .inr (a.dom x z)
  aF := b.aF.trans a.aF
  aI := fun x h => (b.aI x h).elim (a.aI x) fun z => .inr (a.dom x z)
  M := a.M.trans b.M
  ro := fun r => ⟨(b.ro r).1.trans (a.ro r).1, (b.ro r).2.trans (a.ro r).2⟩
theorem Ext.weak (a : Ext true G H G1 H1) (ro : Bool) : Ext ro G H G1 H1 := ⟨fun x o e _ t => a.keep x o e (.inl rfl) t, a.dom, a.F, a.Fn, a.aF, a.aI, a.M, fun _ => a.ro rfl⟩
theorem Ext.s (a : Ext ro G H G1 H1) : ExtS ro G H G1 H1 := ⟨fun x o e h _ t => a.keep x o e h t, a.dom, a.F, fun x u e => (a.Fn x u e).imp id .inl, fun x h => .inl (a.aF ▸ h), a.aI, a.M, a.ro⟩
theorem ExtS.refl : ExtS ro G H G H := Ext.refl.s
theorem ExtS.trans (a : ExtS ro G H G1 H1) (b : ExtS ro G1 H1 G2 H2) : ExtS ro G H G2 H2 where
  keep := fun x o e h hf t => b.keep x o (a.keep x o e h hf t) (by
    rcases h with h | h
    · exact .inl h
    · exact .inr fun hx => (a.aI x hx).elim h fun z => by rw [z] at e; cases e) (fun hx => (a.aF x hx).elim hf fun z => by rw [z] at e; cases e) t
  dom := fun x e => a.dom x (b.dom x e)
  F := fun x u e => b.F x u (a.F x u e)
  Fn := fun x u e => (b.Fn x u e).elim (a.Fn x u) fun z => z.elim (fun z => .inr (.inl (a.dom x z))) fun z => (a.aF x z).elim (fun z => .inr (.inr z)) fun z => .inr (.inl z)
  aF := fun x h => (b.aF x h).elim (a.aF x) fun z => .inr (a.dom x z)
  aI := fun x h => (b.aI x h).elim (a.aI x) fun z => .inr (a.dom x z)
  M := a.M.trans b.M
  ro := fun r => ⟨(b.ro r).1.trans (a.ro r).1, (b.ro r).2.trans (a.ro r).2⟩
/-- a new thing that is not noted -/
theorem Ext.new {p : Addr} {o : HO} (hp : H p = none) : Ext ro G H G (upd H p o) := ⟨fun a u e _ _ => by rw [upd_ne (ne_of_none e hp)]; exact e, fun a e => by
    by_cases h : a = p
    · subst h; exact hp
    · rw [upd_ne h] at e; exact e, fun _ _ e => e, fun _ _ e => .inl e, rfl, fun _ h => .inl h, List.prefix_refl _, fun _ => ⟨rfl, rfl⟩⟩
/-- a thing that came since stands still from now on -/
theorem Ext.put {a : Addr} {u : HO} (x : Ext ro G H G1 H1) (h0 : H a = none) (h4 : G1.F a = none) : Ext ro G H (G1.put a u) H1 :=
  ⟨x.keep, x.dom, fun b w e => put_mono h4 b w (x.F b w e), fun b w e => by
    have e : upd G1.F a u b = some w := e
    by_cases hb : b = a
    · subst hb; exact .inr h0
    · rw [upd_ne hb] at e; exact x.Fn b w e, x.aF, x.aI, x.M, x.ro⟩
/-- nothing of the state is touched -/
theorem IsR.mono2 {C : Addr} {F F' : Hp} {M M' : List (Addr × Addr)} (hF : ∀ a u, F a = some u → F' a = some u) (hM : M <+: M') {ps : List (Addr × Addr)} {as : List Addr} (h : IsR C lk F M H ps I as) (k : ∀ a, Kp H H1 a) : IsR C lk F' M' H1 ps I as :=
  h.mono hF hM (fun a _ => k a) fun a p e => k a _ e fun ps z => by cases z
theorem Sx.over (S : Sx c lk G fr I σ H) (x : Ext true G H G1 H1) (sub : ∀ a u, G1.F a = some u → Sub H1 a u) (fine : ∀ a u, G1.F a = some u → Fine u) (tb : LamX.Tabs c.Tb H1) : Sx c lk G1 fr I σ H1 := by
  have k : ∀ a, Kp H H1 a := fun a o e t => x.keep a o e (.inl rfl) t
  obtain ⟨e1, e2⟩ := x.ro rfl
  refine ⟨x.aF ▸ S.fr.mono x.F x.M fun a _ => k a, ?_, by rw [x.aF, e1]; exact S.nd, fun a ha => ?_, sub, fine, tb⟩
  · have q := S.is.mono2 x.F x.M k
    rw [e1]
    rw [e2] at q ⊢
    exact q
  · rw [x.aF, e1] at ha
    cases e : G1.F a with
    | none => rfl
    | some u =>
      rcases x.Fn a u e with z | z
      · rw [S.sep a ha] at z; cases z
      · rcases List.mem_append.mp ha with h | h
        · exact absurd z (S.fr.there a h)
        · exact absurd z (S.is.there a h)
end
end Air
/-! Air: what a term's evaluation says of a run. -/
namespace Air
open PySem PySem.Spec PyProof.Rows L2
variable [Kf]

/-- the language's own part: constants, defs, where things stand -/
structure Lg where
  cn : Str → Option D
  kn : Str → Option (Nat × Nat)
  cf : Str → Bool → List D → Is → R Sl
  c : Cfg
  mg : Str → Option Value
abbrev Lg.K (L : Lg) : PySem.W.Frag := Kf.K

/-- a value and how it lies; H0: the heap ahead -/
inductive Rk (L : Lg) (H0 : Hp) (G : Gh) (H : Hp) : D × Kd → V → Prop
  | fro {d : D} {v : V} : RV G.F G.M v d → Rk L H0 G H (d, .fro) v
  | own {d : D} {s : Sl} {a : Addr} : Sl.inn d = some s → SlAt false G.F G.M H a s → a ∈ G.aF → Rk L H0 G H (d, .own) (.ref a)
  | inst {d : D} {s : Sl} {a : Addr} : Sl.inn d = some s → SlAt true G.F G.M H a s → a ∈ G.aI → Rk L H0 G H (d, .inst) (.ref a)
  | new {d : D} {s : Sl} {a : Addr} : Sl.inn d = some s → SlAt false G.F G.M H a s → H0 a = none → G.F a = none → a ∉ G.aF → a ∉ G.aI → Rk L H0 G H (d, .new) (.ref a)
  | cst {vs : List V} {ds : List D} {a : Addr} : (∀ H', SqT L.K H' a vs) → RVs (fun _ => none) [] vs ds → Rk L H0 G H (.tup ds, .cst) (.ref a)

section
variable {L : Lg} {G : Gh} {H : Hp}
theorem Rk.lg {L' : Lg} {H0 : Hp} {p : D × Kd} {v : V} (h : Rk L H0 G H p v) : Rk L' H0 G H p v := by
  cases h with
  | fro h => exact .fro h
  | own e h m => exact .own e h m
  | inst e h m => exact .inst e h m
  | new e h h0 h1 h2 h3 => exact .new e h h0 h1 h2 h3
  | cst h r => exact .cst h r
end
/-- an exception: its class by name, its fields -/
def XR (L : Lg) (G : Gh) (H : Hp) (x : Ex) (cls : Value) (d : Option Addr) : Prop :=
  L.mg x.cls = some cls ∧ ((x.fs = [] ∧ d = none) ∨ ∃ (a : Addr) (vs : List V), d = some a ∧ H a = some (.xd ((x.fs.map (·.1)).zip vs)) ∧ RVs G.F G.M vs (x.fs.map (·.2)))

/-- what a result says: r of the state G H -/
def PR (L : Lg) (W : WX) (ro : Bool) (G : Gh) (H : Hp) (σ : L2.St) (fr : Fr) {α β : Type} (r : R α) (rel : Gh → Hp → α → β → Prop) (Q : β → Hp → Prop) : Prop := match r with
  | .ok a I' => ∀ v G' H', Ext ro G H G' H' → Sx L.c ro G' fr I' σ H' → rel G' H' a v → Q v H'
  | .exc x I' => ∀ cls d G' H', Ext ro G H G' H' → Sx L.c ro G' fr I' σ H' → XR L G' H' x cls d → W cls d σ H'
  | .bad => False

section
variable {L : Lg} {W : WX} {ro ro' : Bool} {G G1 G2 : Gh} {H H1 H2 : Hp} {σ : L2.St} {fr : Fr} {I I1 : Is} {α β γ δ : Type}
theorem PR.imp {r : R α} {rel rel' : Gh → Hp → α → β → Prop} {Q Q' : β → Hp → Prop} (h : PR L W ro G H σ fr r rel Q) (hr : ∀ G' H' a v, rel' G' H' a v → rel G' H' a v) (hq : ∀ v H', Q v H' → Q' v H') : PR L W ro G H σ fr r rel' Q' := by
  cases r with
  | ok a I' => exact fun v G' H' x S q => hq _ _ (h v G' H' x S (hr _ _ _ _ q))
  | exc x I' => exact h
  | bad => exact h
theorem PR.bind {r : R α} {f : α → Is → R γ} {rel : Gh → Hp → α → β → Prop} {rel' : Gh → Hp → γ → δ → Prop} {Q : δ → Hp → Prop} (h : PR L W ro G H σ fr (r.bind f) rel' Q) :
    PR L W ro G H σ fr r rel (fun v H1 => ∃ a I1 G1, r = .ok a I1 ∧ Ext ro G H G1 H1 ∧ Sx L.c ro G1 fr I1 σ H1 ∧ rel G1 H1 a v ∧ PR L W ro G H σ fr (f a I1) rel' Q) := by
  cases r with
  | ok a I' => exact fun v G' H' x S q => ⟨a, I', G', rfl, x, S, q, h⟩
  | exc x I' => exact h
  | bad => exact h
/-- what a result in ro mode leaves -/
def R.keeps (r : R α) (I : Is) : Prop := match r with
  | .ok _ I' => I' = I
  | .exc _ I' => I' = I
  | .bad => True
theorem Sx.strong (S1 : Sx L.c ro G1 fr I1 σ H1) (x : Ext true G1 H1 G2 H2) (S : Sx L.c true G2 fr I1 σ H2) : Sx L.c ro G2 fr I1 σ H2 := S1.over x S.sub S.fine S.tb
theorem PR.at {r : R α} {rel rel1 : Gh → Hp → α → β → Prop} {Q : β → Hp → Prop} (x : Ext ro G H G1 H1) (S1 : Sx L.c ro G1 fr I1 σ H1) (hr : ro' = ro ∨ ro' = true ∧ r.keeps I1)
    (hrel : ∀ G' H' a v, Ext ro' G1 H1 G' H' → Sx L.c ro' G' fr (match r with | .ok _ I' => I' | _ => I1) σ H' → rel1 G' H' a v → rel G' H' a v) (h : PR L W ro G H σ fr r rel Q) : PR L W ro' G1 H1 σ fr r rel1 Q := by
  rcases hr with rfl | ⟨rfl, hI⟩
  · cases r with
    | ok a I' => exact fun v G' H' y S q => h v G' H' (x.trans y) S (hrel _ _ _ _ y S q)
    | exc e I' => exact fun cls d G' H' y S q => h cls d G' H' (x.trans y) S q
    | bad => exact h
  · cases r with
    | ok a I' =>
      obtain rfl : I' = I1 := hI
      exact fun v G' H' y S q => h v G' H' (x.trans (y.weak ro)) (S1.strong y S) (hrel _ _ _ _ y S q)
    | exc e I' =>
      obtain rfl : I' = I1 := hI
      exact fun cls d G' H' y S q => h cls d G' H' (x.trans (y.weak ro)) (S1.strong y S) q
    | bad => exact h

theorem inn_ne {d : D} {s : Sl} (h : Sl.inn d = some s) : s ≠ .no ∧ (∀ d, s ≠ .val d) := by
  cases d <;> simp [Sl.inn] at h <;> subst h <;> simp
theorem SlAt.any {lk : Bool} {F : Hp} {M : List (Addr × Addr)} {a : Addr} : ∀ {s : Sl}, SlAt lk F M H a s → SlAt true F M H a s
  | .lst _, ⟨vs, e, r⟩ => ⟨vs, e, r⟩
  | .dK _ _, ⟨vs, e, l, r⟩ => ⟨vs, e.elim .inl fun z => .inr ⟨rfl, z.2⟩, l, r⟩
  | .dT _ _, ⟨vs, e, l, r⟩ => ⟨vs, e.elim .inl fun z => .inr ⟨rfl, z.2⟩, l, r⟩
/-- behind a later term -/
theorem Rk.later {H0 : Hp} {p : D × Kd} {v : V} {lk : Bool} (S : Sx L.c lk G fr I σ H) (h : Rk L H0 G H p v) (x : Ext (ro || isInst p.2) G H G1 H1) : Rk L H0 G1 H1 p v := by
  cases h with
  | fro h => exact .fro (h.mono x.F x.M)
  | own e h m =>
    have ni : ∀ a ∈ G.aF, a ∉ G.aI := fun a h1 h2 => (List.nodup_append.mp S.nd).2.2 a h1 a h2 rfl
    exact .own e (h.mono x.F x.M fun o q t => x.keep _ o q (.inr (ni _ m)) t) (x.aF ▸ m)
  | inst e h m =>
    have r : (ro || isInst Kd.inst) = true := by simp [isInst]
    exact .inst e (h.mono x.F x.M fun o q t => x.keep _ o q (.inl r) t) ((x.ro r).1 ▸ m)
  | new e h h0 h1 h2 h3 =>
    have ha := h.some
    refine .new e (h.mono x.F x.M fun o q t => x.keep _ o q (.inr h3) t) h0 ?_ (x.aF ▸ h2) fun z => (x.aI _ z).elim h3 fun z => ha z
    cases q : G1.F _ with
    | none => rfl
    | some u => exact ((x.Fn _ u q).elim (fun z => by rw [h1] at z; cases z) fun z => absurd z ha)
  | cst h r => exact .cst h r
/-- seen from ahead -/
theorem Rk.from {H0 : Hp} {p : D × Kd} {v : V} (h : Rk L H1 G2 H2 p v) (k : ∀ a, H1 a = none → H0 a = none) : Rk L H0 G2 H2 p v := by
  cases h with
  | fro h => exact .fro h
  | own e h m => exact .own e h m
  | inst e h m => exact .inst e h m
  | new e h h0 h1 h2 h3 => exact .new e h (k _ h0) h1 h2 h3
  | cst h r => exact .cst h r

/-! ### what is read off -/
theorem Rk.non {k : Kd} {v : V} {H0 : Hp} (h : Rk L H0 G H (.non, k) v) : v = .non := by
  cases h with
  | fro h => cases h; rfl
  | own e | inst e | new e => cases e
theorem Rk.bl {k : Kd} {v : V} {b : Bool} {H0 : Hp} (h : Rk L H0 G H (.bl b, k) v) : v = .bl b := by
  cases h with
  | fro h => cases h; rfl
  | own e | inst e | new e => cases e
theorem Rk.int {k : Kd} {v : V} {i : Int} {H0 : Hp} (h : Rk L H0 G H (.int i, k) v) : v = .int i := by
  cases h with
  | fro h => cases h; rfl
  | own e | inst e | new e => cases e
theorem Rk.str {k : Kd} {v : V} {z : Str} {H0 : Hp} (h : Rk L H0 G H (.str z, k) v) : v = .str z ∧ PyData.strOk z = true := by
  cases h with
  | fro h => cases h; exact ⟨rfl, by assumption⟩
  | own e | inst e | new e => cases e
theorem Rk.lst {k : Kd} {v : V} {ds : List D} {H0 : Hp} {lk : Bool} (S : Sx L.c lk G fr I σ H) (h : Rk L H0 G H (.lst ds, k) v) : ∃ a vs, v = .ref a ∧ H a = some (.lst vs) ∧ RVs G.F G.M vs ds := by
  cases h with
  | fro h =>
    cases h with
    | lst e r => exact ⟨_, _, rfl, (S.sub _ _ e).lst, r⟩
  | own e h | inst e h | new e h =>
    simp only [Sl.inn, Option.some.injEq] at e
    subst e
    obtain ⟨vs, e, r⟩ := h
    exact ⟨_, vs, rfl, e, r⟩
theorem Rk.tup {k : Kd} {v : V} {ds : List D} {H0 : Hp} {lk : Bool} (S : Sx L.c lk G fr I σ H) (hk : k ≠ .cst) (h : Rk L H0 G H (.tup ds, k) v) : ∃ a vs, v = .ref a ∧ H a = some (.tup vs) ∧ RVs G.F G.M vs ds := by
  cases h with
  | fro h =>
    cases h with
    | tup e r => exact ⟨_, _, rfl, (S.sub _ _ e).tup, r⟩
  | own e h | inst e h | new e h => cases e
  | cst => exact absurd rfl hk
theorem RVs.still0 : ∀ {vs : List V} {ds : List D}, RVs (fun _ => none) [] vs ds → ∀ F M, RVs F M vs ds := fun h F M => h.mono (fun _ _ e => by cases e) ⟨M, rfl⟩
/-- a tuple, maybe the top's -/
theorem Rk.tupK {k : Kd} {v : V} {ds : List D} {H0 : Hp} {lk : Bool} (S : Sx L.c lk G fr I σ H) (h : Rk L H0 G H (.tup ds, k) v) : ∃ a vs, v = .ref a ∧ SqT L.K H a vs ∧ RVs G.F G.M vs ds := by
  cases h with
  | fro h =>
    cases h with
    | tup e r => exact ⟨_, _, rfl, .of (S.sub _ _ e).tup, r⟩
  | own e h | inst e h | new e h => cases e
  | cst h r => exact ⟨_, _, rfl, h H, r.still0 _ _⟩
theorem Rk.scr {k : Kd} {v : V} {ns : List Int} {H0 : Hp} {lk : Bool} (S : Sx L.c lk G fr I σ H) (h : Rk L H0 G H (.scr ns, k) v) : ∃ a, v = .ref a ∧ SqL L.K H a (ns.map V.int) := by
  cases h with
  | fro h =>
    cases h with
    | scr e => exact ⟨_, rfl, .inl (.inr ⟨_, (S.sub _ _ e).frz⟩)⟩
    | scrL e => exact ⟨_, rfl, .of (S.sub _ _ e).lst⟩
    | scrK e => exact ⟨_, rfl, e H⟩
  | own e h | inst e h | new e h => cases e
theorem Rk.dK {k : Kd} {v : V} {ks : List Ky} {ds : List D} {H0 : Hp} {lk : Bool} (S : Sx L.c lk G fr I σ H) (h : Rk L H0 G H (.dK ks ds, k) v) : ∃ a vs, v = .ref a ∧ Rd H a (.dK (ks.zip vs)) ∧ ks.length = vs.length ∧ RVs G.F G.M vs ds := by
  cases h with
  | fro h =>
    cases h with
    | dK e l r => exact ⟨_, _, rfl, (S.sub _ _ e).rd, l, r⟩
  | own e h | inst e h | new e h =>
    simp only [Sl.inn, Option.some.injEq] at e
    subst e
    obtain ⟨vs, e, l, r⟩ := h
    exact ⟨_, vs, rfl, e.rd, l, r⟩
theorem Rk.dT {k : Kd} {v : V} {ks : List (List Ky)} {ds : List D} {H0 : Hp} {lk : Bool} (S : Sx L.c lk G fr I σ H) (h : Rk L H0 G H (.dT ks ds, k) v) : ∃ a vs, v = .ref a ∧ Rd H a (.dT (ks.zip vs)) ∧ ks.length = vs.length ∧ RVs G.F G.M vs ds := by
  cases h with
  | fro h =>
    cases h with
    | dT e l r => exact ⟨_, _, rfl, (S.sub _ _ e).rd, l, r⟩
  | own e h | inst e h | new e h =>
    simp only [Sl.inn, Option.some.injEq] at e
    subst e
    obtain ⟨vs, e, l, r⟩ := h
    exact ⟨_, vs, rfl, e.rd, l, r⟩

/-! ### deep data -/
mutual
theorem RV.dp {lk : Bool} {c : Cfg} (S : Sx c lk G fr I σ H) : ∀ {v : V} {d : D}, RV G.F G.M v d → D.eqc d = true → Dp Kf.K H v d.py ∧ d.py.canLay0 = true
  | _, _, .non, _ => ⟨.non, rfl⟩
  | _, _, .bl b, _ => ⟨.bl b, rfl⟩
  | _, _, .int i, _ => ⟨.int i, rfl⟩
  | _, _, .str z h, _ => ⟨.str z, h⟩
  | _, _, .tup e r, q => by
    have ⟨h1, h2⟩ := RVs.dp S r (by simpa [D.eqc] using q)
    exact ⟨by rw [D.py]; exact .tup (.of (S.sub _ _ e).tup) h1, by simpa [D.py, PyData.canLay0] using h2⟩
  | _, _, .lst e r, q => by
    have ⟨h1, h2⟩ := RVs.dp S r (by simpa [D.eqc] using q)
    exact ⟨by rw [D.py]; exact .lst (.of (S.sub _ _ e).lst) h1, by simpa [D.py, PyData.canLay0] using h2⟩
  | _, _, .scr (ns := ns) e, _ => by
    have h1 : ∀ ns : List Int, DpAll Kf.K H (ns.map V.int) (ns.map PyData.int) ∧ PyData.canLayAll0 (ns.map PyData.int) = true := fun ns => by
      induction ns with
      | nil => exact ⟨.nil, rfl⟩
      | cons n ns ih => exact ⟨.cons (.int n) ih.1, by simp [PyData.canLayAll0, PyData.canLay0, ih.2]⟩
    exact ⟨by rw [D.py]; exact .lst (.inl (.inr ⟨_, (S.sub _ _ e).frz⟩)) (h1 ns).1, by simpa [D.py, PyData.canLay0] using (h1 ns).2⟩
  | _, _, .scrL (ns := ns) e, _ => by
    have h1 : ∀ ns : List Int, DpAll Kf.K H (ns.map V.int) (ns.map PyData.int) ∧ PyData.canLayAll0 (ns.map PyData.int) = true := fun ns => by
      induction ns with
      | nil => exact ⟨.nil, rfl⟩
      | cons n ns ih => exact ⟨.cons (.int n) ih.1, by simp [PyData.canLayAll0, PyData.canLay0, ih.2]⟩
    exact ⟨by rw [D.py]; exact .lst (.of (S.sub _ _ e).lst) (h1 ns).1, by simpa [D.py, PyData.canLay0] using (h1 ns).2⟩
  | _, _, .scrK (ns := ns) e, _ => by
    have h1 : ∀ ns : List Int, DpAll Kf.K H (ns.map V.int) (ns.map PyData.int) ∧ PyData.canLayAll0 (ns.map PyData.int) = true := fun ns => by
      induction ns with
      | nil => exact ⟨.nil, rfl⟩
      | cons n ns ih => exact ⟨.cons (.int n) ih.1, by simp [PyData.canLayAll0, PyData.canLay0, ih.2]⟩
    exact ⟨by rw [D.py]; exact .lst (e H) (h1 ns).1, by simpa [D.py, PyData.canLay0] using (h1 ns).2⟩
theorem RVs.dp {lk : Bool} {c : Cfg} (S : Sx c lk G fr I σ H) : ∀ {vs : List V} {ds : List D}, RVs G.F G.M vs ds → D.eqcs ds = true → DpAll Kf.K H vs (D.pys ds) ∧ PyData.canLayAll0 (D.pys ds) = true
  | _, _, .nil, _ => ⟨.nil, rfl⟩
  | _, _, .cons r rs, q => by
    have q : (D.eqc _ && D.eqcs _) = true := q
    rw [Bool.and_eq_true] at q
    have ⟨h1, h2⟩ := RV.dp S r q.1
    have ⟨h3, h4⟩ := RVs.dp S rs q.2
    exact ⟨.cons h1 h3, by simp [D.pys, PyData.canLayAll0, h2, h4]⟩
end
theorem Rk.dp {K : PySem.W.Frag} {k : Kd} {v : V} {d : D} {H0 : Hp} {lk : Bool} (hK : L.K = K) (S : Sx L.c lk G fr I σ H) (h : Rk L H0 G H (d, k) v) (q : D.eqc d = true) : Dp K H v d.py ∧ d.py.canLay0 = true := by
  subst hK
  have lists : ∀ ds, d = .lst ds → Dp L.K H v d.py ∧ d.py.canLay0 = true := fun ds e => by
    subst e
    obtain ⟨a, vs, rfl, e, r⟩ := h.lst S
    have ⟨h1, h2⟩ := RVs.dp S r (by simpa [D.eqc] using q)
    exact ⟨by rw [D.py]; exact .lst (.of e) h1, by simpa [D.py, PyData.canLay0] using h2⟩
  cases h with
  | fro h => exact h.dp S q
  | own e h | inst e h | new e h =>
    cases d with
    | lst ds => exact lists ds rfl
    | dK _ _ => cases q
    | dT _ _ => cases q
    | _ => cases e
  | cst h r =>
    have ⟨h1, h2⟩ := RVs.dp S (r.still0 G.F G.M) (by simpa [D.eqc] using q)
    exact ⟨by rw [D.py]; exact .tup (h H) h1, by simpa [D.py, PyData.canLay0] using h2⟩
mutual
theorem dep_py : ∀ d : D, d.eqc = true → d.py.depth ≤ d.dep
  | .non, _ => Nat.zero_le _
  | .bl _, _ => Nat.zero_le _
  | .int _, _ => Nat.zero_le _
  | .str _, _ => Nat.zero_le _
  | .tup xs, h => by
    have := deps_py xs (by simpa [D.eqc] using h)
    simp only [D.py, PyData.depth, D.dep]; omega
  | .lst xs, h => by
    have := deps_py xs (by simpa [D.eqc] using h)
    simp only [D.py, PyData.depth, D.dep]; omega
  | .scr ns, _ => by
    have : ∀ ns : List Int, PyData.depthAll (ns.map PyData.int) ≤ 1 := fun ns => by
      induction ns with
      | nil => simp [PyData.depthAll]
      | cons n ns ih => simp only [List.map_cons, PyData.depthAll, PyData.depth]; omega
    have := this ns
    simp only [D.py, PyData.depth, D.dep]; omega
theorem deps_py : ∀ ds : List D, D.eqcs ds = true → PyData.depthAll (D.pys ds) ≤ D.deps ds
  | [], _ => Nat.zero_le _
  | d :: ds, h => by
    have h : (D.eqc d && D.eqcs ds) = true := h
    rw [Bool.and_eq_true] at h
    have h1 := dep_py d h.1
    have h2 := deps_py ds h.2
    simp only [D.pys, PyData.depthAll, D.deps]; omega
end
end
end Air
/-! Air: a lambda handed to a def; an exception that is told. -/
namespace Air
open PySem PySem.Spec PyProof.Rows L2 LamX
theorem traced_N {h B : Heap} {a : Addr} {cls fl : Value} {d : Option Addr} (f : HandSPX.TracedZ h B a (L2N.Zn cls d) fl) : HandSPX.TracedZ h B a (Zc cls d) fl := by
  obtain ⟨oe, vs, T, oT, ts, e1, z, r⟩ := f
  exact ⟨oe, vs, T, oT, ts, e1, z.zc, r⟩
theorem takes_N {X : Cx} {W : WX} (t : L2.Takes X W) : L2N.Takes X W := fun u s' x => by
  obtain ⟨a, B, sI, pins, σ, H, cls, d, e, J, nb, up, sky, r⟩ := x
  refine t u s' ⟨a, B, sI, pins, σ, H, cls, d, e, J, nb, up, ?_, r⟩
  rcases sky with ⟨b1, b2, b3, oe, vs, b4, b5, b6⟩ | ⟨b1, b2, b3, b4⟩ | ⟨b1, b2, b3, b4⟩
  · exact .inl ⟨b1, b2, b3, oe, vs, b4, b5.zc, b6⟩
  · exact .inr (.inl ⟨b1, b2, b3, traced_N b4⟩)
  · exact .inr (.inr ⟨b1, b2, b3, traced_N b4⟩)
/-- only tables grow, and new things come -/
structure Gro (H H1 : Hp) : Prop where
  keep : ∀ b o, H b = some o → (∀ ps, o ≠ .tbl ps) → H1 b = some o
  dom : ∀ b, H1 b = none → H b = none
theorem Gro.refl (H : Hp) : Gro H H := ⟨fun _ _ e _ => e, fun _ e => e⟩
/-- what a def that makes lambdas knows of itself -/
structure LamA (X : Cx) (T : List (Addr × Str)) : Prop where
  ex : ∃ c P, TabB X.base X.mg c P ∧ X.env.code = .ref c ∧ (P, X.env.qual ++ "<lambda>") ∈ T ∧ ∀ p ∈ T, p.1 = P → p.2 = X.env.qual ++ "<lambda>"
section
variable {X : Cx} {pins : List (Addr × Obj)} {σ : L2.St} {H : Hp} {s : Shared}
theorem lam_new {T : List (Addr × Str)} {ar : Arguments} {body : Expr} {sc : Scope} {pos : Pos} {E Q : Value → Shared → Prop} (J : Inv X pins σ H s) (la : LamA X T) (hT : Tabs T H) (hd : defaultsOf ar X.env = ([], []))
    (hs : LamS X.env.scope sc)
    (h : ∀ (f k : Addr) (pm ct : Value) (H1 : Hp) (s1 : Shared), Inv X pins σ H1 s1 → Gro H H1 → Tabs T H1 → H1 f = none → f ∉ frs X.stack → H1 k = some (CodeO k (X.env.qual ++ "<lambda>")) →
      s1.heap.get? f = some (PySem.W.kla_obj "<lambda>" (X.env.qual ++ "<lambda>") ar body sc (cloFrom X.env.cells sc.names []) pm k ct) → Q (.ref f) s1) :
    wpAny (model X.prog X.w) X.A (eval (.Lambda ar body sc pos) X.env) Q E s := by
  obtain ⟨cc, P, TB, hcode, hm, hu⟩ := la.ex
  obtain ⟨tb, hP, h3, ha⟩ := hT _ hm
  have hbm := TB.bm.keeps J.bk
  have hget := J.hok P _ hP
  have far : ∀ f, s.heap.objs.size ≤ f → f ∉ frs X.stack := fun f hf z => by
    rcases List.mem_cons.mp (J.stkSub _ z) with e | e
    · have q := J.lt
      rw [← e] at q
      exact absurd q (Nat.not_lt.mpr hf)
    · exact J.nofs hf e
  refine PySem.W.kla_eval hd ?_
  have cl := closure_ok (hs.has J.ok)
  cases q : codeAmong pos tb.toList with
  | some cv =>
    obtain ⟨k, rfl, hk⟩ := ha pos cv q
    refine PySem.W.kla_makeFunctionHit (mg := X.mg) (P := P) (ps := tb) cl J.ok.glob (J.mod.glob.keeps J.bk) hcode (TB.code.keeps J.bk) hget h3 q hbm fun ct h' tk kp hsz => ?_
    exact h _ k _ ct H _ (J.kept fun b o e => Heap.get?_push_of_some _ (kp b o e)) (.refl H) hT (J.hok.fresh hsz) (far _ hsz) hk (Heap.get?_push_size _ rfl)
  | none =>
    refine PySem.W.kla_makeFunction (mg := X.mg) (P := P) (ps := tb) cl J.ok.glob (J.mod.glob.keeps J.bk) hcode (TB.code.keeps J.bk) hget h3 q TB.gP hbm fun k ct h' tk kp lo hi rec tab => ?_
    obtain ⟨k2, oc, vs, t, z, e1, e2, e3⟩ := rec
    cases z
    have nk : H k = none := J.hok.fresh lo
    have nP : P ≠ k := ne_of_none hP nk
    have big : s.heap.objs.size ≤ h'.objs.size := Nat.le_trans lo (Nat.le_of_lt hi)
    generalize hw : tb ++ #[rawInt pos.line, rawInt pos.col, .ref k] = tw at *
    have J1 := inv_table (t' := tk) (more := #[rawInt pos.line, rawInt pos.col, .ref k]) (h' := h'.push (PySem.W.kla_obj "<lambda>" (X.env.qual ++ "<lambda>") ar body sc (cloFrom X.env.cells sc.names []) ((X.mg "__name__").getD .none) k ct)) J hP
      (fun b o hb e => Heap.get?_push_of_some _ (kp b o hb e)) (by rw [hw]; exact Heap.get?_push_of_some _ tab) lo ⟨oc, vs, t, Heap.get?_push_of_some _ e1, e2, e3⟩
    rw [hw] at J1
    have kk : ∀ b o, H b = some o → (∀ ps, o ≠ .tbl ps) → upd (upd H P (.tbl tw)) k (CodeO k (X.env.qual ++ "<lambda>")) b = some o := fun b o e n => by
      rw [upd_ne (ne_of_none e nk), upd_ne]
      · exact e
      · rintro rfl
        rw [hP] at e
        exact n _ (Option.some.inj e).symm
    refine h _ k _ ct _ _ J1 ⟨kk, fun b e => ?_⟩ (fun p hp => ?_) ?_ (far _ big) upd_same (Heap.get?_push_size _ rfl)
    · by_cases hb : b = k
      · rw [hb]; exact nk
      · rw [upd_ne hb] at e
        by_cases hb2 : b = P
        · rw [hb2, upd_same] at e; cases e
        · rw [upd_ne hb2] at e; exact e
    · by_cases hb : p.1 = P
      · rw [hu p hp hb, hb]
        refine ⟨tw, by rw [upd_ne nP, upd_same], ?_, fun p' cv hcv => ?_⟩
        · rw [← hw, Array.toList_append]
          exact PySem.TriplesOk_snoc _ _ _ _ h3
        · rw [← hw, Array.toList_append] at hcv
          rcases among_app _ h3 hcv with z | z
          · obtain ⟨c0, q1, q2⟩ := ha p' cv z
            exact ⟨c0, q1, kk _ _ q2 codeO_ne⟩
          · exact ⟨k, z, upd_same⟩
      · obtain ⟨ps', a1, a2, a3⟩ := hT p hp
        refine ⟨ps', by rw [upd_ne (ne_of_none a1 nk), upd_ne hb]; exact a1, a2, fun p' cv hcv => ?_⟩
        obtain ⟨c0, q1, q2⟩ := a3 p' cv hcv
        exact ⟨c0, q1, kk _ _ q2 codeO_ne⟩
    · rw [upd_ne (Nat.ne_of_gt hi), upd_ne (Nat.ne_of_gt (Nat.lt_of_lt_of_le (Heap.lt_size hget) big))]
      exact J.hok.fresh big
end
/-- the def that calls what it gets, as its text says -/
structure TelD (K : PySem.W.Frag) (mg : Str → Option Value) (x : Str) (TT : (XK → Hp → VK → Prop) → Hp → VK → Prop) : Prop where
  ex : ∃ (g : Addr) (pg : Arguments) (bg : List Stmt) (sg : Scope) (dV kV doc pm cdv ct oc : Value) (an od : Option Addr) (osl : Array (Option Value)) (Ng : List Str) (a : Str),
    mg x = some (.ref g) ∧ PySem.W.keepIn K (.ref g) = true ∧ K.lookup g = some ⟨oc, od, .func (PySem.W.fnOf x x pg bg sg dV kV doc pm an cdv ct), osl⟩ ∧ PySem.W.codeIn K cdv x = true ∧ L2.Binds K (PySem.W.fnOf x x pg bg sg dV kV doc pm an cdv ct) [a] [] ∧ FnScope Ng [a] sg ∧
    Ng[0]? = some a ∧ Vis sg a ∧ (a == ("__debug__" : Str)) = false ∧ (a == ("__classdict__" : Str)) = false ∧
    ∀ (X : Cx) (q : Str), X.K = K → X.mg = mg → Room 3 X.A → GivesTo X Ng x sg g cdv bg a q TT
/-- told(lambda: body) -/
theorem pe_told {X : Cx} {T : List (Addr × Str)} {TT : (XK → Hp → VK → Prop) → Hp → VK → Prop} {x : Str} {k : Nat} {ar : Arguments} {body : Expr} {sc : Scope} {t : XK → TE} {p lpos pos : Pos} (tel : TelD X.K X.mg x TT) (hg : Gl X x) (la : LamA X T) (hr : Room (k + 3) X.A) (hs : LamS X.env.scope sc)
    (hd : defaultsOf ar X.env = ([], [])) (hbind : ∀ (q : Str) (cl : List (Str × Addr)) (pm cv ctv : Value), bindArgs (PySem.W.kla_fn "<lambda>" q ar body sc cl pm cv ctv) ⟨[], []⟩ = pure [])
    (hbody : ∀ (A : Around) (outer : List Env) (s : Shared) (H : Hp) (E : XK) (f c' : Addr), Room k (A.deeper (lamEnv X sc s.heap.objs.size f c')) → PE (lamCx X A outer s H E sc f c') body (t E))
    (hdb : (x == ("__debug__" : Str)) = false) :
    PE X (.Call (.Name x p) [.Lambda ar body sc lpos] [] pos) (fun σ H Q => Tabs T H ∧ ∀ H1, Gro H H1 → Tabs T H1 → TT (fun E H' Q' => t E σ H' Q') H1 Q) := by
  obtain ⟨g, pg, bg, sg, dV, kV, doc, pm, cdv, ct, oc, an, od, osl, Ng, a, m1, m2, m3, m4, m5, m6, m7, m8, m9, m10, G⟩ := tel.ex
  refine ⟨fun pins s σ H Q J h => ?_⟩
  refine wpAny_Call_Name_kw (ld_glob J hg m1 ?_ hdb)
  refine PySem.W.callWith_K (h₀ := X.base) J.ok.mod.kin m2 ?_ (by rfl) (by rfl)
  show wpAny _ _ (spliced ((false, eval (.Lambda ar body sc lpos) X.env) :: backTo pos (starEach [] X.env))) _ _ s
  refine Calls.spliced_cons (lam_new J la h.1 hd hs fun f c' pm' ctv H1 s' J1 eN T1 hfn hfr hco hf => Calls.spliced_nil ⟨J1.kIn, ?_⟩)
  have rc : codeAny (model X.prog X.w) X.A (.call (.ref g) ⟨[.ref f], []⟩) (CR C8.CX0 X.stack X.prog X.w H1 s' Q C8.E0) s' := by
    refine run_ofS (N := Ng) (ps := [a]) (us := [.ref f]) (vs := [.ref f]) (k := k + 2) m3 m4 m6 hr J1.env0 (m5 s' [.ref f] J1.kIn rfl) (.cons rfl .nil) rfl fun hr' => ?_
    obtain ⟨t', ht', hq'⟩ := G X _ rfl rfl (hr.mono (by omega)) f c' s' H1 Q (fun E H' Q' => t E σ H' Q') (fun W pn xe E p1 p2 tk hW => pe_act (i := 0) (k := k) J1 hs hf hfn hfr (hbind _ _ _ _ _) tk hW (hr'.mono (by omega)) (fun A outer s H hr2 => hbody A outer s H E f c' hr2) m7 m8 m9 m10) hco (h.2 H1 eN T1)
    exact ⟨t', ht'.nox, hq'⟩
  refine wpAny_call (codeAny_mono rc fun r s2 hq => ?_)
  cases r with
  | error e => exact (show False from hq).elim
  | ok fl =>
    cases fl with
    | ret u => exact J1.after hq
    | next => exact hq.elim
    | brk => exact hq.elim
    | cont => exact hq.elim
end Air
/-! Air: an exception that is told (2): the handler. -/
namespace Air
open PySem PySem.Spec PyProof.Rows L2 LamX L2H
/-- a def called while an exception p is handled -/
theorem hot_run {P : Program} {w : World} {K : PySem.W.Frag} {mg : Str → Option Value} {base : Heap} {g : Addr} {nm : Str} {ar : Arguments} {bd : List Stmt} {sc : Scope} {dV kV doc pm cdv ct oc : Value} {an od : Option Addr} {osl : Array (Option Value)} {N ps : List Str}
    (lk : K.lookup g = some ⟨oc, od, .func (PySem.W.fnOf nm nm ar bd sc dV kV doc pm an cdv ct), osl⟩) (hcd : PySem.W.codeIn K cdv nm = true) (S : FnScope N ps sc) {A : Around} {outer : List Env} {s : Shared} {H : Hp} {as : Args} {us : List Value} {vs : List V} {Q : VK} {p : Addr × Obj}
    (hl : vs.length = ps.length) (hp : PinOk outer H s p) (dp : A.depth < recursionLimit) (e0 : Env0 P w K mg base A outer s H) (hb : BindsTo s (PySem.W.fnOf nm nm ar bd sc dV kV doc pm an cdv ct) as (ps.zip us)) (r : Vals vs us)
    (walk : ∃ t, PSs (cxH C8.CX0 P w K mg base N nm sc g cdv A outer s H C8.E0 p) bd t ∧ t { nx := fun _ H' => Q .non H', rt := Q } (L2.start N vs) H) :
    codeAny (model P w) A (.call (.ref g) as) (CR C8.CX0 outer P w H s Q C8.E0) s := by
  have up : ∀ b o, base.get? b = some o → s.heap.get? b = some o := fun b o e => (e0.bs b o e).1
  have KX := e0.mod.kin.keeps up
  have kinds : ∀ y ∈ ps.zip us, sc.names.lookup y.1 = some .local ∨ (sc.names.lookup y.1 = some .cell ∧ ((cellsFrom (s.heap.objs.size + 1) sc.names []).lookup y.1).isSome = true) := fun y hy => by
    obtain ⟨n, v⟩ := y
    rcases S.par n (List.of_mem_zip hy).1 with q | q
    · exact .inl q
    · exact .inr ⟨q, PySem.W.cellsFrom_some _ _ _ (.inl q)⟩
  refine codeAny_call_function dp (KX _ _ lk) rfl S.co S.gen rfl (PySem.W.codeRec_of KX hcd) (hb _ _ _ _ ?_)
  refine wpAny_newFunctionEnv_cells S.kind kinds fun env he s1 x => ?_
  cases he
  refine ⟨(e0.mod.nolimit.keeps up).keeps x.toInCall.keep, codeAny_func ?_⟩
  obtain ⟨t, ht, hq⟩ := walk
  refine wpAny_mono (ht.run [] s1 (L2.start N vs) H _ (inv_startH S hp e0 hl r x) hq) (fun fl s' hs => ?_) fun _ _ z => z
  cases fl with
  | ret u => obtain ⟨v, σ', H', J, rv, q⟩ := hs; exact ⟨v, H', J.os, J.bare, J.base, J.hok, rv, q⟩
  | next => obtain ⟨σ', H', J, q⟩ := hs; exact ⟨.non, H', J.os, J.bare, J.base, J.hok, rfl, q⟩
  | brk => obtain ⟨_, _, _, q⟩ := hs; exact q.elim
  | cont => obtain ⟨_, _, _, q⟩ := hs; exact q.elim
/-- the exception's own dict, if there is one -/
def DOk (d : Option Addr) (H : Hp) : Prop := d = none ∨ ∃ a fs, d = some a ∧ H a = some (.xd fs)
/-- what the class's name is asked of -/
def SpC (mg : Str → Option Value) (ns : List Str) (cls : Value) (d : Option Addr) (H : Hp) (Q : VK) : Prop :=
  ∃ nm ∈ ns, mg nm = some cls ∧ DOk d H ∧ ∀ H2, (∀ b o, H b = some o → H2 b = some o) → Q (.str nm) H2
/-- the def that tells an exception's class, as its text says -/
structure ClsD (K : PySem.W.Frag) (mg : Str → Option Value) (y : Str) (ns : List Str) : Prop where
  ex : ∃ (g : Addr) (ar : Arguments) (bd : List Stmt) (sc : Scope) (dV kV doc pm cdv ct oc : Value) (an od : Option Addr) (osl : Array (Option Value)) (N : List Str) (a : Str),
    mg y = some (.ref g) ∧ PySem.W.keepIn K (.ref g) = true ∧ K.lookup g = some ⟨oc, od, .func (PySem.W.fnOf y y ar bd sc dV kV doc pm an cdv ct), osl⟩ ∧ PySem.W.codeIn K cdv y = true ∧ L2.Binds K (PySem.W.fnOf y y ar bd sc dV kV doc pm an cdv ct) [a] [] ∧ FnScope N [a] sc ∧
    ∀ (P : Program) (w : World) (base : Heap) (A : Around) (outer : List Env) (s : Shared) (H : Hp) (p : Addr × Obj) (cls : Value) (d : Option Addr) (Q : VK), RoomH 0 (A.deeper (envOfC y sc s.heap.objs.size g cdv)) → Zc cls d p.2 → (∃ vs, p.2.data = .fields vs) → SpC mg ns cls d H Q →
      ∃ t, PSs (cxH C8.CX0 P w K mg base N y sc g cdv A outer s H C8.E0 p) bd t ∧ t { nx := fun _ H' => Q .non H', rt := Q } (L2.start N [.ref p.1]) H
theorem pe_cls {X : Cx} {ns : List Str} {y n : Str} {a : Addr} {oe : Obj} {pn : List (Addr × Obj)} {cls : Value} {d : Option Addr} {i : Nat} {q p pos : Pos} (C : ClsD X.K X.mg y ns) (hr : Room 1 X.A) (hg : Gl X y) (hdb : (y == ("__debug__" : Str)) = false)
    (hz : Zc cls d oe) (hf : ∃ vs, oe.data = .fields vs) (hi : X.N[i]? = some n) (hv : Vis X.env.scope n) (hd : (n == ("__debug__" : Str)) = false) (hc : (n == ("__classdict__" : Str)) = false) :
    PE (X.suite a ((a, oe) :: pn)) (.Call (.Name y q) [.Name n p] [] pos) (fun σ H Q => (∃ σ' : L2.St, σ = σ'.set i (some (.ref a))) ∧ SpC X.mg ns cls d H Q) := by
  obtain ⟨g, ar, bd, sc, dV, kV, doc, pm, cdv, ct, oc, an, od, osl, N, b, m1, m2, m3, m4, m5, m6, wk⟩ := C.ex
  refine ⟨fun pins s σ H Q J h => ?_⟩
  have at_ : σ[i]? = some (some (.ref a)) := by
    obtain ⟨σ', e⟩ := h.1
    have l1 : σ.length = X.N.length := J.len
    have l2 := (List.getElem?_eq_some_iff.mp hi).1
    have l3 : i < σ'.length := by rw [e, List.length_set] at l1; omega
    rw [e, List.getElem?_set_self l3]
  refine wpAny_Call_Name_kw (ld_glob J hg m1 ?_ hdb)
  have arg : PA (X.suite a ((a, oe) :: pn)) [.Name n p] (tCons (tVar i) tNil) := pa_cons (pe_var hi hv hd hc) pa_nil
  refine PySem.W.callWith_K (h₀ := X.base) J.ok.mod.kin m2 (thn (arg.run pos pins s σ H (fun vs H1 => vs = [V.ref a] ∧ H1 = H) J ⟨_, at_, rfl, rfl⟩) fun us s1 ⟨vs, H1, J1, r, e1, e2⟩ => ⟨J1.kIn, ?_⟩) (by rfl) (by rfl)
  subst e1 e2
  obtain ⟨u, rfl, ru⟩ := r.one
  cases (show u = Value.ref a from ru)
  have P1 := J1.pin (a, oe) (List.mem_append_left _ List.mem_cons_self)
  have hp : PinOk X.stack H1 s1 (a, oe) := ⟨P1.1, P1.2.1, fun hm => (List.mem_cons.mp (J1.stkSub a hm)).elim P1.2.2.1 P1.2.2.2.1, P1.2.2.2.2⟩
  have hr' : RoomH 1 (X.A.mark (some (.ref a))) := ⟨hr.dp, hr.un⟩
  refine wpAny_call (codeAny_mono (hot_run (us := [.ref a]) (vs := [.ref a]) m3 m4 m6 (Q := Q) rfl hp hr'.depth J1.env0 (m5 s1 [.ref a] J1.kIn rfl) r (wk _ _ _ _ _ _ _ (a, oe) cls d Q (hr'.deeper _) hz hf h.2)) fun r s' hq => ?_)
  cases r with
  | error e => exact (show False from hq).elim
  | ok fl =>
    cases fl with
    | ret u => exact J1.after hq
    | next => exact hq.elim
    | brk => exact hq.elim
    | cont => exact hq.elim
/-- told: try: return a() / except x as n: return ("refused", y(n)) -/
def TTl (mg : Str → Option Value) (ns : List Str) : (XK → Hp → VK → Prop) → Hp → VK → Prop := fun tl H Q =>
  tl (fun cls d H' => ∃ nm ∈ ns, mg nm = some cls ∧ DOk d H' ∧ ∀ H2 p, (∀ b o, H' b = some o → H2 b = some o) → H2 p = some (.tup [.str "refused", .str nm]) → H' p = none → Q (.ref p) H2) H Q
theorem told_gives2 {X : Cx} {ns : List Str} {Ng : List Str} {x y a e n q : Str} {sg : Scope} {g CS : Addr} {cdg : Value} {j k : Nat} {p1 p2 p3 p4 p5 p6 p7 p8 p9 p10 p11 p12 : Pos} (C : ClsD X.K X.mg y ns) (hN : Ng.Nodup) (hi : Ng[1]? = some n) (hn : sg.names.lookup n = some .local)
    (hge : sg.names.lookup e = some .globalImplicit) (hgy : sg.names.lookup y = some .globalImplicit) (hme : X.mg e = some (.ref CS)) (hde : (e == ("__debug__" : Str)) = false) (hdy : (y == ("__debug__" : Str)) = false) (hdn : (n == ("__debug__" : Str)) = false) (hcn : (n == ("__classdict__" : Str)) = false)
    (h0 : ∀ f : Addr, (L2.start Ng [V.ref f])[0]? = some (some (V.ref f))) (hr : ∀ env, Room 1 (X.A.deeper env)) (hx : ∀ nm ∈ ns, ∀ cls, X.mg nm = some cls → PySem.W.exmOne X.K cls (.ref CS) = some true) :
    GivesTo X Ng x sg g cdg [.Try [.Return (some (.Call (.Name a p1) [] [] p2)) p3] [.ExceptHandler (some (.Name e p4)) (some n) [.Return (some (.Tuple [.Constant (.str "refused") j p5, .Call (.Name y p6) [.Name n p7] [] p8] k p9)) p10] p11] [] [] p12] a q (TTl X.mg ns) := by
  intro f c' s H Q tl act hc h
  have hgl : Gl (cxOf C8.CX0 X.prog X.w X.K X.mg X.base Ng x sg g cdg X.A X.stack s H C8.E0).nox e := hge
  refine ⟨_, pss_one (ps_try_as (X := (cxOf C8.CX0 X.prog X.w X.K X.mg X.base Ng x sg g cdg X.A X.stack s H C8.E0).nox) (i := 1) (c := .ref CS)
      (tb := fun W D σ H => ∃ Ech : XK, (∀ cls d σ' H', Ech cls d H' → W cls d σ' H') ∧ σ[0]? = some (some (.ref f)) ∧ H c' = some (CodeO c' q) ∧ tl Ech H D.rt)
      (ts := fun b cls d => tRet (tTup (tCons (tC (.str "refused")) (tCons (fun σ H Q => (∃ σ' : L2.St, σ = σ'.set 1 (some (.ref b))) ∧ SpC X.mg ns cls d H Q) tNil))))
      rfl rfl hN hi hn ⟨hgl, hde, .inl hme⟩ takes0 (fun W pn xe tk _ => ?_) (fun b oe cls d pn hz hf => ?_)), ?_⟩
  · refine ⟨fun pins s' σ H' D J h' => ?_⟩
    obtain ⟨Ech, hW, h1, h2, h3⟩ := h'
    exact (pss_one (ps_ret (pos := p3) (act W pn xe Ech p1 p2 tk hW))).run pins s' σ H' D J ⟨h1, h2, h3⟩
  · exact pss_one (ps_ret (pe_tup (pa_cons pe_str (pa_cons (pe_cls (X := (cxOf C8.CX0 X.prog X.w X.K X.mg X.base Ng x sg g cdg X.A X.stack s H C8.E0).nox) C (hr _) hgy hdy hz hf hi (.inl hn) hdn hcn) pa_nil))))
  · refine ⟨_, fun cls d σ' H' z => ?_, h0 f, hc, h⟩
    obtain ⟨nm, h1, h2, h3, h4⟩ := z
    refine ⟨true, hx nm h1 cls h2, fun _ b nb => ?_, fun z => nomatch z⟩
    refine ⟨⟨σ', rfl⟩, nm, h1, h2, h3, fun H2 k2 => ⟨by show 2 ≤ sizeLine; decide, fun p hp => ?_⟩⟩
    · exact h4 _ p (fun b o e => by rw [upd_ne (ne_of_none (k2 b o e) hp)]; exact k2 b o e) upd_same (by
        cases z : H' p with
        | none => rfl
        | some o => rw [k2 p o z] at hp; cases hp)
end Air
/-! Air: an exception that is told (3): its class's name. -/
namespace Air
open PySem PySem.Spec PyProof.Rows L2 LamX L2H
theorem vals_countP {y : V} : ∀ {ys : List V} {us : List Value}, Vals ys us → ys.all flatV = true → us.countP (eqU y) = ys.countP fun z => eqV z y
  | _, _, .nil, _ => rfl
  | z :: zs, u :: us, .cons r t, f => by
    rw [List.all_cons, Bool.and_eq_true] at f
    rw [List.countP_cons, List.countP_cons, vals_countP t f.2, eqU_of r f.1]
def rCntV (K : PySem.W.Frag) : V → List V → Hp → VK → Prop := fun x xs H Q => ∃ (a : Addr) (ys : List V) (y : V), x = V.ref a ∧ xs = [y] ∧ SqL K H a ys ∧ flatV y = true ∧ ys.all flatV = true ∧ Q (.int ((ys.countP fun z => eqV z y) : Nat)) H
theorem mt_countV {X : Cx} : MtR X "list.count" (rCntV X.K) := by
  intro pins s σ H x xs v us Q J rx rxs h
  obtain ⟨a, ys, y, rfl, rfl, hs, fy, fys, q⟩ := h
  cases rx
  obtain ⟨u, rfl, ru⟩ := rxs.one
  obtain ⟨its, rv, ⟨⟨cls, dd, data, sl⟩, n, ho, hc, hdn, hd⟩, hlen⟩ := J.list hs
  simp only at hc hd
  subst hc hd
  refine call_meets PySem.F.slot_list_count ⟨_, ho, rfl⟩ PySem.F.entry_list_count (PySem.F.args_list_count_2 _ _) (SeqAt.list_countAt a its.toArray n dd sl u (eqU y)) ⟨ho, fun z hz => mem_eqAt ru fy rv fys z (by simpa using hz), ?_⟩
  have e : its.toArray.toList.countP (eqU y) = ys.countP fun z => eqV z y := vals_countP rv fys
  rw [e]
  exact ⟨.int _, H, J.tok _, ⟨s.toks, rfl⟩, q⟩
/-! ### isinstance of an exception -/
def eqO2 (a b : Option (Option Value)) : Bool := decide (a = b)
/-- the exception class x, by the names xs -/
def xcB (K : PySem.W.Frag) (xs : List Str) (x : Str) : Bool :=
  He.eqO (PySem.W.nsIn K mainGlobals x) (some (some (.ref (He.ga K x)))) && ((PySem.W.clsIn K (He.ga K x)).isSome && (He.eqO (PySem.W.findIn K (.ref (He.ga K x)) "__getattribute__") (some (some (.builtin "BaseException.__getattribute__"))) && ((PySem.W.findIn K (.ref (He.ga K x)) "__getattr__").isSome &&
  (decide (PySem.W.subIn K (.ref (He.ga K x)) (.type "BaseException") = some true) && (He.eqO (PySem.W.findIn K (.ref (He.ga K x)) "__class__") (some (some (.builtin "object.__class__"))) && (He.eqO (PySem.W.specialIn K (.builtin "object.__class__") "__get__") (some (some (.builtin "getset_descriptor.__get__"))) &&
  (decide (PySem.W.takesIn K (.builtin "object.__class__") = some true) && (decide (PySem.W.mroIn K (He.ga K x) (.type "object") = some true) && (decide (PySem.W.kitOne K (.ref (He.ga K x)) (.type "ValueError") = some true) &&
  (xs.all (fun y => decide (PySem.W.kitOne K (.ref (He.ga K x)) (.ref (He.ga K y)) = some (decide (y = x)))) && decide (PySem.W.exmOne K (.ref (He.ga K x)) (.ref (He.ga K "AirError")) = some true)))))))))))
structure XcF (K : PySem.W.Frag) (xs : List Str) (x : Str) : Prop where
  gl : PySem.W.nsIn K mainGlobals x = some (some (.ref (He.ga K x)))
  cl : (PySem.W.clsIn K (He.ga K x)).isSome = true
  hg : PySem.W.findIn K (.ref (He.ga K x)) "__getattribute__" = some (some (.builtin "BaseException.__getattribute__"))
  hk : (PySem.W.findIn K (.ref (He.ga K x)) "__getattr__").isSome = true
  hs : PySem.W.subIn K (.ref (He.ga K x)) (.type "BaseException") = some true
  ha : PySem.W.findIn K (.ref (He.ga K x)) "__class__" = some (some (.builtin "object.__class__"))
  hn : PySem.W.specialIn K (.builtin "object.__class__") "__get__" = some (some (.builtin "getset_descriptor.__get__"))
  ht : PySem.W.takesIn K (.builtin "object.__class__") = some true
  hm : PySem.W.mroIn K (He.ga K x) (.type "object") = some true
  ve : PySem.W.kitOne K (.ref (He.ga K x)) (.type "ValueError") = some true
  is : ∀ y ∈ xs, PySem.W.kitOne K (.ref (He.ga K x)) (.ref (He.ga K y)) = some (decide (y = x))
  ex : PySem.W.exmOne K (.ref (He.ga K x)) (.ref (He.ga K "AirError")) = some true
theorem xc_of {K : PySem.W.Frag} {xs : List Str} {x : Str} (h : xcB K xs x = true) : XcF K xs x := by
  unfold xcB at h
  simp only [Bool.and_eq_true, decide_eq_true_eq, List.all_eq_true] at h
  obtain ⟨h0, h1, h2, h3, h4, h5, h6, h7, h8, h9, h10, h11⟩ := h
  exact ⟨He.eqO_ok h0, h1, He.eqO_ok h2, h3, h4, He.eqO_ok h5, He.eqO_ok h6, h7, h8, h9, h10, h11⟩
/-- isinstance(e, c), e an exception that stands by -/
def rIsP (K : PySem.W.Frag) (D : Value) (d : Option Addr) (a : Addr) : List V → Hp → VK → Prop := fun xs H Q => ∃ (c : V) (cv : Value) (b : Bool), xs = [.ref a, c] ∧ (∀ u, RelV c u → u = cv) ∧ PySem.W.kitOne K D cv = some b ∧ DOk d H ∧ Q (.bl b) H
theorem call_isP {X : Cx} {xs : List Str} {x : Str} {d : Option Addr} {p : Addr × Obj} (C : XcF X.K xs x) (hp : p ∈ X.pn) (hz : Zc (.ref (He.ga X.K x)) d p.2) (hf : ∃ vs, p.2.data = .fields vs) : CallR X (.builtin "isinstance") (rIsP X.K (.ref (He.ga X.K x)) d p.1) := by
  intro pins s σ H vs us Q J r h
  obtain ⟨c, cv, b, rfl, hcv, e, hd, q⟩ := h
  obtain ⟨u1, u2, rfl, r1, r2⟩ := vals2 r
  cases (show u1 = Value.ref p.1 from r1)
  have ec := hcv _ r2
  subst ec
  obtain ⟨hget, _⟩ := J.pin p (List.mem_append_left _ hp)
  obtain ⟨ws, hv⟩ := hf
  obtain ⟨gt, hgt⟩ := Option.isSome_iff_exists.mp C.hk
  obtain ⟨a, ⟨oc, od, oda, osl⟩⟩ := p
  obtain ⟨h1, h2⟩ := hz
  dsimp only at h1 h2 hv hget ⊢
  subst h1 h2 hv
  have go : ∀ od', PySem.W.InstAt s.heap a ⟨.ref (He.ga X.K x), od, .fields ws, osl⟩ (He.ga X.K x) od' → wpAny (model X.prog X.w) X.A (call (.builtin "isinstance") [.ref a, u2]) (EP X pins σ Q) X.xe s := fun od' I =>
    PySem.W.kia_one (PySem.W.kitx_exc (od := od') C.cl C.hg hgt C.hs C.ha C.hn C.ht C.hm) J.kIn I e (fun z => nomatch z) fun tk => ⟨.bl b, H, J.tok tk, rfl, q⟩
  rcases hd with rfl | ⟨dx, fs, rfl, hx⟩
  · exact go none ⟨hget, rfl, rfl, trivial⟩
  · obtain ⟨_, ⟨o, _, _, e1, _⟩, _⟩ := (show ObjOk X.prog X.w H s.heap dx (.xd fs) from J.hok dx _ hx)
    exact go (some o) ⟨hget, rfl, rfl, e1⟩
def bitsB (nm : Str) : Bool := let bs := tellN.map fun z => decide (z = nm)
  decide (bs.countP id = 1) && (decide (bs[bs.idxOf true]? = some true) && ((bs.take (bs.idxOf true)).all (!·) && decide (tellN[bs.idxOf true]? = some nm)))
theorem bits_all : tellN.all bitsB = true := by decide +kernel
theorem cls_bits {nm : Str} (h : nm ∈ tellN) : ((tellN.map fun z => V.bl (decide (z = nm))).countP fun z => eqV z (.bl true)) = 1 ∧ ∃ j, (tellN.map fun z => V.bl (decide (z = nm)))[j]? = some (.bl true) ∧ (∀ m z', m < j → (tellN.map fun z => V.bl (decide (z = nm)))[m]? = some z' → eqV z' (.bl true) = false) ∧ atI (tellN.map V.str) ((j : Nat) : Int) = some (.str nm) := by
  have b := List.all_eq_true.mp bits_all nm h
  simp only [bitsB, Bool.and_eq_true, decide_eq_true_eq, List.all_eq_true] at b
  obtain ⟨b1, b2, b3, b4⟩ := b
  have e : (tellN.map fun z => V.bl (decide (z = nm))) = (tellN.map fun z => decide (z = nm)).map V.bl := by rw [List.map_map]; rfl
  generalize hbs : (tellN.map fun z => decide (z = nm)) = bs at *
  refine ⟨?_, bs.idxOf true, ?_, fun m z' hm hz => ?_, ?_⟩
  · rw [e, List.countP_map, ← b1]
    congr 1
    funext x
    cases x <;> rfl
  · rw [e, List.getElem?_map, b2]; rfl
  · rw [e, List.getElem?_map] at hz
    obtain ⟨x, hx, rfl⟩ := Option.map_eq_some_iff.mp hz
    have := b3 x (List.mem_of_getElem? (i := m) (by rw [List.getElem?_take_of_lt hm]; exact hx))
    cases x
    · rfl
    · cases this
  · have hj : bs.idxOf true < tellN.length := (List.getElem?_eq_some_iff.mp b4).1
    unfold atI ixN
    rw [if_pos (Int.natCast_nonneg _), if_pos (by rw [List.length_map]; omega)]
    show (tellN.map V.str)[((bs.idxOf true : Nat) : Int).toNat]? = _
    rw [Int.toNat_natCast, List.getElem?_map, b4]; rfl
end Air
/-! Air: operations. -/
namespace Air
open PySem PySem.Spec PyProof.Rows L2
variable [Kf]
abbrev RkR (L : Lg) (H : Hp) : Gh → Hp → D × Kd → V → Prop := fun G' H' p v => Rk L H G' H' p v
section
variable {L : Lg} {W : WX} {ro : Bool} {G G2 : Gh} {H H2 : Hp} {σ : L2.St} {fr : Fr} {I I2 : Is}
theorem fin_fro {d : D} {v : V} {Q : VK} (h : PR L W ro G H σ fr (.ok (d, .fro) I2) (RkR L H) Q) (x : Ext ro G H G2 H2) (S : Sx L.c ro G2 fr I2 σ H2) (r : RV G2.F G2.M v d) : Q v H2 := h v G2 H2 x S (.fro r)
theorem fin_lst {ds : List D} {vs : List V} {p : Addr} {Q : VK} (h : PR L W ro G H σ fr (.ok (.lst ds, .new) I2) (RkR L H) Q) (x : Ext ro G H G2 H2) (S : Sx L.c ro G2 fr I2 σ H2) (hp : H2 p = none) (r : RVs G2.F G2.M vs ds) : Q (.ref p) (upd H2 p (.lst vs)) :=
  h _ G2 _ (x.trans (Ext.new hp)) (S.new hp) (.new (s := .lst ds) rfl ⟨vs, upd_same, r⟩ (x.dom _ hp) (S.notF hp) (S.notFr hp) (S.notIs hp))
theorem fin_tup {ds : List D} {vs : List V} {p : Addr} {Q : VK} (h : PR L W ro G H σ fr (.ok (.tup ds, .fro) I2) (RkR L H) Q) (x : Ext ro G H G2 H2) (S : Sx L.c ro G2 fr I2 σ H2) (hp : H2 p = none) (r : RVs G2.F G2.M vs ds) : Q (.ref p) (upd H2 p (.tup vs)) := by
  refine h _ (G2.put p (.tup vs)) _ ((x.trans (Ext.new hp)).put (x.dom _ hp) (S.notF hp)) ((S.new hp).freeze trivial (.inl upd_same) (S.notFr hp) (S.notIs hp) (S.notF hp)) (.fro (.tup upd_same (r.mono (put_mono (S.notF hp)) (List.prefix_refl _))))

/-- two values, then a reckoning -/
def Two (L : Lg) (f : D × Kd → D × Kd → Is → R (D × Kd)) : R2 := fun x y H2 Q => ∃ W ro G H σ fr p q I2 G2, Ext ro G H G2 H2 ∧ Sx L.c ro G2 fr I2 σ H2 ∧ Rk L H G2 H2 p x ∧ Rk L H G2 H2 q y ∧ PR L W ro G H σ fr (f p q I2) (RkR L H) Q
def One (L : Lg) (f : D × Kd → Is → R (D × Kd)) : V → Hp → VK → Prop := fun x H2 Q => ∃ W ro G H σ fr p I2 G2, Ext ro G H G2 H2 ∧ Sx L.c ro G2 fr I2 σ H2 ∧ Rk L H G2 H2 p x ∧ PR L W ro G H σ fr (f p I2) (RkR L H) Q

theorem strOk_app {a b : Str} (ha : PyData.strOk a = true) (hb : PyData.strOk b = true) : PyData.strOk (a ++ b) = true := by
  show (a.cps ++ b.cps).all _ = true
  rw [Array.all_append]
  simp only [Bool.and_eq_true]
  exact ⟨ha, hb⟩
theorem lim_eq : lim = sizeLine := by decide
theorem small_ok {i : Int} (h : small i = true) : -(2 ^ 64) < i ∧ i < 2 ^ 64 := by
  unfold small at h
  simp only [Bool.and_eq_true, decide_eq_true_eq] at h
  omega
theorem cond_ok {α : Type} {b : Bool} {x : R α} {P : R α → Prop} (h : P (bif b then x else .bad)) (hn : ¬ P .bad) : b = true ∧ P x := by
  cases b with
  | true => exact ⟨rfl, h⟩
  | false => exact absurd h hn
theorem PR.cond {α β : Type} {b : Bool} {r : R α} {rel : Gh → Hp → α → β → Prop} {Q : β → Hp → Prop} (h : PR L W ro G H σ fr (bif b then r else .bad) rel Q) : b = true ∧ PR L W ro G H σ fr r rel Q := by
  cases b with
  | true => exact ⟨rfl, h⟩
  | false => exact absurd h id
end
theorem fin_bl {L : Lg} {W : WX} {ro : Bool} {G G2 : Gh} {H H2 : Hp} {σ : L2.St} {fr : Fr} {I2 : Is} {b : Bool} {Q : VK} (h : PR L W ro G H σ fr (b2 b I2) (RkR L H) Q) (x : Ext ro G H G2 H2) (S : Sx L.c ro G2 fr I2 σ H2) : Q (.bl b) H2 := fin_fro h x S (.bl b)
section
variable {L : Lg} {X : Cx}
theorem op_addA (hK : X.K = L.K) : OpR X (binaryOp .Add) (Two L fun p q I => binD .add p.1 q.1 I) := by
  intro pins s σ H2 x y v u Q J rx ry h
  obtain ⟨W, ro, G, H, σ', fr, ⟨d, kd⟩, ⟨e, ke⟩, I2, G2, ex, S, hx, hy, h⟩ := h
  cases d <;> cases e <;> try (exact absurd h id)
  · rename_i i j
    obtain rfl := hx.int
    obtain rfl := hy.int
    exact op_add pins s σ H2 _ _ v u Q J rx ry ⟨i, j, rfl, rfl, fin_fro h ex S (.int _)⟩
  · rename_i a b
    obtain ⟨rfl, oa⟩ := hx.str
    obtain ⟨rfl, ob⟩ := hy.str
    obtain ⟨hl, h⟩ := PR.cond h
    have hl := of_decide_eq_true hl
    exact op_add_str pins s σ H2 _ _ v u Q J rx ry ⟨a, b, rfl, rfl, lim_eq ▸ hl, fin_fro h ex S (.str _ (strOk_app oa ob))⟩
  · rename_i xs ys
    obtain ⟨hl, h⟩ := PR.cond h
    simp only [Bool.and_eq_true, decide_eq_true_eq, Bool.not_eq_true'] at hl
    obtain ⟨a, vs, rfl, ha, ra⟩ := hx.tupK S
    obtain ⟨b, ws, rfl, hb, rb⟩ := hy.tupK S
    have l1 := ra.length
    have l2 := rb.length
    have n1 : vs ≠ [] := fun z => by subst z; cases xs <;> simp at l1 hl
    have n2 : ws ≠ [] := fun z => by subst z; cases ys <;> simp at l2 hl
    refine op_catT pins s σ H2 _ _ v u Q J rx ry ⟨a, b, vs, ws, rfl, rfl, hK ▸ ha, hK ▸ hb, n1, ?_, fun z => absurd z n2, fun _ p hp => fin_tup h ex S hp (ra.append rb)⟩
    rw [l1, l2, ← lim_eq]; exact hl.2
  · rename_i xs ys
    obtain ⟨hl, h⟩ := PR.cond h
    have hl := of_decide_eq_true hl
    obtain ⟨a, vs, rfl, ha, ra⟩ := hx.lst S
    obtain ⟨b, ws, rfl, hb, rb⟩ := hy.lst S
    refine op_cat pins s σ H2 _ _ v u Q J rx ry ⟨a, b, vs, ws, rfl, rfl, ha, hb, ?_, fun p hp => fin_lst h ex S hp (ra.append rb)⟩
    rw [ra.length, rb.length, ← lim_eq]; exact hl
theorem op_subA : OpR X (binaryOp .Sub) (Two L fun p q I => binD .sub p.1 q.1 I) := by
  intro pins s σ H2 x y v u Q J rx ry h
  obtain ⟨W, ro, G, H, σ', fr, ⟨d, kd⟩, ⟨e, ke⟩, I2, G2, ex, S, hx, hy, h⟩ := h
  cases d <;> cases e <;> try (exact absurd h id)
  rename_i i j
  obtain rfl := hx.int
  obtain rfl := hy.int
  exact op_sub pins s σ H2 _ _ v u Q J rx ry ⟨i, j, rfl, rfl, fin_fro h ex S (.int _)⟩
theorem RVs.rep {F : Hp} {M : List (Addr × Addr)} {vs : List V} {ds : List D} (r : RVs F M vs ds) : ∀ n, RVs F M (List.replicate n vs).flatten (List.replicate n ds).flatten
  | 0 => .nil
  | n + 1 => by
    rw [List.replicate_succ, List.replicate_succ, List.flatten_cons, List.flatten_cons]
    exact r.append (RVs.rep r n)
theorem op_mulA : OpR X (binaryOp .Mult) (Two L fun p q I => binD .mul p.1 q.1 I) := by
  intro pins s σ H2 x y v u Q J rx ry h
  obtain ⟨W, ro, G, H, σ', fr, ⟨d, kd⟩, ⟨e, ke⟩, I2, G2, ex, S, hx, hy, h⟩ := h
  cases d <;> cases e <;> try (exact absurd h id)
  · rename_i i j
    obtain rfl := hx.int
    obtain rfl := hy.int
    obtain ⟨hl, h⟩ := PR.cond h
    refine op_mul pins s σ H2 _ _ v u Q J rx ry ⟨i, j, rfl, rfl, ?_, fin_fro h ex S (.int _)⟩
    rw [Bool.or_eq_true] at hl
    exact hl.imp small_ok small_ok
  · rename_i xs j
    obtain rfl := hy.int
    obtain ⟨hl, h⟩ := PR.cond h
    simp only [Bool.and_eq_true, decide_eq_true_eq] at hl
    obtain ⟨a, vs, rfl, ha, ra⟩ := hx.lst S
    refine op_rep pins s σ H2 _ _ v u Q J rx ry ⟨a, j, vs, rfl, rfl, ha, by omega, by omega, ?_, fun p hp => fin_lst h ex S hp (ra.rep _)⟩
    rw [ra.length, ← lim_eq]; exact hl.2
theorem op_fdivA : OpR X (binaryOp .FloorDiv) (Two L fun p q I => binD .fdiv p.1 q.1 I) := by
  intro pins s σ H2 x y v u Q J rx ry h
  obtain ⟨W, ro, G, H, σ', fr, ⟨d, kd⟩, ⟨e, ke⟩, I2, G2, ex, S, hx, hy, h⟩ := h
  cases d <;> cases e <;> try (exact absurd h id)
  rename_i i j
  obtain rfl := hx.int
  obtain rfl := hy.int
  obtain ⟨hl, h⟩ := PR.cond h
  simp only [Bool.and_eq_true, decide_eq_true_eq] at hl
  have hs := small_ok hl.2
  refine op_fdivW pins s σ H2 _ _ v u Q J rx ry ⟨i, j, rfl, rfl, wide_div (b := 64) hl.1 (by omega) (by omega) (by omega), fin_fro h ex S (.int _)⟩
theorem op_modA : OpR X (binaryOp .Mod) (Two L fun p q I => binD .md p.1 q.1 I) := by
  intro pins s σ H2 x y v u Q J rx ry h
  obtain ⟨W, ro, G, H, σ', fr, ⟨d, kd⟩, ⟨e, ke⟩, I2, G2, ex, S, hx, hy, h⟩ := h
  cases d <;> cases e <;> try (exact absurd h id)
  rename_i i j
  obtain rfl := hx.int
  obtain rfl := hy.int
  obtain ⟨hl, h⟩ := PR.cond h
  exact op_mod pins s σ H2 _ _ v u Q J rx ry ⟨i, j, rfl, rfl, of_decide_eq_true hl, fin_fro h ex S (.int _)⟩
theorem op_powA : OpR X (binaryOp .Pow) (Two L fun p q I => binD .pow p.1 q.1 I) := by
  intro pins s σ H2 x y v u Q J rx ry h
  obtain ⟨W, ro, G, H, σ', fr, ⟨d, kd⟩, ⟨e, ke⟩, I2, G2, ex, S, hx, hy, h⟩ := h
  cases d <;> cases e <;> try (exact absurd h id)
  rename_i i j
  obtain rfl := hx.int
  obtain rfl := hy.int
  obtain ⟨hl, h⟩ := PR.cond h
  simp only [Bool.and_eq_true, decide_eq_true_eq] at hl
  have hs := small_ok hl.1.1
  exact op_pow pins s σ H2 _ _ v u Q J rx ry ⟨i, j, rfl, rfl, ⟨hl.1.2, hl.2, by omega⟩, fin_fro h ex S (.int _)⟩
def Bo.op : Bo → Operator
  | .add => .Add
  | .sub => .Sub
  | .mul => .Mult
  | .fdiv => .FloorDiv
  | .md => .Mod
  | .pow => .Pow
theorem op_bin (hK : X.K = L.K) (o : Bo) : OpR X (binaryOp o.op) (Two L fun p q I => binD o p.1 q.1 I) := by
  cases o
  · exact op_addA hK
  · exact op_subA
  · exact op_mulA
  · exact op_fdivA
  · exact op_modA
  · exact op_powA
/-! ### comparisons -/
/-- a comparison's answer: the heap stays -/
def PB (H2 : Hp) (r : R (D × Kd)) (Q : VK) : Prop := match r with
  | .ok p _ => (match p.1 with
    | .bl b => Q (.bl b) H2
    | _ => False)
  | _ => False
theorem PB.cond {b : Bool} {r : R (D × Kd)} {H2 : Hp} {Q : VK} (h : PB H2 (bif b then r else .bad) Q) : b = true ∧ PB H2 r Q := by
  cases b with
  | true => exact ⟨rfl, h⟩
  | false => exact absurd h id
def TwoB (L : Lg) (o : Co) : R2 := fun x y H2 Q => ∃ lk G2 H σ fr p q I2, Sx L.c lk G2 fr I2 σ H2 ∧ Rk L H G2 H2 p x ∧ Rk L H G2 H2 q y ∧ PB H2 (cmpD o p.1 q.1 I2) Q
theorem eq_run (hK : X.K = L.K) (hu : X.A.units + 64 < cLine) : OpR X (compareOp .Eq) (TwoB L .eq) := by
  intro pins s σ H2 x y v u Q J rx ry h
  obtain ⟨lk, G2, H, σ', fr, ⟨d, kd⟩, ⟨e, ke⟩, I2, S, hx, hy, h⟩ := h
  obtain ⟨hl, h⟩ := PB.cond h
  simp only [Bool.and_eq_true, decide_eq_true_eq] at hl
  obtain ⟨⟨q1, q2⟩, q3⟩ := hl
  obtain ⟨p1, l1⟩ := hx.dp hK.symm S q1
  obtain ⟨p2, l2⟩ := hy.dp hK.symm S q2
  obtain ⟨as, r1⟩ := Dp.reads J _ x v p1 rx
  obtain ⟨bs, r2⟩ := Dp.reads J _ y u p2 ry
  refine SeqAt.compareEq_reads r1 r2 l1 l2 ?_ ⟨.bl _, H2, J, rfl, h⟩
  have := dep_py d q1
  have := dep_py e q2
  omega
theorem ne_run (hK : X.K = L.K) (hu : X.A.units + 64 < cLine) : OpR X (compareOp .NotEq) (TwoB L .ne) := by
  intro pins s σ H2 x y v u Q J rx ry h
  obtain ⟨lk, G2, H, σ', fr, ⟨d, kd⟩, ⟨e, ke⟩, I2, S, hx, hy, h⟩ := h
  obtain ⟨hl, h⟩ := PB.cond h
  simp only [Bool.and_eq_true, decide_eq_true_eq] at hl
  obtain ⟨⟨q1, q2⟩, q3⟩ := hl
  obtain ⟨p1, l1⟩ := hx.dp hK.symm S q1
  obtain ⟨p2, l2⟩ := hy.dp hK.symm S q2
  obtain ⟨as, r1⟩ := Dp.reads J _ x v p1 rx
  obtain ⟨bs, r2⟩ := Dp.reads J _ y u p2 ry
  refine SeqAt.compareNe_reads r1 r2 l1 l2 ?_ ⟨.bl _, H2, J, rfl, h⟩
  have := dep_py d q1
  have := dep_py e q2
  omega
theorem ord_run {o : Co} {op : CmpOp} {f : Int → Int → Bool} (ho : OpR X (compareOp op) (rI0 fun i j => .bl (f i j))) (hf : ∀ i j I, cmpD o (.int i) (.int j) I = b2 (f i j) I) (hb : ∀ d e I, (∀ i j, ¬ (d = .int i ∧ e = .int j)) → cmpD o d e I = .bad) :
    OpR X (compareOp op) (TwoB L o) := by
  intro pins s σ H2 x y v u Q J rx ry h
  obtain ⟨lk, G2, H, σ', fr, ⟨d, kd⟩, ⟨e, ke⟩, I2, S, hx, hy, h⟩ := h
  by_cases hi : ∃ i j, d = .int i ∧ e = .int j
  · obtain ⟨i, j, rfl, rfl⟩ := hi
    obtain rfl := hx.int
    obtain rfl := hy.int
    refine ho pins s σ H2 _ _ v u Q J rx ry ⟨i, j, rfl, rfl, ?_⟩
    have h : PB H2 (cmpD o (.int i) (.int j) I2) Q := h
    rw [hf] at h
    exact h
  · have h : PB H2 (cmpD o d e I2) Q := h
    rw [hb d e I2 fun i j z => hi ⟨i, j, z⟩] at h
    exact absurd h id
theorem lt_run : OpR X (compareOp .Lt) (TwoB L .lt) := ord_run (f := fun i j => decide (i < j)) op_lt (fun _ _ _ => rfl) fun d e I h => by
  cases d <;> cases e <;> first | rfl | exact absurd ⟨rfl, rfl⟩ (h _ _)
theorem le_run : OpR X (compareOp .LtE) (TwoB L .le) := ord_run (f := fun i j => decide (i ≤ j)) op_le (fun _ _ _ => rfl) fun d e I h => by
  cases d <;> cases e <;> first | rfl | exact absurd ⟨rfl, rfl⟩ (h _ _)
theorem gt_run : OpR X (compareOp .Gt) (TwoB L .gt) := ord_run (f := fun i j => decide (j < i)) op_gt (fun _ _ _ => rfl) fun d e I h => by
  cases d <;> cases e <;> first | rfl | exact absurd ⟨rfl, rfl⟩ (h _ _)
theorem ge_run : OpR X (compareOp .GtE) (TwoB L .ge) := ord_run (f := fun i j => decide (j ≤ i)) op_ge (fun _ _ _ => rfl) fun d e I h => by
  cases d <;> cases e <;> first | rfl | exact absurd ⟨rfl, rfl⟩ (h _ _)
theorem flat_V {G : Gh} {v : V} {d : D} (r : RV G.F G.M v d) (h : D.isFlat d = true) : flatV v = true := by
  cases r <;> first | rfl | (simp [D.isFlat] at h)
theorem flat_eq {G : Gh} : ∀ {v w : V} {d e : D}, RV G.F G.M v d → RV G.F G.M w e → D.isFlat d = true → D.isFlat e = true → eqV v w = D.pyeq d e := by
  intro v w d e r s h1 h2
  cases r <;> first | (simp [D.isFlat] at h1; done) | skip
  all_goals cases s <;> first | (simp [D.isFlat] at h2; done) | simp [D.pyeq, D.py, PyData.eqv, eqV]
theorem in_eq {G : Gh} {v : V} {d : D} (r : RV G.F G.M v d) (hd : D.isFlat d = true) : ∀ {ws : List V} {es : List D}, RVs G.F G.M ws es → D.flats es = true → ws.all flatV = true ∧ inV v ws = inD d es
  | _, _, .nil, _ => ⟨rfl, rfl⟩
  | _, _, .cons s ss, q => by
    have q : (D.isFlat _ && D.flats _) = true := q
    rw [Bool.and_eq_true] at q
    obtain ⟨h1, h2⟩ := in_eq r hd ss q.2
    refine ⟨by rw [List.all_cons, flat_V s q.1, h1]; rfl, ?_⟩
    unfold inV inD at h2 ⊢
    rw [List.any_cons, List.any_cons, flat_eq s r q.1 hd, h2]
theorem sgn_eq {x : Str} {c : Nat} (h : sgnD x = some c) : x = ⟨#[c]⟩ := by
  obtain ⟨⟨l⟩⟩ := x
  unfold sgnD at h
  split at h
  rename_i l' e
  cases e
  split at h
  · cases h; rfl
  · cases h
theorem flat_fro {G : Gh} {H0 H : Hp} {d : D} {k : Kd} {v : V} (hf : D.isFlat d = true) (h : Rk L H0 G H (d, k) v) : RV G.F G.M v d := by
  cases h with
  | fro h => exact h
  | own e | inst e | new e => cases d <;> first | (simp [Sl.inn] at e; done) | (simp [D.isFlat] at hf; done)
  | cst => simp [D.isFlat] at hf
theorem inD_py (d : D) : ∀ ys : List D, inD d ys = (D.pys ys).any fun z => PyData.eqv z d.py
  | [] => by simp [inD, D.pys]
  | y :: ys => by
    have ih := inD_py d ys
    unfold inD D.pyeq at *
    simp only [D.pys, List.any_cons, ih]
theorem in_run (hK : X.K = L.K) (hu : X.A.units + 64 < cLine) : OpR X (compareOp .In) (TwoB L .inn) := by
  intro pins s σ H2 x y v u Q J rx ry h
  obtain ⟨lk, G2, H, σ', fr, ⟨d, kd⟩, ⟨e, ke⟩, I2, S, hx, hy, h⟩ := h
  have h : PB H2 (match inDD d e with | some k => b2 k I2 | none => .bad) Q := h
  cases e with
  | str z =>
    cases d with
    | str a =>
      obtain ⟨rfl, _⟩ := hx.str
      obtain ⟨rfl, _⟩ := hy.str
      have h : PB H2 (match (match sgnD a with | some c => some (decide (c ∈ z.cps.toList)) | none => none) with | some k => b2 k I2 | none => .bad) Q := h
      cases q : sgnD a with
      | none => rw [q] at h; exact absurd h id
      | some c =>
        rw [q] at h
        rw [sgn_eq q] at rx
        exact op_in_sign pins s σ H2 _ _ v u Q J rx ry ⟨c, z, rfl, rfl, h⟩
    | _ => exact absurd h id
  | lst ys =>
    have h : PB H2 (match (bif D.isFlat d && D.flats ys then some (inD d ys) else bif D.eqc d && D.eqcs ys && decide (D.dep d ≤ 60) then some (inD d ys) else none) with | some k => b2 k I2 | none => .bad) Q := h
    cases q : D.isFlat d && D.flats ys with
    | false =>
      rw [q] at h
      cases q2 : D.eqc d && D.eqcs ys && decide (D.dep d ≤ 60) with
      | false => rw [q2] at h; exact absurd h id
      | true =>
        rw [q2] at h
        simp only [Bool.and_eq_true, decide_eq_true_eq] at q2
        obtain ⟨⟨q3, q4⟩, q5⟩ := q2
        obtain ⟨p1, l1⟩ := hx.dp hK.symm S q3
        obtain ⟨p2, l2⟩ := hy.dp hK.symm S (show D.eqc (.lst ys) = true by rw [D.eqc]; exact q4)
        obtain ⟨as, r1⟩ := Dp.reads J _ x v p1 rx
        obtain ⟨bs, r2⟩ := Dp.reads J _ y u p2 ry
        rw [show (D.lst ys).py = .list (D.pys ys) by rw [D.py]] at r2 l2
        have l3 : PyData.canLayAll0 (D.pys ys) = true := by simpa [PyData.canLay0] using l2
        refine SeqAt.in_list_reads r2 r1 l3 l1 ?_ ?_
        · have := dep_py d q3
          omega
        · rw [← inD_py]
          exact ⟨.bl _, H2, J, rfl, h⟩
    | true =>
      rw [q] at h
      rw [Bool.and_eq_true] at q
      obtain ⟨b, ws, rfl, hb, rb⟩ := hy.lst S
      have hv := flat_fro q.1 hx
      obtain ⟨i1, i2⟩ := in_eq hv q.1 rb q.2
      refine op_in_seq pins s σ H2 _ _ v u Q J rx ry ⟨b, ws, rfl, .inl (.of hb), flat_V hv q.1, i1, ?_⟩
      rw [i2]
      exact h
  | tup ys =>
    have h : PB H2 (match (bif D.isFlat d && D.flats ys then some (inD d ys) else none) with | some k => b2 k I2 | none => .bad) Q := h
    cases q : D.isFlat d && D.flats ys with
    | false => rw [q] at h; exact absurd h id
    | true =>
      rw [q] at h
      rw [Bool.and_eq_true] at q
      obtain ⟨b, ws, rfl, hb, rb⟩ := hy.tupK S
      have hv := flat_fro q.1 hx
      obtain ⟨i1, i2⟩ := in_eq hv q.1 rb q.2
      refine op_in_seq pins s σ H2 _ _ v u Q J rx ry ⟨b, ws, rfl, .inr (hK ▸ hb), flat_V hv q.1, i1, ?_⟩
      rw [i2]
      exact h
  | _ => exact absurd h id
theorem nin_run (hK : X.K = L.K) (hu : X.A.units + 64 < cLine) : OpR X (compareOp .NotIn) (TwoB L .nin) := by
  intro pins s σ H2 x y v u Q J rx ry h
  obtain ⟨lk, G2, H, σ', fr, ⟨d, kd⟩, ⟨e, ke⟩, I2, S, hx, hy, h⟩ := h
  have h : PB H2 (match inDD d e with | some k => b2 (!k) I2 | none => .bad) Q := h
  cases e with
  | str z =>
    cases d with
    | str a =>
      obtain ⟨rfl, _⟩ := hx.str
      obtain ⟨rfl, _⟩ := hy.str
      have h : PB H2 (match (match sgnD a with | some c => some (decide (c ∈ z.cps.toList)) | none => none) with | some k => b2 (!k) I2 | none => .bad) Q := h
      cases q : sgnD a with
      | none => rw [q] at h; exact absurd h id
      | some c =>
        rw [q] at h
        rw [sgn_eq q] at rx
        exact op_notIn_sign pins s σ H2 _ _ v u Q J rx ry ⟨c, z, rfl, rfl, h⟩
    | _ => exact absurd h id
  | lst ys =>
    have h : PB H2 (match (bif D.isFlat d && D.flats ys then some (inD d ys) else bif D.eqc d && D.eqcs ys && decide (D.dep d ≤ 60) then some (inD d ys) else none) with | some k => b2 (!k) I2 | none => .bad) Q := h
    cases q : D.isFlat d && D.flats ys with
    | false =>
      rw [q] at h
      cases q2 : D.eqc d && D.eqcs ys && decide (D.dep d ≤ 60) with
      | false => rw [q2] at h; exact absurd h id
      | true =>
        rw [q2] at h
        simp only [Bool.and_eq_true, decide_eq_true_eq] at q2
        obtain ⟨⟨q3, q4⟩, q5⟩ := q2
        obtain ⟨p1, l1⟩ := hx.dp hK.symm S q3
        obtain ⟨p2, l2⟩ := hy.dp hK.symm S (show D.eqc (.lst ys) = true by rw [D.eqc]; exact q4)
        obtain ⟨as, r1⟩ := Dp.reads J _ x v p1 rx
        obtain ⟨bs, r2⟩ := Dp.reads J _ y u p2 ry
        rw [show (D.lst ys).py = .list (D.pys ys) by rw [D.py]] at r2 l2
        have l3 : PyData.canLayAll0 (D.pys ys) = true := by simpa [PyData.canLay0] using l2
        refine SeqAt.notIn_list_reads r2 r1 l3 l1 ?_ ?_
        · have := dep_py d q3
          omega
        · rw [← inD_py]
          exact ⟨.bl _, H2, J, rfl, h⟩
    | true =>
      rw [q] at h
      rw [Bool.and_eq_true] at q
      obtain ⟨b, ws, rfl, hb, rb⟩ := hy.lst S
      have hv := flat_fro q.1 hx
      obtain ⟨i1, i2⟩ := in_eq hv q.1 rb q.2
      refine op_notIn_seq pins s σ H2 _ _ v u Q J rx ry ⟨b, ws, rfl, .inl (.of hb), flat_V hv q.1, i1, ?_⟩
      rw [i2]
      exact h
  | tup ys =>
    have h : PB H2 (match (bif D.isFlat d && D.flats ys then some (inD d ys) else none) with | some k => b2 (!k) I2 | none => .bad) Q := h
    cases q : D.isFlat d && D.flats ys with
    | false => rw [q] at h; exact absurd h id
    | true =>
      rw [q] at h
      rw [Bool.and_eq_true] at q
      obtain ⟨b, ws, rfl, hb, rb⟩ := hy.tupK S
      have hv := flat_fro q.1 hx
      obtain ⟨i1, i2⟩ := in_eq hv q.1 rb q.2
      refine op_notIn_seq pins s σ H2 _ _ v u Q J rx ry ⟨b, ws, rfl, .inr (hK ▸ hb), flat_V hv q.1, i1, ?_⟩
      rw [i2]
      exact h
  | _ => exact absurd h id
def Co.op : Co → CmpOp
  | .eq => .Eq
  | .ne => .NotEq
  | .lt => .Lt
  | .le => .LtE
  | .gt => .Gt
  | .ge => .GtE
  | .inn => .In
  | .nin => .NotIn
theorem op_cmpB (hK : X.K = L.K) (hu : X.A.units + 64 < cLine) (o : Co) : OpR X (compareOp o.op) (TwoB L o) := by
  cases o
  · exact eq_run hK hu
  · exact ne_run hK hu
  · exact lt_run
  · exact le_run
  · exact gt_run
  · exact ge_run
  · exact in_run hK hu
  · exact nin_run hK hu
theorem cmpD_b (o : Co) (d e : D) (I : Is) : cmpD o d e I = .bad ∨ ∃ k, cmpD o d e I = b2 k I := by
  have cc : ∀ b k : Bool, (bif b then b2 k I else R.bad) = .bad ∨ ∃ k', (bif b then b2 k I else R.bad) = b2 k' I := fun b k => by
    cases b with
    | true => exact .inr ⟨_, rfl⟩
    | false => exact .inl rfl
  cases o
  case eq => exact cc _ _
  case ne => exact cc _ _
  case inn =>
    show (match inDD d e with | some k => b2 k I | none => .bad) = .bad ∨ ∃ k, (match inDD d e with | some k => b2 k I | none => .bad) = b2 k I
    cases inDD d e with
    | none => exact .inl rfl
    | some k => exact .inr ⟨_, rfl⟩
  case nin =>
    show (match inDD d e with | some k => b2 (!k) I | none => .bad) = .bad ∨ ∃ k, (match inDD d e with | some k => b2 (!k) I | none => .bad) = b2 k I
    cases inDD d e with
    | none => exact .inl rfl
    | some k => exact .inr ⟨_, rfl⟩
  all_goals cases d <;> cases e <;> first | exact .inl rfl | exact .inr ⟨_, rfl⟩
theorem PR.pb {W : WX} {ro : Bool} {G G2 : Gh} {H H2 : Hp} {σ : L2.St} {fr : Fr} {I2 : Is} {o : Co} {d e : D} {Q : VK} (h : PR L W ro G H σ fr (cmpD o d e I2) (RkR L H) Q) (x : Ext ro G H G2 H2) (S : Sx L.c ro G2 fr I2 σ H2) : PB H2 (cmpD o d e I2) Q := by
  rcases cmpD_b o d e I2 with z | ⟨k, z⟩
  · rw [z] at h; exact absurd h id
  · rw [z] at h ⊢; exact fin_bl h x S
theorem op_cmp (hK : X.K = L.K) (hu : X.A.units + 64 < cLine) (o : Co) : OpR X (compareOp o.op) (Two L fun p q I => cmpD o p.1 q.1 I) := by
  intro pins s σ H2 x y v u Q J rx ry h
  obtain ⟨W, ro, G, H, σ', fr, p, q, I2, G2, ex, S, hx, hy, h⟩ := h
  exact op_cmpB (L := L) hK hu o pins s σ H2 x y v u Q J rx ry ⟨ro, G2, H, σ', fr, p, q, I2, S, hx, hy, h.pb ex S⟩
/-! ### places, cuts -/
theorem RVs.atI {F : Hp} {M : List (Addr × Addr)} {vs : List V} {ds : List D} {i : Int} {d : D} (r : RVs F M vs ds) (h : L2.atI ds i = some d) : ∃ v, L2.atI vs i = some v ∧ RV F M v d := by
  unfold L2.atI at h ⊢
  rw [r.length]
  cases q : ixN ds.length i with
  | none => rw [q] at h; cases h
  | some j =>
    rw [q] at h
    exact r.get h
theorem atI_map {α β : Type} (f : α → β) {xs : List α} {i : Int} {a : α} (h : L2.atI xs i = some a) : L2.atI (xs.map f) i = some (f a) := by
  unfold L2.atI at h ⊢
  rw [List.length_map]
  cases q : ixN xs.length i with
  | none => rw [q] at h; cases h
  | some j =>
    rw [q] at h
    have h : xs[j]? = some a := h
    show (xs.map f)[j]? = _
    rw [List.getElem?_map, h]; rfl
theorem strOk_one {z : Str} {c : Nat} {i : Int} (hz : PyData.strOk z = true) (h : L2.atI z.cps.toList i = some c) : PyData.strOk ⟨#[c]⟩ = true := by
  unfold L2.atI at h
  cases q : ixN z.cps.toList.length i with
  | none => rw [q] at h; cases h
  | some j =>
    rw [q] at h
    have h : z.cps.toList[j]? = some c := h
    have hm : c ∈ z.cps.toList := List.mem_of_getElem? h
    have hz : z.cps.all (· < 0x110000) = true := hz
    rw [Array.all_eq_true'] at hz
    have := hz c (by simpa using hm)
    show (#[c] : Array Nat).all (· < 0x110000) = true
    simpa using this
theorem ix_run (hK : X.K = L.K) : IxR X (Two L fun p q I => subD p.1 q.1 p.2 I) := by
  intro value slice pins s σ H2 x y v u Q J rx ry h hs
  obtain ⟨W, ro, G, H, σ', fr, ⟨d, kd⟩, ⟨e, ke⟩, I2, G2, ex, S, hx, hy, h⟩ := h
  cases d with
  | str z =>
    cases e with
    | int j =>
      obtain ⟨rfl, hz⟩ := hx.str
      obtain rfl := hy.int
      have h : PR L W ro G H σ' fr (bif decide (z.length ≤ lim) then (match L2.atI z.cps.toList j with | some c => .ok (.str ⟨#[c]⟩, .fro) I2 | none => .bad) else .bad) (RkR L H) Q := h
      obtain ⟨hl, h⟩ := PR.cond h
      cases q : L2.atI z.cps.toList j with
      | none => rw [q] at h; exact absurd h id
      | some c =>
        rw [q] at h
        exact ix_str value slice pins s σ H2 _ _ v u Q J rx ry ⟨z, j, c, rfl, rfl, lim_eq ▸ of_decide_eq_true hl, q, fin_fro h ex S (.str _ (strOk_one hz q))⟩ hs
    | _ => exact absurd h id
  | lst xs =>
    cases e with
    | int j =>
      obtain rfl := hy.int
      obtain ⟨a, vs, rfl, ha, ra⟩ := hx.lst S
      have h : PR L W ro G H σ' fr (match L2.atI xs j with | some d => .ok (d, .fro) I2 | none => .bad) (RkR L H) Q := h
      cases q : L2.atI xs j with
      | none => rw [q] at h; exact absurd h id
      | some c =>
        rw [q] at h
        obtain ⟨w, hw, rw'⟩ := ra.atI q
        exact ix_list value slice pins s σ H2 _ _ v u Q J rx ry ⟨a, vs, j, w, rfl, rfl, .of ha, hw, fin_fro h ex S rw'⟩ hs
    | _ => exact absurd h id
  | tup xs =>
    cases e with
    | int j =>
      obtain rfl := hy.int
      have h : PR L W ro G H σ' fr (match L2.atI xs j with | some d => bif decide (kd = .cst) then .bad else .ok (d, .fro) I2 | none => .bad) (RkR L H) Q := h
      cases q : L2.atI xs j with
      | none => rw [q] at h; exact absurd h id
      | some c =>
        rw [q] at h
        by_cases hk : kd = .cst
        · rw [decide_eq_true hk] at h; exact absurd h id
        · rw [decide_eq_false hk] at h
          obtain ⟨a, vs, rfl, ha, ra⟩ := hx.tup S hk
          obtain ⟨w, hw, rw'⟩ := ra.atI q
          exact ix_tup value slice pins s σ H2 _ _ v u Q J rx ry ⟨a, vs, j, w, rfl, rfl, .of ha, hw, fin_fro h ex S rw'⟩ hs
    | _ => exact absurd h id
  | scr ns =>
    cases e with
    | int j =>
      obtain rfl := hy.int
      obtain ⟨a, rfl, ha⟩ := hx.scr S
      have h : PR L W ro G H σ' fr (match L2.atI ns j with | some d => .ok (.int d, .fro) I2 | none => .bad) (RkR L H) Q := h
      cases q : L2.atI ns j with
      | none => rw [q] at h; exact absurd h id
      | some c =>
        rw [q] at h
        exact ix_list value slice pins s σ H2 _ _ v u Q J rx ry ⟨a, _, j, _, rfl, rfl, hK ▸ ha, atI_map V.int q, fin_fro h ex S (.int c)⟩ hs
    | _ => exact absurd h id
  | _ => exact absurd h id
end
end Air
/-! Air: rising lists. -/
namespace Air
open PySem L2
theorem ltK_irrefl (a : List Ik) : ltK a a = false := (PyProof.Rows.listOrd PyProof.Rows.itemOrd).irrefl a
theorem ltK_trans {a b c : List Ik} (h1 : ltK a b = true) (h2 : ltK b c = true) : ltK a c = true := (PyProof.Rows.listOrd PyProof.Rows.itemOrd).trans a b c h1 h2
theorem ltK_neg {a b c : List Ik} (h : ltK a c = true) : ltK a b = true ∨ ltK b c = true := (PyProof.Rows.listOrd PyProof.Rows.itemOrd).negTrans a b c h
theorem ltK_total {a b : List Ik} (h1 : ltK a b = false) (h2 : ltK b a = false) : a = b := (PyProof.Rows.listOrd PyProof.Rows.itemOrd).total a b h1 h2
theorem le_refl (a : D) : D.le a a = true := by unfold D.le; rw [ltK_irrefl]; rfl
theorem le_total (a b : D) : D.le a b = true ∨ D.le b a = true := by
  unfold D.le
  cases h1 : ltK b.key a.key with
  | false => exact .inl rfl
  | true =>
    cases h2 : ltK a.key b.key with
    | false => exact .inr rfl
    | true => have := ltK_trans h1 h2; rw [ltK_irrefl] at this; cases this
theorem le_trans {a b c : D} (h1 : D.le a b = true) (h2 : D.le b c = true) : D.le a c = true := by
  unfold D.le at *
  cases h : ltK c.key a.key with
  | false => rfl
  | true =>
    rcases ltK_neg (b := b.key) h with z | z
    · rw [z] at h2; cases h2
    · rw [z] at h1; cases h1
theorem le_anti {a b : D} (h1 : D.le a b = true) (h2 : D.le b a = true) : a.key = b.key := by
  unfold D.le at *
  exact ltK_total (by simpa using h2) (by simpa using h1)
theorem insD_perm (x : D) : ∀ ys : List D, (insD x ys).Perm (x :: ys)
  | [] => .refl _
  | y :: r => by
    unfold insD
    cases h : D.le x y with
    | true => exact .refl _
    | false => exact ((insD_perm x r).cons y).trans (.swap _ _ _)
theorem sortD_perm : ∀ xs : List D, (sortD xs).Perm xs
  | [] => .refl _
  | x :: r => (insD_perm x _).trans ((sortD_perm r).cons x)
theorem insD_pw (x : D) : ∀ ys : List D, ys.Pairwise (fun a b => D.le a b = true) → (insD x ys).Pairwise (fun a b => D.le a b = true)
  | [], _ => by simp [insD]
  | y :: r, h => by
    unfold insD
    have ⟨h1, h2⟩ := List.pairwise_cons.mp h
    cases q : D.le x y with
    | true => exact .cons (fun z hz => (List.mem_cons.mp hz).elim (fun e => e ▸ q) fun hz => le_trans q (h1 z hz)) h
    | false =>
      have yx : D.le y x = true := (le_total x y).elim (fun z => by rw [q] at z; cases z) id
      refine .cons (fun z hz => ?_) (insD_pw x r h2)
      rcases List.mem_cons.mp ((insD_perm x r).mem_iff.mp hz) with e | e
      · exact e ▸ yx
      · exact h1 z e
theorem sortD_pw : ∀ xs : List D, (sortD xs).Pairwise (fun a b => D.le a b = true)
  | [] => .nil
  | x :: r => insD_pw x _ (sortD_pw r)
/-- there is one rising arrangement -/
theorem rise_uniq : ∀ {xs ys : List D}, xs.Perm ys → xs.Pairwise (fun a b => D.le a b = true) → ys.Pairwise (fun a b => D.le a b = true) → (∀ a ∈ xs, ∀ b ∈ xs, a.key = b.key → a = b) → xs = ys
  | [], ys, p, _, _, _ => p.nil_eq
  | x :: xs, [], p, _, _, _ => by have := p.length_eq; simp at this
  | x :: xs, y :: ys, p, h1, h2, inj => by
    have ⟨a1, a2⟩ := List.pairwise_cons.mp h1
    have ⟨b1, b2⟩ := List.pairwise_cons.mp h2
    have hx : x ∈ y :: ys := p.mem_iff.mp List.mem_cons_self
    have hy : y ∈ x :: xs := p.mem_iff.mpr List.mem_cons_self
    have l1 : D.le x y = true := (List.mem_cons.mp hy).elim (fun e => by rw [e]; exact le_refl _) (a1 y)
    have l2 : D.le y x = true := (List.mem_cons.mp hx).elim (fun e => by rw [e]; exact le_refl _) (b1 x)
    have e : x = y := inj x List.mem_cons_self y hy (le_anti l1 l2)
    subst e
    rw [rise_uniq ((List.perm_cons x).mp p) a2 b2 fun a ha b hb => inj a (List.mem_cons_of_mem _ ha) b (List.mem_cons_of_mem _ hb)]
theorem sortD_eq {xs ys : List D} (p : ys.Perm xs) (h : ys.Pairwise (fun a b => D.le a b = true)) (inj : ∀ a ∈ xs, ∀ b ∈ xs, a.key = b.key → a = b) : ys = sortD xs :=
  rise_uniq (p.trans (sortD_perm xs).symm) h (sortD_pw xs) fun a ha b hb => inj a (p.mem_iff.mp ha) b (p.mem_iff.mp hb)
theorem le_int (i j : Int) : D.le (.int i) (.int j) = decide (i ≤ j) := by
  show (!(PyProof.Rows.lexLt PyProof.Rows.itemOrd [.inl j] [.inl i])) = _
  simp only [PyProof.Rows.lexLt]
  show (!(decide (j < i) || (!decide (i < j) && false))) = _
  by_cases h : i ≤ j
  · simp [h, show ¬ j < i by omega]
  · simp [h, show j < i by omega]
theorem le_str (a b : Str) : D.le (.str a) (.str b) = !decide (b.cps.toList < a.cps.toList) := by
  show (!(PyProof.Rows.lexLt PyProof.Rows.itemOrd [.inr b.cps.toList] [.inr a.cps.toList])) = _
  simp only [PyProof.Rows.lexLt]
  show (!(decide (b.cps.toList < a.cps.toList) || (!decide (a.cps.toList < b.cps.toList) && false))) = _
  simp
theorem addU_mem (x : Int) : ∀ (ys : List Int) (z : Int), z ∈ addU x ys ↔ z = x ∨ z ∈ ys
  | [], z => by simp [addU]
  | y :: r, z => by
    unfold addU
    by_cases h1 : x < y
    · rw [decide_eq_true h1]; simp
    · rw [decide_eq_false h1]
      by_cases h2 : x = y
      · rw [decide_eq_true h2]; subst h2; simp
      · rw [decide_eq_false h2]
        simp only [cond_false, List.mem_cons, addU_mem x r z]
        constructor
        · rintro (h | h | h) <;> simp [h]
        · rintro (h | h | h) <;> simp [h]
theorem addU_pw (x : Int) : ∀ ys : List Int, ys.Pairwise (· < ·) → (addU x ys).Pairwise (· < ·)
  | [], _ => by simp [addU]
  | y :: r, h => by
    have ⟨h1, h2⟩ := List.pairwise_cons.mp h
    unfold addU
    by_cases q1 : x < y
    · rw [decide_eq_true q1]
      exact .cons (fun z hz => (List.mem_cons.mp hz).elim (fun e => e ▸ q1) fun hz => Int.lt_trans q1 (h1 z hz)) h
    · rw [decide_eq_false q1]
      by_cases q2 : x = y
      · rw [decide_eq_true q2]; exact h
      · rw [decide_eq_false q2]
        refine .cons (fun z hz => ?_) (addU_pw x r h2)
        rcases (addU_mem x r z).mp hz with e | e
        · subst e; omega
        · exact h1 z e
theorem setL_mem : ∀ (xs : List Int) (z : Int), z ∈ setL xs ↔ z ∈ xs
  | [], z => by simp [setL]
  | x :: r, z => by unfold setL; rw [addU_mem, setL_mem r z, List.mem_cons]
theorem setL_pw : ∀ xs : List Int, (setL xs).Pairwise (· < ·)
  | [] => .nil
  | x :: r => addU_pw x _ (setL_pw r)
theorem lt_uniq : ∀ {xs ys : List Int}, (∀ z, z ∈ xs ↔ z ∈ ys) → xs.Pairwise (· < ·) → ys.Pairwise (· < ·) → xs = ys
  | [], [], _, _, _ => rfl
  | [], y :: ys, h, _, _ => by have := (h y).mpr List.mem_cons_self; simp at this
  | x :: xs, [], h, _, _ => by have := (h x).mp List.mem_cons_self; simp at this
  | x :: xs, y :: ys, h, h1, h2 => by
    have ⟨a1, a2⟩ := List.pairwise_cons.mp h1
    have ⟨b1, b2⟩ := List.pairwise_cons.mp h2
    have e : x = y := by
      rcases List.mem_cons.mp ((h x).mp List.mem_cons_self) with e | e
      · exact e
      · rcases List.mem_cons.mp ((h y).mpr List.mem_cons_self) with e' | e'
        · exact e'.symm
        · have := a1 y e'; have := b1 x e; omega
    subst e
    rw [lt_uniq (fun z => ?_) a2 b2]
    constructor
    · intro hz
      rcases List.mem_cons.mp ((h z).mp (List.mem_cons_of_mem _ hz)) with e | e
      · have := a1 z hz; omega
      · exact e
    · intro hz
      rcases List.mem_cons.mp ((h z).mpr (List.mem_cons_of_mem _ hz)) with e | e
      · have := b1 z hz; omega
      · exact e
theorem maxL_mem : ∀ (a : Int) (r : List Int), maxL (a :: r) ∈ a :: r ∧ ∀ y ∈ a :: r, y ≤ maxL (a :: r)
  | a, [] => by simp [maxL]
  | a, b :: r => by
    have ⟨h1, h2⟩ := maxL_mem b r
    show max a (maxL (b :: r)) ∈ _ ∧ ∀ y ∈ _, y ≤ max a (maxL (b :: r))
    constructor
    · by_cases h : a ≤ maxL (b :: r)
      · rw [Int.max_eq_right h]; exact List.mem_cons_of_mem _ h1
      · rw [Int.max_eq_left (by omega)]; exact List.mem_cons_self
    · intro y hy
      rcases List.mem_cons.mp hy with e | e
      · subst e; omega
      · have := h2 y e; omega
theorem minL_mem : ∀ (a : Int) (r : List Int), minL (a :: r) ∈ a :: r ∧ ∀ y ∈ a :: r, minL (a :: r) ≤ y
  | a, [] => by simp [minL]
  | a, b :: r => by
    have ⟨h1, h2⟩ := minL_mem b r
    show min a (minL (b :: r)) ∈ _ ∧ ∀ y ∈ _, min a (minL (b :: r)) ≤ y
    constructor
    · by_cases h : a ≤ minL (b :: r)
      · rw [Int.min_eq_left h]; exact List.mem_cons_self
      · rw [Int.min_eq_right (by omega)]; exact List.mem_cons_of_mem _ h1
    · intro y hy
      rcases List.mem_cons.mp hy with e | e
      · subst e; omega
      · have := h2 y e; omega
end Air
/-! Air: built-in functions. -/
namespace Air
open PySem PySem.Spec PyProof.Rows L2
variable [Kf]
inductive Rks (L : Lg) (H0 : Hp) (G : Gh) (H : Hp) : List (D × Kd) → List V → Prop
  | nil : Rks L H0 G H [] []
  | cons {p : D × Kd} {v : V} {ps : List (D × Kd)} {vs : List V} : Rk L H0 G H p v → Rks L H0 G H ps vs → Rks L H0 G H (p :: ps) (v :: vs)
def Args (L : Lg) (f : List (D × Kd) → Is → R (D × Kd)) : List V → Hp → VK → Prop := fun vs H2 Q => ∃ W ro G H σ fr ps I2 G2, Ext ro G H G2 H2 ∧ Sx L.c ro G2 fr I2 σ H2 ∧ Rks L H G2 H2 ps vs ∧ PR L W ro G H σ fr (f ps I2) (RkR L H) Q
/-- a[lo:hi] -/
def Cut (L : Lg) : V → Option Int → Option Int → Hp → VK → Prop := fun x lo hi H2 Q => ∃ W ro G H σ fr p I2 G2, Ext ro G H G2 H2 ∧ Sx L.c ro G2 fr I2 σ H2 ∧ Rk L H G2 H2 p x ∧ PR L W ro G H σ fr (slcD p.1 p.2 lo hi I2) (RkR L H) Q
theorem strOk_sub {z : Str} {l : List Nat} (hz : PyData.strOk z = true) (h : ∀ c ∈ l, c ∈ z.cps.toList) : PyData.strOk ⟨l.toArray⟩ = true := by
  have hz : z.cps.all (· < 0x110000) = true := hz
  rw [Array.all_eq_true'] at hz
  show l.toArray.all (· < 0x110000) = true
  rw [Array.all_eq_true']
  intro c hc
  exact hz c (by simpa using h c (by simpa using hc))
section
variable {L : Lg} {X : Cx}
theorem slc_run (hK : X.K = L.K) : SlR X (Cut L) := by
  intro pins s σ H2 x v vl vu lo hi sl Q J rx hs pl pu h
  obtain ⟨W, ro, G, H, σ', fr, ⟨d, kd⟩, I2, G2, ex, S, hx, h⟩ := h
  cases d with
  | str z =>
    obtain ⟨rfl, hz⟩ := hx.str
    obtain ⟨hl, h⟩ := PR.cond (show PR L W ro G H σ' fr (bif decide (z.length ≤ lim) then .ok (.str (cutS z lo hi), .fro) I2 else .bad) (RkR L H) Q from h)
    refine sl_str pins s σ H2 _ v vl vu lo hi sl Q J rx hs pl pu ⟨z, rfl, lim_eq ▸ of_decide_eq_true hl, fin_fro h ex S (.str _ ?_)⟩
    exact strOk_sub hz fun c hc => List.mem_of_mem_drop (List.mem_of_mem_take hc)
  | lst xs =>
    obtain ⟨a, vs, rfl, ha, ra⟩ := hx.lst S
    have h : PR L W ro G H σ' fr (.ok (.lst (cutD xs lo hi), .new) I2) (RkR L H) Q := h
    refine sl_list pins s σ H2 _ v vl vu lo hi sl Q J rx hs pl pu ⟨a, vs, rfl, .of ha, fun p hp => fin_lst h ex S hp ?_⟩
    unfold cutV cutD
    rw [ra.length]
    exact (ra.drop _).take _
  | tup xs =>
    have h : PR L W ro G H σ' fr (bif decide (kd = .cst) || decide (HT.sIx xs.length 0 lo = 0 ∧ HT.sIx xs.length xs.length hi = xs.length) then .bad else .ok (.tup (cutD xs lo hi), .fro) I2) (RkR L H) Q := h
    cases q : decide (kd = .cst) || decide (HT.sIx xs.length 0 lo = 0 ∧ HT.sIx xs.length xs.length hi = xs.length) with
    | true => rw [q] at h; exact absurd h id
    | false =>
      rw [q] at h
      simp only [Bool.or_eq_false_iff, decide_eq_false_iff_not] at q
      obtain ⟨a, vs, rfl, ha, ra⟩ := hx.tup S q.1
      refine sl_tup pins s σ H2 _ v vl vu lo hi sl Q J rx hs pl pu ⟨a, vs, rfl, .of ha, by rw [ra.length]; exact q.2, fun p hp => fin_tup h ex S hp ?_⟩
      unfold cutV cutD
      rw [ra.length]
      exact (ra.drop _).take _
  | _ => exact absurd h id
theorem args1 {H0 H : Hp} {G : Gh} {ps : List (D × Kd)} {vs : List V} (h : Rks L H0 G H ps vs) {p : D × Kd} (e : ps = [p]) : ∃ v, vs = [v] ∧ Rk L H0 G H p v := by
  subst e
  cases h with
  | cons h t => cases t; exact ⟨_, rfl, h⟩
theorem args2 {H0 H : Hp} {G : Gh} {ps : List (D × Kd)} {vs : List V} (h : Rks L H0 G H ps vs) {p q : D × Kd} (e : ps = [p, q]) : ∃ v w, vs = [v, w] ∧ Rk L H0 G H p v ∧ Rk L H0 G H q w := by
  subst e
  cases h with
  | cons h t =>
    cases t with
    | cons h2 t => cases t; exact ⟨_, _, rfl, h, h2⟩
theorem bi1 {f : Bi} {ps : List (D × Kd)} (hf : ∀ ps I, (∀ p, ps ≠ [p]) → biD f ps I = .bad) {W : WX} {ro : Bool} {G : Gh} {H : Hp} {σ : L2.St} {fr : Fr} {I : Is} {Q : VK} (h : PR L W ro G H σ fr (biD f ps I) (RkR L H) Q) : ∃ p, ps = [p] := by
  by_cases e : ∃ p, ps = [p]
  · exact e
  · rw [hf ps I fun p z => e ⟨p, z⟩] at h; exact absurd h id
theorem bi2 {f : Bi} {ps : List (D × Kd)} (hf : ∀ ps I, (∀ p q, ps ≠ [p, q]) → biD f ps I = .bad) {W : WX} {ro : Bool} {G : Gh} {H : Hp} {σ : L2.St} {fr : Fr} {I : Is} {Q : VK} (h : PR L W ro G H σ fr (biD f ps I) (RkR L H) Q) : ∃ p q, ps = [p, q] := by
  by_cases e : ∃ p q, ps = [p, q]
  · exact e
  · rw [hf ps I fun p q z => e ⟨p, q, z⟩] at h; exact absurd h id
theorem len_run (hK : X.K = L.K) : CallR X (.builtin "len") (Args L (biD .len)) := by
  intro pins s σ H2 xs us Q J r h
  obtain ⟨W, ro, G, H, σ', fr, ps, I2, G2, ex, S, hx, h⟩ := h
  obtain ⟨⟨d, k⟩, rfl⟩ := bi1 (fun ps I hp => by
    rcases ps with _ | ⟨p, _ | ⟨q, r⟩⟩
    · rfl
    · exact absurd rfl (hp p)
    · obtain ⟨d, k⟩ := p; cases d <;> rfl) h
  obtain ⟨v, rfl, hv⟩ := args1 hx rfl
  cases d with
  | str z =>
    obtain ⟨rfl, hz⟩ := hv.str
    obtain ⟨hl, h⟩ := PR.cond (show PR L W ro G H σ' fr (bif decide (z.length ≤ lim) then .ok (.int z.length, .fro) I2 else .bad) (RkR L H) Q from h)
    exact call_len_str pins s σ H2 _ us Q J r ⟨z, rfl, lim_eq ▸ of_decide_eq_true hl, fin_fro h ex S (.int _)⟩
  | lst ds =>
    obtain ⟨a, vs, rfl, ha, ra⟩ := hv.lst S
    have h : PR L W ro G H σ' fr (.ok (.int ds.length, .fro) I2) (RkR L H) Q := h
    exact call_len_seq pins s σ H2 _ us Q J r ⟨a, vs, rfl, .inl (.of ha), by rw [ra.length]; exact fin_fro h ex S (.int _)⟩
  | tup ds =>
    have h : PR L W ro G H σ' fr (bif decide (k = .cst) then .bad else .ok (.int ds.length, .fro) I2) (RkR L H) Q := h
    by_cases hk : k = .cst
    · rw [decide_eq_true hk] at h; exact absurd h id
    · rw [decide_eq_false hk] at h
      obtain ⟨a, vs, rfl, ha, ra⟩ := hv.tup S hk
      exact call_len_seq pins s σ H2 _ us Q J r ⟨a, vs, rfl, .inr (.of ha), by rw [ra.length]; exact fin_fro h ex S (.int _)⟩
  | scr ns =>
    obtain ⟨a, rfl, ha⟩ := hv.scr S
    have h : PR L W ro G H σ' fr (.ok (.int ns.length, .fro) I2) (RkR L H) Q := h
    exact call_len_seq pins s σ H2 _ us Q J r ⟨a, _, rfl, .inl (hK ▸ ha), by rw [List.length_map]; exact fin_fro h ex S (.int _)⟩
  | dK ks ds =>
    obtain ⟨a, vs, rfl, ha, hl, ra⟩ := hv.dK S
    obtain ⟨u, rfl, ru⟩ := vals1 r
    cases ru
    have h : PR L W ro G H σ' fr (.ok (.int ks.length, .fro) I2) (RkR L H) Q := h
    refine d_len J ha fun t s' I' => ⟨.int _, H2, I', ⟨t, rfl⟩, ?_⟩
    rw [List.length_zip, ← hl, Nat.min_self]
    exact fin_fro h ex S (.int _)
  | _ => exact absurd h id
theorem one_lst {f : Bi} (hf : ∀ ps I, (∀ ds k, ps ≠ [(.lst ds, k)]) → biD f ps I = .bad) {ps : List (D × Kd)} {W : WX} {ro : Bool} {G : Gh} {H : Hp} {σ : L2.St} {fr : Fr} {I : Is} {Q : VK} (h : PR L W ro G H σ fr (biD f ps I) (RkR L H) Q) : ∃ ds k, ps = [(.lst ds, k)] := by
  by_cases e : ∃ ds k, ps = [(.lst ds, k)]
  · exact e
  · rw [hf ps I fun p q z => e ⟨p, q, z⟩] at h; exact absurd h id
theorem all_run (hK : X.K = L.K) (hc : X.calm = true) : CallR X (.builtin "all") (Args L (biD .all)) := by
  intro pins s σ H2 xs us Q J r h
  obtain ⟨W, ro, G, H, σ', fr, ps, I2, G2, ex, S, hx, h⟩ := h
  obtain ⟨ds, k, rfl⟩ := one_lst (fun ps I hp => by
    rcases ps with _ | ⟨⟨d, k⟩, _ | ⟨q, r⟩⟩
    · rfl
    · cases d <;> first | rfl | exact absurd rfl (hp _ _)
    · cases d <;> rfl) h
  obtain ⟨v, rfl, hv⟩ := args1 hx rfl
  obtain ⟨a, vs, rfl, ha, ra⟩ := hv.lst S
  have h : PR L W ro G H σ' fr (match blsD ds with | some bs => .ok (.bl (bs.all id), .fro) I2 | none => .bad) (RkR L H) Q := h
  cases q : blsD ds with
  | none => rw [q] at h; exact absurd h id
  | some bs =>
    rw [q] at h
    have e := ra.blsD q
    subst e
    exact cr_all hc pins s σ H2 _ us Q J r ⟨a, bs, rfl, .of ha, fin_fro h ex S (.bl _)⟩
theorem any_run (hK : X.K = L.K) (hc : X.calm = true) : CallR X (.builtin "any") (Args L (biD .any)) := by
  intro pins s σ H2 xs us Q J r h
  obtain ⟨W, ro, G, H, σ', fr, ps, I2, G2, ex, S, hx, h⟩ := h
  obtain ⟨ds, k, rfl⟩ := one_lst (fun ps I hp => by
    rcases ps with _ | ⟨⟨d, k⟩, _ | ⟨q, r⟩⟩
    · rfl
    · cases d <;> first | rfl | exact absurd rfl (hp _ _)
    · cases d <;> rfl) h
  obtain ⟨v, rfl, hv⟩ := args1 hx rfl
  obtain ⟨a, vs, rfl, ha, ra⟩ := hv.lst S
  have h : PR L W ro G H σ' fr (match blsD ds with | some bs => .ok (.bl (bs.any id), .fro) I2 | none => .bad) (RkR L H) Q := h
  cases q : blsD ds with
  | none => rw [q] at h; exact absurd h id
  | some bs =>
    rw [q] at h
    have e := ra.blsD q
    subst e
    exact cr_any hc pins s σ H2 _ us Q J r ⟨a, bs, rfl, .of ha, fin_fro h ex S (.bl _)⟩
theorem sum_run (hc : X.calm = true) : CallR X (.builtin "sum") (Args L (biD .sum)) := by
  intro pins s σ H2 xs us Q J r h
  obtain ⟨W, ro, G, H, σ', fr, ps, I2, G2, ex, S, hx, h⟩ := h
  obtain ⟨ds, k, rfl⟩ := one_lst (fun ps I hp => by
    rcases ps with _ | ⟨⟨d, k⟩, _ | ⟨q, r⟩⟩
    · rfl
    · cases d <;> first | rfl | exact absurd rfl (hp _ _)
    · cases d <;> rfl) h
  obtain ⟨v, rfl, hv⟩ := args1 hx rfl
  obtain ⟨a, vs, rfl, ha, ra⟩ := hv.lst S
  have h : PR L W ro G H σ' fr (match intsD ds with | some bs => .ok (.int bs.sum, .fro) I2 | none => .bad) (RkR L H) Q := h
  cases q : intsD ds with
  | none => rw [q] at h; exact absurd h id
  | some bs =>
    rw [q] at h
    have e := ra.intsD q
    subst e
    exact cr_sum hc pins s σ H2 _ us Q J r ⟨a, bs, rfl, .of ha, fin_fro h ex S (.int _)⟩
theorem max1_run (hc : X.calm = true) : CallR X (.builtin "max") (Args L (biD .max1)) := by
  intro pins s σ H2 xs us Q J r h
  obtain ⟨W, ro, G, H, σ', fr, ps, I2, G2, ex, S, hx, h⟩ := h
  obtain ⟨ds, k, rfl⟩ := one_lst (fun ps I hp => by
    rcases ps with _ | ⟨⟨d, k⟩, _ | ⟨q, r⟩⟩
    · rfl
    · cases d <;> first | rfl | exact absurd rfl (hp _ _)
    · cases d <;> rfl) h
  obtain ⟨v, rfl, hv⟩ := args1 hx rfl
  obtain ⟨a, vs, rfl, ha, ra⟩ := hv.lst S
  have h : PR L W ro G H σ' fr (match intsD ds with | some (n :: ns) => .ok (.int (maxL (n :: ns)), .fro) I2 | _ => .bad) (RkR L H) Q := h
  cases q : intsD ds with
  | none => rw [q] at h; exact absurd h id
  | some bs =>
    rw [q] at h
    have e := ra.intsD q
    subst e
    cases bs with
    | nil => exact absurd h id
    | cons n ns =>
      refine cr_max hc pins s σ H2 _ us Q J r ⟨a, n :: ns, rfl, .of ha, by simp, fun m hm hle => ?_⟩
      have ⟨m1, m2⟩ := maxL_mem n ns
      have e : m = maxL (n :: ns) := Int.le_antisymm (m2 m hm) (hle _ m1)
      subst e
      exact fin_fro h ex S (.int _)
theorem min1_run (hc : X.calm = true) : CallR X (.builtin "min") (Args L (biD .min1)) := by
  intro pins s σ H2 xs us Q J r h
  obtain ⟨W, ro, G, H, σ', fr, ps, I2, G2, ex, S, hx, h⟩ := h
  obtain ⟨ds, k, rfl⟩ := one_lst (fun ps I hp => by
    rcases ps with _ | ⟨⟨d, k⟩, _ | ⟨q, r⟩⟩
    · rfl
    · cases d <;> first | rfl | exact absurd rfl (hp _ _)
    · cases d <;> rfl) h
  obtain ⟨v, rfl, hv⟩ := args1 hx rfl
  obtain ⟨a, vs, rfl, ha, ra⟩ := hv.lst S
  have h : PR L W ro G H σ' fr (match intsD ds with | some (n :: ns) => .ok (.int (minL (n :: ns)), .fro) I2 | _ => .bad) (RkR L H) Q := h
  cases q : intsD ds with
  | none => rw [q] at h; exact absurd h id
  | some bs =>
    rw [q] at h
    have e := ra.intsD q
    subst e
    cases bs with
    | nil => exact absurd h id
    | cons n ns =>
      refine cr_min hc pins s σ H2 _ us Q J r ⟨a, n :: ns, rfl, .of ha, by simp, fun m hm hle => ?_⟩
      have ⟨m1, m2⟩ := minL_mem n ns
      have e : m = minL (n :: ns) := Int.le_antisymm (hle _ m1) (m2 m hm)
      subst e
      exact fin_fro h ex S (.int _)
theorem two_int {f : Bi} (hf : ∀ ps I, (∀ a b k l, ps ≠ [(.int a, k), (.int b, l)]) → biD f ps I = .bad) {ps : List (D × Kd)} {W : WX} {ro : Bool} {G : Gh} {H : Hp} {σ : L2.St} {fr : Fr} {I : Is} {Q : VK} (h : PR L W ro G H σ fr (biD f ps I) (RkR L H) Q) : ∃ a b k l, ps = [(.int a, k), (.int b, l)] := by
  by_cases e : ∃ a b k l, ps = [(.int a, k), (.int b, l)]
  · exact e
  · rw [hf ps I fun p q k l z => e ⟨p, q, k, l, z⟩] at h; exact absurd h id
theorem max2_run (hc : X.calm = true) : CallR X (.builtin "max") (Args L (biD .max2)) := by
  intro pins s σ H2 xs us Q J r h
  obtain ⟨W, ro, G, H, σ', fr, ps, I2, G2, ex, S, hx, h⟩ := h
  obtain ⟨a, b, k, l, rfl⟩ := two_int (fun ps I hp => by
    rcases ps with _ | ⟨⟨d, k⟩, _ | ⟨⟨e, l⟩, _ | ⟨q, r⟩⟩⟩
    · rfl
    · cases d <;> rfl
    · cases d <;> cases e <;> first | rfl | exact absurd rfl (hp _ _ _ _)
    · cases d <;> cases e <;> rfl) h
  obtain ⟨v, w, rfl, hv, hw⟩ := args2 hx rfl
  rw [hv.int, hw.int] at r
  have h : PR L W ro G H σ' fr (.ok (.int (max a b), .fro) I2) (RkR L H) Q := h
  refine call_max2 hc pins s σ H2 [.int a, .int b] us Q J r ⟨a, b, rfl, ?_⟩
  rw [show (if b > a then b else a) = max a b by split <;> omega]
  exact fin_fro h ex S (.int _)
theorem min2_run (hc : X.calm = true) : CallR X (.builtin "min") (Args L (biD .min2)) := by
  intro pins s σ H2 xs us Q J r h
  obtain ⟨W, ro, G, H, σ', fr, ps, I2, G2, ex, S, hx, h⟩ := h
  obtain ⟨a, b, k, l, rfl⟩ := two_int (fun ps I hp => by
    rcases ps with _ | ⟨⟨d, k⟩, _ | ⟨⟨e, l⟩, _ | ⟨q, r⟩⟩⟩
    · rfl
    · cases d <;> rfl
    · cases d <;> cases e <;> first | rfl | exact absurd rfl (hp _ _ _ _)
    · cases d <;> cases e <;> rfl) h
  obtain ⟨v, w, rfl, hv, hw⟩ := args2 hx rfl
  rw [hv.int, hw.int] at r
  have h : PR L W ro G H σ' fr (.ok (.int (min a b), .fro) I2) (RkR L H) Q := h
  refine call_min2 hc pins s σ H2 [.int a, .int b] us Q J r ⟨a, b, rfl, ?_⟩
  rw [show (if b < a then b else a) = min a b by split <;> omega]
  exact fin_fro h ex S (.int _)
theorem divmod_run : CallR X (.builtin "divmod") (Args L (biD .divmod)) := by
  intro pins s σ H2 xs us Q J r h
  obtain ⟨W, ro, G, H, σ', fr, ps, I2, G2, ex, S, hx, h⟩ := h
  obtain ⟨a, b, k, l, rfl⟩ := two_int (fun ps I hp => by
    rcases ps with _ | ⟨⟨d, k⟩, _ | ⟨⟨e, l⟩, _ | ⟨q, r⟩⟩⟩
    · rfl
    · cases d <;> rfl
    · cases d <;> cases e <;> first | rfl | exact absurd rfl (hp _ _ _ _)
    · cases d <;> cases e <;> rfl) h
  obtain ⟨v, w, rfl, hv, hw⟩ := args2 hx rfl
  rw [hv.int, hw.int] at r
  obtain ⟨hb, h⟩ := PR.cond (show PR L W ro G H σ' fr (bif decide (0 < b) && decide (b < 1000000) then .ok (.tup [.int (a / b), .int (a % b)], .fro) I2 else .bad) (RkR L H) Q from h)
  simp only [Bool.and_eq_true, decide_eq_true_eq] at hb
  have hj : CDiv a b := ⟨hb.1, by omega⟩
  refine call_divmod pins s σ H2 [.int a, .int b] us Q J r ⟨a, b, rfl, hj, fun p hp => ?_⟩
  have nF := S.notF hp
  exact h (.ref p) (G2.put p _) _ ((ex.trans (Ext.new hp)).put (by
    cases z : H p with
    | none => rfl
    | some o => exact absurd (ex.dom p hp) (by rw [z]; simp)) nF) ((S.new hp).freeze (u := .tup [.int (a / b), .int (a % b)]) trivial (.inl upd_same) (S.notFr hp) (S.notIs hp) nF) (.fro (.tup upd_same (.cons (.int _) (.cons (.int _) .nil))))
theorem list_run (hK : X.K = L.K) : CallR X (.type "list") (Args L (biD .list)) := by
  intro pins s σ H2 xs us Q J r h
  obtain ⟨W, ro, G, H, σ', fr, ps, I2, G2, ex, S, hx, h⟩ := h
  obtain ⟨⟨d, k⟩, rfl⟩ := bi1 (fun ps I hp => by
    rcases ps with _ | ⟨p, _ | ⟨q, r⟩⟩
    · rfl
    · exact absurd rfl (hp p)
    · obtain ⟨d, k⟩ := p; cases d <;> rfl) h
  obtain ⟨v, rfl, hv⟩ := args1 hx rfl
  cases d with
  | lst ds =>
    obtain ⟨a, vs, rfl, ha, ra⟩ := hv.lst S
    have h : PR L W ro G H σ' fr (.ok (.lst ds, .new) I2) (RkR L H) Q := h
    exact call_list_of pins s σ H2 _ us Q J r ⟨a, vs, rfl, .inl (.of ha), fun p hp => fin_lst h ex S hp ra⟩
  | tup ds =>
    have h : PR L W ro G H σ' fr (bif decide (k = .cst) then .bad else .ok (.lst ds, .new) I2) (RkR L H) Q := h
    by_cases hk : k = .cst
    · rw [decide_eq_true hk] at h; exact absurd h id
    · rw [decide_eq_false hk] at h
      obtain ⟨a, vs, rfl, ha, ra⟩ := hv.tup S hk
      exact call_list_of pins s σ H2 _ us Q J r ⟨a, vs, rfl, .inr (.of ha), fun p hp => fin_lst h ex S hp ra⟩
  | _ => exact absurd h id
theorem tuple_run (hK : X.K = L.K) : CallR X (.type "tuple") (Args L (biD .tuple)) := by
  intro pins s σ H2 xs us Q J r h
  obtain ⟨W, ro, G, H, σ', fr, ps, I2, G2, ex, S, hx, h⟩ := h
  obtain ⟨⟨d, k⟩, rfl⟩ := bi1 (fun ps I hp => by
    rcases ps with _ | ⟨p, _ | ⟨q, r⟩⟩
    · rfl
    · exact absurd rfl (hp p)
    · obtain ⟨d, k⟩ := p; cases d <;> rfl) h
  obtain ⟨v, rfl, hv⟩ := args1 hx rfl
  cases d with
  | lst ds =>
    obtain ⟨a, vs, rfl, ha, ra⟩ := hv.lst S
    have h : PR L W ro G H σ' fr (.ok (.tup ds, .fro) I2) (RkR L H) Q := h
    exact call_tuple_of pins s σ H2 _ us Q J r ⟨a, vs, rfl, .inl ⟨.of ha, fun p hp => fin_tup h ex S hp ra⟩⟩
  | tup ds =>
    have h : PR L W ro G H σ' fr (bif decide (k = .cst) then .bad else .ok (.tup ds, .fro) I2) (RkR L H) Q := h
    by_cases hk : k = .cst
    · rw [decide_eq_true hk] at h; exact absurd h id
    · rw [decide_eq_false hk] at h
      obtain ⟨a, vs, rfl, ha, ra⟩ := hv.tup S hk
      refine call_tuple_of pins s σ H2 _ us Q J r ⟨a, vs, rfl, .inr ⟨.of ha, fin_fro h ex S ?_⟩⟩
      cases hv with
      | fro hv => exact hv
      | own e | inst e | new e => cases e
      | cst => exact absurd rfl hk
  | _ => exact absurd h id
theorem int_run : CallR X (.type "int") (Args L (biD .int)) := by
  intro pins s σ H2 xs us Q J r h
  obtain ⟨W, ro, G, H, σ', fr, ps, I2, G2, ex, S, hx, h⟩ := h
  obtain ⟨⟨d, k⟩, rfl⟩ := bi1 (fun ps I hp => by
    rcases ps with _ | ⟨p, _ | ⟨q, r⟩⟩
    · rfl
    · exact absurd rfl (hp p)
    · obtain ⟨d, k⟩ := p; cases d <;> rfl) h
  obtain ⟨v, rfl, hv⟩ := args1 hx rfl
  cases d with
  | int i =>
    obtain rfl := hv.int
    have h : PR L W ro G H σ' fr (.ok (.int i, .fro) I2) (RkR L H) Q := h
    exact call_int1 pins s σ H2 _ us Q J r (.inl ⟨i, rfl, fin_fro h ex S (.int _)⟩)
  | bl b =>
    obtain rfl := hv.bl
    have h : PR L W ro G H σ' fr (.ok (.int (bif b then 1 else 0), .fro) I2) (RkR L H) Q := h
    refine call_int1 pins s σ H2 _ us Q J r (.inr ⟨b, rfl, ?_⟩)
    rw [show (if b = true then (1 : Int) else 0) = bif b then 1 else 0 by cases b <;> rfl]
    exact fin_fro h ex S (.int _)
  | _ => exact absurd h id
/-! ### sorted -/
theorem vals_perm {F : Hp} {M : List (Addr × Addr)} {us out : List Value} (p : out.Perm us) : ∀ {vs : List V} {ds : List D}, Vals vs us → RVs F M vs ds → ∃ vs' ds', Vals vs' out ∧ RVs F M vs' ds' ∧ ds'.Perm ds := by
  induction p with
  | nil => intro vs ds r q; cases r; cases q; exact ⟨[], [], .nil, .nil, .refl _⟩
  | cons x _ ih =>
    intro vs ds r q
    cases r with
    | cons r1 r2 =>
      cases q with
      | cons q1 q2 =>
        obtain ⟨vs', ds', h1, h2, h3⟩ := ih r2 q2
        exact ⟨_, _, .cons r1 h1, .cons q1 h2, h3.cons _⟩
  | swap x y l =>
    intro vs ds r q
    cases r with
    | cons r1 r2 =>
      cases r2 with
      | cons r2 r3 =>
        cases q with
        | cons q1 q2 =>
          cases q2 with
          | cons q2 q3 => exact ⟨_, _, .cons r2 (.cons r1 r3), .cons q2 (.cons q1 q3), .swap _ _ _⟩
  | trans _ _ ih1 ih2 =>
    intro vs ds r q
    obtain ⟨v1, d1, h1, h2, h3⟩ := ih2 r q
    obtain ⟨v2, d2, h4, h5, h6⟩ := ih1 h1 h2
    exact ⟨v2, d2, h4, h5, h6.trans h3⟩
theorem intsD_map : ∀ {ds : List D} {ns : List Int}, intsD ds = some ns → ds = ns.map D.int
  | [], _, e => by cases e; rfl
  | d :: r, _, e => by
    cases d <;> simp only [intsD] at e <;> try (cases e; done)
    obtain ⟨ms, hm, rfl⟩ := Option.map_eq_some_iff.mp e
    rw [intsD_map hm]; rfl
theorem strsD_map : ∀ {ds : List D} {ns : List Str}, strsD ds = some ns → ds = ns.map D.str
  | [], _, e => by cases e; rfl
  | d :: r, _, e => by
    cases d <;> simp only [strsD] at e <;> try (cases e; done)
    obtain ⟨ms, hm, rfl⟩ := Option.map_eq_some_iff.mp e
    rw [strsD_map hm]; rfl
theorem strs_rise : ∀ (x : Str) (r : List Str), risingS x r = true → ∀ y ∈ r, D.le (.str x) (.str y) = true
  | _, [], _, y, hy => by simp at hy
  | p, x :: r, h, y, hy => by
    have h : (!ltCps x.cps.toList p.cps.toList && risingS x r) = true := h
    rw [Bool.and_eq_true] at h
    have hl : D.le (.str p) (.str x) = true := by
      rw [le_str]
      have e : ltCps x.cps.toList p.cps.toList = decide (x.cps.toList < p.cps.toList) := ltCps_eq _ _
      rw [← e]; exact h.1
    rcases List.mem_cons.mp hy with e | e
    · exact e ▸ hl
    · exact le_trans hl (strs_rise x r h.2 y e)
theorem strs_pw : ∀ (ss : List Str), sortedS ss = true → (ss.map D.str).Pairwise (fun a b => D.le a b = true)
  | [], _ => .nil
  | x :: r, h => by
    have h : risingS x r = true := h
    refine .cons (fun y hy => ?_) (strs_pw r (by cases r with | nil => rfl | cons z r => exact (Bool.and_eq_true_iff.mp (show (!ltCps z.cps.toList x.cps.toList && risingS z r) = true from h)).2))
    obtain ⟨z, hz, rfl⟩ := List.mem_map.mp hy
    exact strs_rise x r h z hz
theorem key_str {a b : Str} (h : D.key (.str a) = D.key (.str b)) : a = b := by
  obtain ⟨⟨a⟩⟩ := a
  obtain ⟨⟨b⟩⟩ := b
  have h : [Sum.inr a] = ([Sum.inr b] : List Ik) := h
  simp at h
  subst h; rfl
theorem iks_inj : ∀ {xs ys : List D} {k : List Ik}, iksD xs = some k → iksD ys = some k → xs = ys
  | [], [], _, _, _ => rfl
  | [], y :: ys, k, h1, h2 => by
    cases h1
    unfold iksD at h2
    split at h2 <;> cases h2
  | x :: xs, [], k, h1, h2 => by
    cases h2
    unfold iksD at h1
    split at h1 <;> cases h1
  | x :: xs, y :: ys, k, h1, h2 => by
    unfold iksD at h1 h2
    split at h1
    · rename_i k1 ks1 e1 e2
      cases h1
      split at h2
      · rename_i k2 ks2 e3 e4
        injection h2 with h2
        injection h2 with h3 h4
        subst h3 h4
        rw [iks_inj e2 e4]
        have e : x = y := by
          cases x <;> simp only [ikD, Option.some.injEq, reduceCtorEq] at e1 <;> subst e1 <;> cases y <;> simp only [ikD, Option.some.injEq, reduceCtorEq, Sum.inl.injEq, Sum.inr.injEq] at e3
          · rw [e3]
          · rename_i a b
            obtain ⟨⟨a⟩⟩ := a
            obtain ⟨⟨b⟩⟩ := b
            have e3 : b = a := e3
            subst e3; rfl
        rw [e]
      · cases h2
    · cases h1
theorem iksD_some {xs : List D} {b : List Bool} (h : (iksD xs).map (·.map isStr) = some b) : ∃ ks, iksD xs = some ks ∧ ks.map isStr = b := by
  cases q : iksD xs with
  | none => rw [q] at h; cases h
  | some k => rw [q] at h; exact ⟨k, rfl, Option.some.inj h⟩
/-- a tuple of numbers and texts, read as a key -/
theorem tup_items {F : Hp} {M : List (Addr × Addr)} {sh : Nat → Bool} : ∀ {vs : List V} {ds : List D} {us : List Value} {ks : List Ik} (i : Nat), RVs F M vs ds → Vals vs us → iksD ds = some ks → (∀ j, (hj : j < ks.length) → isStr ks[j] = sh (i + j)) →
    tupItems sh i us = some ks
  | _, _, _, _, _, .nil, .nil, h, _ => by cases h; rfl
  | _, _, _, _, i, .cons r rs, .cons q qs, h, hs => by
    unfold iksD at h
    split at h
    · rename_i k ks e1 e2
      cases h
      have h0 := hs 0 (by simp)
      have ht := tup_items (i + 1) rs qs e2 (fun j hj => by
        have := hs (j + 1) (by simpa using hj)
        simpa [Nat.add_assoc, Nat.add_comm 1 j] using this)
      cases r <;> simp only [ikD, reduceCtorEq, Option.some.injEq] at e1
      · subst e1
        obtain ⟨t, rfl⟩ := q
        unfold tupItems
        have h0 : false = sh i := by simpa [isStr] using h0
        rw [if_neg (by rw [← h0]; simp), ht]; rfl
      · subst e1
        obtain ⟨t, rfl⟩ := q
        unfold tupItems
        have h0 : true = sh i := by simpa [isStr] using h0
        rw [if_pos h0.symm, ht]; rfl
    · cases h
theorem shape_some {d : D} {b : List Bool} (h : D.shape d = some b) : ∃ xs ks, d = .tup xs ∧ iksD xs = some ks ∧ ks.map isStr = b := by
  cases d <;> simp only [D.shape, reduceCtorEq] at h
  obtain ⟨ks, h1, h2⟩ := iksD_some h
  exact ⟨_, ks, rfl, h1, h2⟩
theorem shape_at {ks : List Ik} {b : List Bool} (h : ks.map isStr = b) : ∀ j, (hj : j < ks.length) → isStr ks[j] = b.getD j false := fun j hj => by
  subst h
  simp [hj]
theorem key_tup {xs : List D} {ks : List Ik} (h : iksD xs = some ks) : D.key (.tup xs) = ks := by
  show (iksD xs).getD [] = ks
  rw [h]; rfl
/-- a value is a tuple on the heap with its key -/
theorem tup_key1 {G : Gh} {lk : Bool} {c : Cfg} {fr : Fr} {I : Is} {σ' σ : L2.St} {H : Hp} {pins : List (Addr × Obj)} {s : Shared} (J : L2.Inv X pins σ H s) (S : Sx c lk G fr I σ' H) {b0 : Bool} {b : List Bool} {v : V} {d : D} {u : Value} (r : RV G.F G.M v d) (q : RelV v u) (h : D.shape d = some (b0 :: b)) :
    PyProof.Rows.G.tupKeyC s.heap (fun j => (b0 :: b).getD j false) u = some d.key ∧ ∃ f, TupOf s.heap (fun j => (b0 :: b).getD j false) u f := by
  obtain ⟨xs, ks, rfl, hk, hb⟩ := shape_some h
  cases r with
  | tup e r =>
    rename_i ad ws
    cases q
    obtain ⟨_, its, rv, o, ho, hc, n, hd⟩ := J.hok _ _ (S.sub _ _ e).tup
    have ti : tupItems (fun j => (b0 :: b).getD j false) 0 its = some ks := tup_items 0 r rv hk (by simpa using shape_at hb)
    refine ⟨?_, ?_⟩
    · rw [key_tup hk]
      unfold PyProof.Rows.G.tupKeyC
      rw [if_pos (by simp [PyProof.Rows.G.isTupObj, ho, hc])]
      simp only [tupKey, ho, hd]
      exact ti
    · cases ks with
      | nil => cases hb
      | cons k ks =>
        injection hb with hb1 hb2
        cases its with
        | nil => exact absurd ti (by simp [tupItems])
        | cons f its =>
          refine ⟨f, ad, o, (f :: its).toArray, n, rfl, ho, hc, hd, by simp, fun z => ?_, fun z => ?_⟩
          · have z : b0 = false := z
            cases f <;> simp [tupItems, z] at ti
            exact ⟨_, _, rfl⟩
          · have z : b0 = true := z
            cases f <;> simp [tupItems, z] at ti
            exact ⟨_, _, rfl⟩
theorem tups_read {G : Gh} {lk : Bool} {c : Cfg} {fr : Fr} {I : Is} {σ' σ : L2.St} {H : Hp} {pins : List (Addr × Obj)} {s : Shared} (J : L2.Inv X pins σ H s) (S : Sx c lk G fr I σ' H) {b0 : Bool} {b : List Bool} : ∀ {vs : List V} {ds : List D} {us : List Value}, RVs G.F G.M vs ds → Vals vs us → (∀ d ∈ ds, D.shape d = some (b0 :: b)) →
    (∃ fs, TupsOf s.heap (fun j => (b0 :: b).getD j false) us fs) ∧ (∀ u ∈ us, ∃ l, PyProof.Rows.G.tupKeyC s.heap (fun j => (b0 :: b).getD j false) u = some l)
  | _, _, _, .nil, .nil, _ => ⟨⟨[], .nil⟩, fun u hu => by simp at hu⟩
  | v :: vs, d :: ds, u :: us, .cons r rs, .cons q qs, h => by
    obtain ⟨⟨fs, h1⟩, h2⟩ := tups_read J S rs qs fun d hd => h d (List.mem_cons_of_mem _ hd)
    obtain ⟨k1, f, k2⟩ := tup_key1 J S r q (h d List.mem_cons_self)
    exact ⟨⟨f :: fs, .cons k2 h1⟩, fun w hw => (List.mem_cons.mp hw).elim (fun z => z ▸ ⟨_, k1⟩) (h2 w)⟩
theorem sorted_run (hK : X.K = L.K) : CallR X (.builtin "sorted") (Args L (biD .sorted)) := by
  intro pins s σ H2 xs us Q J r h
  obtain ⟨W, ro, G, H, σ', fr, ps, I2, G2, ex, S, hx, h⟩ := h
  obtain ⟨ds, k, rfl⟩ := one_lst (fun ps I hp => by
    rcases ps with _ | ⟨⟨d, k⟩, _ | ⟨q, r⟩⟩
    · rfl
    · cases d <;> first | rfl | exact absurd rfl (hp _ _)
    · cases d <;> rfl) h
  obtain ⟨v, rfl, hv⟩ := args1 hx rfl
  obtain ⟨a, vs, rfl, ha, ra⟩ := hv.lst S
  obtain ⟨hs, h⟩ := PR.cond (show PR L W ro G H σ' fr (bif sortable ds then .ok (.lst (sortD ds), .new) I2 else .bad) (RkR L H) Q from h)
  cases q1 : intsD ds with
  | some ns =>
    have e := ra.intsD q1
    subst e
    refine cr_sortedI pins s σ H2 _ us Q J r ⟨a, ns, rfl, .of ha, fun ns' p hp hr hn => ?_⟩
    have e2 : ns'.map D.int = sortD ds := by
      rw [intsD_map q1]
      refine sortD_eq (hp.map _) (List.pairwise_map.mpr (hr.imp fun {a b} h => by rw [le_int]; exact decide_eq_true h)) fun x hx y hy e => ?_
      obtain ⟨i, _, rfl⟩ := List.mem_map.mp hx
      obtain ⟨j, _, rfl⟩ := List.mem_map.mp hy
      have e : [Sum.inl i] = ([Sum.inl j] : List Ik) := e
      simp at e
      rw [e]
    rw [← e2] at h
    exact fin_lst h ex S hn (.ints _)
  | none =>
    cases q2 : strsD ds with
    | some ss =>
      obtain ⟨its, rv, hl, hz⟩ := J.list (.of ha)
      rw [Vals.ref1 r]
      have e := ra.strsD q2
      have hS : StrsAre its ss := by
        rw [e] at rv
        clear ra e hz hl h hv hx q1 q2 hs r ha
        induction ss generalizing its with
        | nil => cases rv; exact .nil
        | cons x ss ih =>
          cases rv with
          | cons r1 r2 =>
            obtain ⟨t, rfl⟩ := r1
            exact .cons _ _ (ih _ r2)
      refine sorted_strsAny hl.isList hS (by rw [← rv.length]; exact hz) fun out ss' h1 h2 h3 => ?_
      obtain ⟨ep, he'⟩ := PyProof.Rows.sortedAll_at s.heap its out
      have hvo : Vals (ss'.map V.str) out.toList := by
        clear h2 h3
        generalize out.toList = ol at h1
        induction h1 with
        | nil => exact .nil
        | cons x t _ ih => exact .cons ⟨t, rfl⟩ ih
      have hn : H2 (s.heap.objs.size + 1) = none := J.hok.fresh (Nat.le_succ _)
      have e2 : ss'.map D.str = sortD ds := by
        rw [strsD_map q2]
        refine sortD_eq (h2.map _) (strs_pw _ h3) fun x hx y hy e => ?_
        obtain ⟨i, _, rfl⟩ := List.mem_map.mp hx
        obtain ⟨j, _, rfl⟩ := List.mem_map.mp hy
        rw [key_str e]
      have hrv : RVs G2.F G2.M (ss'.map V.str) (sortD ds) := by
        rw [← e2]
        have ok : ∀ z ∈ ss', PyData.strOk z = true := fun z hz => by
          have hm : z ∈ ss := h2.mem_iff.mp hz
          clear h1 h2 h3 hvo e2 hS
          rw [e] at ra
          rw [strsD_map q2] at ra
          clear e q2 h hv hx hs q1 rv ha hl
          clear hz
          induction ss with
          | nil => simp at hm
          | cons x ss ih =>
            cases ra with
            | cons r1 r2 =>
              rcases List.mem_cons.mp hm with e | e
              · subst e; cases r1; assumption
              · exact ih r2 e
        clear e2 h1 h2 h3 hvo
        induction ss' with
        | nil => exact .nil
        | cons z ss' ih => exact .cons (.str z (ok z List.mem_cons_self)) (ih fun w hw => ok w (List.mem_cons_of_mem _ hw))
      refine ⟨.ref _, upd H2 (s.heap.objs.size + 1) (.lst (ss'.map V.str)), J.laid (t' := s.toks) (fun _ _ => PyProof.Rows.sortedAll_old) (Nat.le_succ _) ⟨?_, out.toList, ep, hvo, by simpa using he'⟩, rfl, fin_lst h ex S hn hrv⟩
      rw [List.length_map, h2.length_eq, ← List.length_map (f := V.str), ← e]; exact hz
    | none =>
      have hs : sortT ds = true := by
        unfold sortable at hs
        rw [q1, q2] at hs
        exact hs
      have hsh : ∃ b0 b, ∀ d ∈ ds, D.shape d = some (b0 :: b) := by
        cases ds with
        | nil => cases hs
        | cons d ds' =>
          have hs : ((match D.shape d with | some (_ :: _) => true | _ => false) && ds'.all fun e => decide (D.shape e = D.shape d)) = true := hs
          rw [Bool.and_eq_true] at hs
          obtain ⟨s1, s2⟩ := hs
          split at s1
          · rename_i b0 b e1
            refine ⟨b0, b, fun d hd => ?_⟩
            rcases List.mem_cons.mp hd with e | e
            · rw [e, e1]
            · rw [of_decide_eq_true (List.all_eq_true.mp s2 d e), e1]
          · cases s1
      obtain ⟨b0, b, hsh⟩ := hsh
      obtain ⟨its, rv, hl, hz⟩ := J.list (.of ha)
      rw [Vals.ref1 r]
      obtain ⟨⟨fs, t1⟩, t2⟩ := tups_read J S ra rv hsh
      refine PyProof.Rows.G.sorted_tups hl.isList t1 t2 (by rw [← rv.length]; exact hz) fun st' hp hso _ => ?_
      obtain ⟨ep, he'⟩ := PyProof.Rows.sortedAll_at s.heap its ((arrOf st').map (·.2))
      have hpv : (((arrOf st').map (·.2)).toList).Perm its := by
        have q := (Array.perm_iff_toList_perm.mp hp).map (fun p : Keyed => p.2)
        rw [pairsOf_toList, List.map_snd_zip (Nat.le_refl _)] at q
        rw [Array.toList_map]
        exact q
      obtain ⟨vs', ds', w1, w2, w3⟩ := vals_perm hpv rv ra
      have hn : H2 (s.heap.objs.size + 1) = none := J.hok.fresh (Nat.le_succ _)
      have e2 : ds' = sortD ds := by
        refine sortD_eq w3 ?_ fun x hx y hy e => ?_
        · rw [List.pairwise_iff_getElem]
          intro i j hi hj hij
          have len : ds'.length = (arrOf st').size := by rw [← w2.length, w1.length, Array.length_toList, Array.size_map]
          have at_ : ∀ i, (hi : i < ds'.length) → KK (PyProof.Rows.G.tupKindC s.heap (fun j => (b0 :: b).getD j false)) (arrOf st') i = ds'[i].key := fun i hi => by
            have hi2 : i < (arrOf st').size := len ▸ hi
            obtain ⟨v, hv1, hv2⟩ := w2.get (i := i) (d := ds'[i]) (by simp [hi])
            obtain ⟨u, hu1, hu2⟩ := w1.get hv1
            have hu1 : u = (arrOf st')[i].2 := by
              rw [Array.getElem?_toList] at hu1
              simpa [hi2] using hu1.symm
            have hm : (arrOf st')[i] ∈ (pairsOf its).toList := (Array.perm_iff_toList_perm.mp hp).mem_iff.mp (by simp)
            rw [pairsOf_toList] at hm
            obtain ⟨e, _⟩ := mem_zip_self hm
            unfold KK
            rw [Array.getElem?_eq_getElem hi2]
            have hk := (tup_key1 J S hv2 hu2 (hsh _ (w3.mem_iff.mp (List.getElem_mem hi)))).1
            show ((PyProof.Rows.G.tupKeyC s.heap _ (arrOf st')[i].1).getD _) = _
            rw [e, ← hu1, hk]; rfl
          have sz : (pairsOf its).size = (arrOf st').size := ((Array.perm_iff_toList_perm.mp hp).length_eq).symm
          have q := hso i j (by omega) (by rw [sz, ← len]; exact hj)
          rw [at_ i hi, at_ j hj] at q
          have q : ltK ds'[j].key ds'[i].key = false := q
          unfold D.le
          rw [q]; rfl
        · obtain ⟨xs1, k1, rfl, h1, _⟩ := shape_some (hsh x hx)
          obtain ⟨xs2, k2, rfl, h2, _⟩ := shape_some (hsh y hy)
          rw [key_tup h1, key_tup h2] at e
          subst e
          rw [iks_inj h1 h2]
      rw [← e2] at h
      refine ⟨.ref _, upd H2 (s.heap.objs.size + 1) (.lst vs'), J.laid (t' := s.toks) (fun _ _ => PyProof.Rows.sortedAll_old) (Nat.le_succ _) ⟨?_, _, ep, w1, by rw [Array.toArray_toList]; exact he'⟩, rfl, fin_lst h ex S hn w2⟩
      rw [w1.length, hpv.length_eq, ← rv.length]; exact hz
end
end Air
/-! Air: a term is what a written expression says. -/
namespace Air
open PySem PySem.Spec PyProof.Rows L2
def visB (sc : Scope) (x : Str) : Bool := match sc.names.lookup x with
  | some .local => true
  | some .cell => true
  | some .free => true
  | _ => false
def locB (sc : Scope) (x : Str) : Bool := match sc.names.lookup x with
  | some .local => true
  | some .cell => true
  | _ => false
def glB (sc : Scope) (x : Str) : Bool := match sc.names.lookup x with
  | some .globalImplicit => !(x == ("__debug__" : Str))
  | _ => false
def cstB : Cs → PySem.Const → Bool
  | .non, .none => true
  | .bl b, .bool c => b == c
  | .int i, .int j => decide (i = j)
  | .str z, .str y => decide (z = y) && PyData.strOk z
  | _, _ => false
def notStar : Expr → Bool
  | .Starred _ _ => false
  | _ => true
def notSlc : Expr → Bool
  | .Slice _ _ _ _ => false
  | _ => true
def notSet : Expr → Bool
  | .Set _ _ _ => false
  | _ => true
def Bi.nm : Bi → Str
  | .len => "len" | .all => "all" | .any => "any" | .sorted => "sorted" | .list => "list" | .tuple => "tuple" | .min1 => "min" | .max1 => "max" | .min2 => "min" | .max2 => "max" | .minD => "min" | .int => "int" | .str => "str" | .divmod => "divmod" | .dict => "dict" | .sum => "sum" | .sset => "sorted"
/-- a name may be stored -/
def stoB (fb : Str → Bool) (sc : Scope) (x : Str) : Bool := match sc.names.lookup x with
  | some .local => true
  | some .cell => fb x
  | _ => false
def tgB (fb : Str → Bool) (sc : Scope) (N : List Str) : Tg → Expr → Bool
  | .nm i, .Name x _ => decide (N[i]? = some x) && stoB fb sc x
  | .tp is, .Tuple es _ _ => decide (is.length = es.length) && (is.zip es).all fun p => match p.2 with
    | .Name x _ => decide (N[p.1]? = some x) && stoB fb sc x
    | _ => false
  | _, _ => false
def Tg.ix : Tg → List Nat
  | .nm i => [i]
  | .tp is => is
def celB (sc : Scope) (x : Str) : Bool := sc.names.lookup x == some .cell
def isB (sc : Scope) : List Str → Expr → Bool
  | [k], .Name x _ => decide (x = k) && glB sc x && (decide (k = "int") || decide (k = "bool") || decide (k = "str") || decide (k = "tuple") || decide (k = "list"))
  | _, _ => false
/-- no lambda within -/
def knO (kn : Str → Option (Nat × Nat)) : Str → Option (Nat × Nat) := fun x => if x = "<lambda>" then none else kn x
def argsB (a : Arguments) : Bool := match a with
  | ⟨[], [], none, [], [], none, []⟩ => true
  | _ => false
/-- set(e2), alone -/
def ssB (e : Expr) (xs : List Expr) (k : Str → Expr → Bool) : Bool := match e, xs with
  | .Call (.Name y _) [e2] [] _, [] => k y e2
  | _, _ => false
mutual
def chk (kn : Str → Option (Nat × Nat)) : Tm → Scope → List Str → Expr → Bool
  | .cns c, _, _, .Constant k _ _ => cstB c k
  | .loc i, sc, N, .Name x _ => decide (N[i]? = some x) && visB sc x && !(x == ("__debug__" : Str)) && !(x == ("__classdict__" : Str))
  | .gk y, sc, _, .Name x _ => decide (x = y) && glB sc x && decide (kn y = some (0, 1))
  | .bin o a b, sc, N, .BinOp x p y _ => decide (p = o.op) && chk kn a sc N x && chk kn b sc N y
  | .neg a, sc, N, .UnaryOp .USub x _ => chk kn a sc N x
  | .cmp o a b, sc, N, .Compare x [p] [y] _ => decide (p = o.op) && chk kn a sc N x && chk kn b sc N y && notSet y
  | .isn ng a, sc, N, .Compare x [p] [.Constant .none _ _] _ => decide (p = if ng then .IsNot else .Is) && chk kn a sc N x
  | .isb ng k a, sc, N, .Compare x [p] [.Constant (.bool c) _ _] _ => decide (p = if ng then .IsNot else .Is) && decide (c = k) && chk kn a sc N x
  | .ch2 o1 o2 a b c, sc, N, .Compare x [p, q] [y, z] _ => decide (p = o1.op) && decide (q = o2.op) && chk kn a sc N x && chk kn b sc N y && chk kn c sc N z && notSet z
  | .ch3 o1 o2 o3 a b c d, sc, N, .Compare x [p, q, r] [y, z, u] _ => decide (p = o1.op) && decide (q = o2.op) && decide (r = o3.op) && chk kn a sc N x && chk kn b sc N y && chk kn c sc N z && chk kn d sc N u && notSet u
  | .and a b, sc, N, .BoolOp .And (x :: y :: r) pos => chk kn a sc N x && (match r with
    | [] => chk kn b sc N y
    | _ :: _ => chk kn b sc N (.BoolOp .And (y :: r) pos))
  | .or a b, sc, N, .BoolOp .Or (x :: y :: r) pos => chk kn a sc N x && (match r with
    | [] => chk kn b sc N y
    | _ :: _ => chk kn b sc N (.BoolOp .Or (y :: r) pos))
  | .not a, sc, N, .UnaryOp .Not x _ => chk kn a sc N x
  | .ite c a b, sc, N, .IfExp x y z _ => chk kn c sc N x && chk kn a sc N y && chk kn b sc N z
  | .tup es, sc, N, .Tuple xs _ _ => chkK kn es sc N xs
  | .lst es, sc, N, .List xs _ => chkK kn es sc N xs
  | .sub a i, sc, N, .Subscript x y _ => chk kn a sc N x && chk kn i sc N y && notSlc y
  | .slc a lo hi, sc, N, .Subscript x (.Slice l h none _) _ => chk kn a sc N x && chkP kn lo sc N l && chkP kn hi sc N h
  | .rev a, sc, N, .Subscript x (.Slice none none (some (.UnaryOp .USub (.Constant (.int 1) _ _) _)) _) _ => chk kn a sc N x
  | .call f es, sc, N, .Call (.Name x _) (e :: xs) [] _ => decide (x = f) && glB sc x && chkK kn es sc N (e :: xs) && (match kn f with
    | some (np, nd) => decide (xs.length + 1 ≤ np) && decide (np ≤ xs.length + 1 + nd) && decide (nd ≤ np)
    | none => false)
  | .blt f es, sc, N, .Call (.Name x _) (e :: xs) [] _ => (decide (x = f.nm) && glB sc x && chkK kn es sc N (e :: xs) && !(decide (f = .minD) || decide (f = .sset) || decide (f = .str) || decide (f = .dict))) || (decide (f = .sset) && decide (x = "sorted") && glB sc x && ssB e xs (fun y e2 => decide (y = "set") && glB sc y && chkK kn es sc N [e2]))
  | .blt .minD es, sc, N, .Call (.Name x _) [e] [⟨some k, v, _⟩] _ => decide (x = "min") && glB sc x && decide (k = "default") && chkK kn es sc N [e, v]
  | .isi a ks, sc, N, .Call (.Name x _) [e, t] [] _ => decide (x = "isinstance") && glB sc x && chk kn a sc N e && isB sc ks t && notStar e
  | .lc own elt tg it cond, sc, N, .ListComp e [⟨t, i, ifs, 0⟩] scope _ => blkC N sc scope own && chkI kn it sc N t i && tgB (celB scope) (relS scope sc) N tg t && tg.ix.all (fun i => decide (i ∈ own.map (·.2))) && chkC (knO kn) cond (relS scope sc) N ifs && chk (knO kn) elt (relS scope sc) N e && notSet i
  | .told t, sc, N, .Call (.Name x _) [.Lambda ar body scope _] [] _ => decide (x = "_law_told") && glB sc x && decide (kn "<lambda>" = some (0, 2)) && decide (kn "_law_told" = some (0, 2)) && argsB ar && LamX.lamSB sc scope && chk (knO kn) t scope N body
  | _, _, _, _ => false
def chkK (kn : Str → Option (Nat × Nat)) : Tm → Scope → List Str → List Expr → Bool
  | .nil, _, _, [] => true
  | .cons a b, sc, N, x :: xs => chk kn a sc N x && notStar x && chkK kn b sc N xs
  | _, _, _, _ => false
def chkP (kn : Str → Option (Nat × Nat)) : Tm → Scope → List Str → Option Expr → Bool
  | .nil, _, _, none => true
  | .cons a .nil, sc, N, some x => chk kn a sc N x
  | _, _, _, _ => false
def chkC (kn : Str → Option (Nat × Nat)) : Tm → Scope → List Str → List Expr → Bool
  | .nil, _, _, [] => true
  | .cons a .nil, sc, N, [x] => chk kn a sc N x
  | _, _, _, _ => false
def chkI (kn : Str → Option (Nat × Nat)) : Tm → Scope → List Str → Expr → Expr → Bool
  | .rng1 a, sc, N, _, .Call (.Name x _) [e] [] _ => decide (x = "range") && glB sc x && chk kn a sc N e && notStar e
  | .rng2 a b, sc, N, _, .Call (.Name x _) [e, f] [] _ => decide (x = "range") && glB sc x && chk kn a sc N e && notStar e && chk kn b sc N f && notStar f
  | .enm a, sc, N, .Tuple _ _ _, .Call (.Name x _) [e] [] _ => decide (x = "enumerate") && glB sc x && chk kn a sc N e && notStar e
  | .zp a b, sc, N, .Tuple _ _ _, .Call (.Name x _) [e, f] [] _ => decide (x = "zip") && glB sc x && chk kn a sc N e && notStar e && chk kn b sc N f && notStar f
  | .cons a .nil, sc, N, _, i => chk kn a sc N i
  | _, _, _, _, _ => false
end
end Air
/-! Air: a term's run (1): what the parts say. -/
namespace Air
open PySem PySem.Spec PyProof.Rows L2
/-! ### in ro mode the table stays -/
section
variable {cn : Str → Option D} {cf : Str → Bool → List D → Is → R Sl}
theorem keeps_bind {α β : Type} {r : R α} {f : α → Is → R β} {I : Is} (h : r.keeps I) (hf : ∀ a, (f a I).keeps I) : (r.bind f).keeps I := by
  cases r with
  | ok a I' => obtain rfl : I' = I := h; exact hf a
  | exc x I' => exact h
  | bad => trivial
theorem keeps_cond {α : Type} {b : Bool} {x y : R α} {I : Is} (hx : x.keeps I) (hy : y.keeps I) : (bif b then x else y).keeps I := by cases b <;> assumption
theorem keeps_binD (o : Bo) (a b : D) (I : Is) : (binD o a b I).keeps I := by
  cases o <;> cases a <;> cases b <;> first | trivial | rfl | exact keeps_cond rfl trivial
theorem keeps_b2 (b : Bool) (I : Is) : (b2 b I).keeps I := rfl
theorem keeps_cmpD (o : Co) (a b : D) (I : Is) : (cmpD o a b I).keeps I := by
  cases o
  case eq => exact keeps_cond rfl trivial
  case ne => exact keeps_cond rfl trivial
  case inn => show R.keeps (match inDD a b with | some k => b2 k I | none => .bad) I; split <;> first | trivial | rfl
  case nin => show R.keeps (match inDD a b with | some k => b2 (!k) I | none => .bad) I; split <;> first | trivial | rfl
  all_goals cases a <;> cases b <;> first | trivial | rfl
theorem keeps_subD (a i : D) (k : Kd) (I : Is) : (subD a i k I).keeps I := by
  cases a <;> cases i <;> first | trivial | skip
  · exact keeps_cond (by split <;> first | trivial | rfl) trivial
  · show R.keeps (match L2.atI _ _ with | some d => bif decide (k = .cst) then .bad else .ok ((d : D), Kd.fro) I | none => .bad) I
    split
    · exact keeps_cond trivial rfl
    · trivial
  · show R.keeps (match L2.atI _ _ with | some d => .ok ((d : D), Kd.fro) I | none => .bad) I
    split <;> first | trivial | rfl
  · show R.keeps (match L2.atI _ _ with | some d => .ok (D.int d, Kd.fro) I | none => .bad) I
    split <;> first | trivial | rfl
theorem keeps_slcD (a : D) (k : Kd) (lo hi : Option Int) (I : Is) : (slcD a k lo hi I).keeps I := by
  cases a <;> first | trivial | rfl | exact keeps_cond rfl trivial | exact keeps_cond trivial rfl
theorem keeps_biD (f : Bi) (as : List (D × Kd)) (I : Is) : (biD f as I).keeps I := by
  unfold biD
  split <;> first | trivial | rfl | exact keeps_cond rfl trivial | exact keeps_cond trivial rfl | (split <;> first | trivial | rfl | exact keeps_cond rfl trivial)
theorem keeps_reset {α : Type} (r : R α) (I : Is) : (r.reset I).keeps I := by cases r <;> first | trivial | rfl
theorem keeps_quiet {α : Type} {r : R α} {I : Is} (h : r.keeps I) : r.quiet.keeps I := by cases r <;> first | trivial | exact h
theorem keeps_callD (x : Str) (as : List (D × Kd)) (I : Is) : (callD cf x true as I).keeps I := by
  unfold callD
  split
  · exact keeps_bind (keeps_reset _ _) fun a => by split <;> first | trivial | rfl
  · refine keeps_cond trivial (keeps_bind (keeps_quiet (keeps_reset _ _)) fun a => ?_)
    split
    · exact keeps_cond rfl trivial
    · trivial
theorem keeps_lcL {step : Fr → Is → R (Option D)} {tg : Tg} {fr : Fr} {I : Is} (h : ∀ fr, (step fr I).keeps I) : ∀ xs, (lcL step tg fr xs I).keeps I
  | [] => rfl
  | x :: xs => by
    unfold lcL
    split
    · trivial
    · exact keeps_bind (h _) fun o => keeps_bind (keeps_lcL h xs) fun ys => rfl
theorem keeps_ok {α : Type} (a : α) (I : Is) : (R.ok a I).keeps I := rfl
theorem keeps_tell {r : R (D × Kd)} {I : Is} (h : r.keeps I) : (tellR r).keeps I := by
  cases r with
  | ok p I' => exact h
  | exc x I' =>
    obtain rfl : I' = I := h
    exact keeps_cond rfl trivial
  | bad => trivial
theorem ev_keeps : ∀ t : Tm, (∀ fr I, (ev cn cf t true fr I).keeps I) ∧ (∀ fr I, (evK cn cf t true fr I).keeps I) ∧ (∀ fr I, (evP cn cf t true fr I).keeps I) ∧ (∀ fr I, (evC cn cf t true fr I).keeps I) ∧ (∀ fr I, (evI cn cf t true fr I).keeps I) := by
  have tst : ∀ {β : Type} {r : R (D × Kd)} {f : Bool → Is → R β} {I : Is}, r.keeps I → (∀ b, (f b I).keeps I) → (r.tst f).keeps I := fun h hf => keeps_bind h fun p => by
    split <;> first | trivial | exact hf _
  have fz : ∀ {β : Type} {r : R (D × Kd)} {f : D → Is → R β} {I : Is}, r.keeps I → (∀ b, (f b I).keeps I) → (r.fz f).keeps I := fun h hf => keeps_bind h fun p => by
    split <;> first | trivial | exact hf _
  intro t
  induction t with
  | cns c => exact ⟨fun _ _ => rfl, fun _ _ => trivial, fun _ _ => trivial, fun _ _ => trivial, fun _ _ => trivial⟩
  | loc i => exact ⟨fun fr I => by simp only [ev]; split <;> first | trivial | rfl, fun _ _ => trivial, fun _ _ => trivial, fun _ _ => trivial, fun _ _ => trivial⟩
  | gk x => exact ⟨fun fr I => by simp only [ev]; split <;> first | trivial | rfl, fun _ _ => trivial, fun _ _ => trivial, fun _ _ => trivial, fun _ _ => trivial⟩
  | nil => exact ⟨fun _ _ => trivial, fun _ _ => rfl, fun _ _ => rfl, fun _ _ => rfl, fun _ _ => trivial⟩
  | cons a b iha ihb =>
    refine ⟨fun _ _ => trivial, fun fr I => ?_, fun fr I => ?_, fun fr I => ?_, fun fr I => ?_⟩
    · simp only [evK]; exact keeps_bind (iha.1 _ _) fun p => keeps_bind (by simpa using ihb.2.1 _ _) fun _ => rfl
    · cases b <;> first | trivial | skip
      simp only [evP]; exact keeps_bind (iha.1 _ _) fun p => by split <;> first | trivial | rfl
    · cases b <;> first | trivial | skip
      simp only [evC]; exact tst (iha.1 _ _) fun _ => rfl
    · cases b <;> first | trivial | skip
      simp only [evI]; exact keeps_bind (iha.1 _ _) fun p => by split <;> first | trivial | rfl
  | bin o a b iha ihb => exact ⟨fun fr I => by simp only [ev]; exact keeps_bind (iha.1 _ _) fun p => keeps_bind (by simpa using ihb.1 _ _) fun _ => keeps_binD _ _ _ _, fun _ _ => trivial, fun _ _ => trivial, fun _ _ => trivial, fun _ _ => trivial⟩
  | neg a iha => exact ⟨fun fr I => by simp only [ev]; exact keeps_bind (iha.1 _ _) fun p => by split <;> first | trivial | rfl, fun _ _ => trivial, fun _ _ => trivial, fun _ _ => trivial, fun _ _ => trivial⟩
  | cmp o a b iha ihb => exact ⟨fun fr I => by simp only [ev]; exact keeps_bind (iha.1 _ _) fun p => keeps_bind (by simpa using ihb.1 _ _) fun _ => keeps_cmpD _ _ _ _, fun _ _ => trivial, fun _ _ => trivial, fun _ _ => trivial, fun _ _ => trivial⟩
  | isn ng a iha => exact ⟨fun fr I => by simp only [ev]; exact keeps_bind (iha.1 _ _) fun p => by split <;> rfl, fun _ _ => trivial, fun _ _ => trivial, fun _ _ => trivial, fun _ _ => trivial⟩
  | isb ng k a iha => exact ⟨fun fr I => by simp only [ev]; exact keeps_bind (iha.1 _ _) fun p => by split <;> first | trivial | rfl, fun _ _ => trivial, fun _ _ => trivial, fun _ _ => trivial, fun _ _ => trivial⟩
  | ch2 o1 o2 a b c iha ihb ihc =>
    refine ⟨fun fr I => ?_, fun _ _ => trivial, fun _ _ => trivial, fun _ _ => trivial, fun _ _ => trivial⟩
    simp only [ev, Bool.true_or]
    exact keeps_bind (iha.1 _ _) fun p => keeps_bind (ihb.1 _ _) fun q => tst (keeps_cmpD _ _ _ _) fun t => keeps_cond (keeps_bind (ihc.1 _ _) fun _ => keeps_cmpD _ _ _ _) rfl
  | ch3 o1 o2 o3 a b c d iha ihb ihc ihd =>
    refine ⟨fun fr I => ?_, fun _ _ => trivial, fun _ _ => trivial, fun _ _ => trivial, fun _ _ => trivial⟩
    simp only [ev, Bool.true_or]
    exact keeps_bind (iha.1 _ _) fun p => keeps_bind (ihb.1 _ _) fun q => tst (keeps_cmpD _ _ _ _) fun t => keeps_cond (keeps_bind (ihc.1 _ _) fun _ => tst (keeps_cmpD _ _ _ _) fun t => keeps_cond (keeps_bind (ihd.1 _ _) fun _ => keeps_cmpD _ _ _ _) rfl) rfl
  | and a b iha ihb => exact ⟨fun fr I => by simp only [ev]; exact tst (iha.1 _ _) fun t => keeps_cond (tst (ihb.1 _ _) fun _ => rfl) rfl, fun _ _ => trivial, fun _ _ => trivial, fun _ _ => trivial, fun _ _ => trivial⟩
  | or a b iha ihb => exact ⟨fun fr I => by simp only [ev]; exact tst (iha.1 _ _) fun t => keeps_cond rfl (tst (ihb.1 _ _) fun _ => rfl), fun _ _ => trivial, fun _ _ => trivial, fun _ _ => trivial, fun _ _ => trivial⟩
  | not a iha => exact ⟨fun fr I => by simp only [ev]; exact tst (iha.1 _ _) fun t => rfl, fun _ _ => trivial, fun _ _ => trivial, fun _ _ => trivial, fun _ _ => trivial⟩
  | ite c a b ihc iha ihb => exact ⟨fun fr I => by simp only [ev]; exact tst (ihc.1 _ _) fun t => keeps_cond (iha.1 _ _) (ihb.1 _ _), fun _ _ => trivial, fun _ _ => trivial, fun _ _ => trivial, fun _ _ => trivial⟩
  | tup es ih => exact ⟨fun fr I => by simp only [ev]; exact keeps_bind (ih.2.1 _ _) fun p => by (split; exact keeps_cond rfl trivial; trivial), fun _ _ => trivial, fun _ _ => trivial, fun _ _ => trivial, fun _ _ => trivial⟩
  | told e ih => exact ⟨fun fr I => by simp only [ev]; exact keeps_tell (ih.1 _ _), fun _ _ => trivial, fun _ _ => trivial, fun _ _ => trivial, fun _ _ => trivial⟩
  | lst es ih => exact ⟨fun fr I => by simp only [ev]; exact keeps_bind (ih.2.1 _ _) fun p => by (split; exact keeps_cond rfl trivial; trivial), fun _ _ => trivial, fun _ _ => trivial, fun _ _ => trivial, fun _ _ => trivial⟩
  | sub a i iha ihb => exact ⟨fun fr I => by simp only [ev]; exact keeps_bind (iha.1 _ _) fun p => keeps_bind (by simpa using ihb.1 _ _) fun _ => keeps_subD _ _ _ _, fun _ _ => trivial, fun _ _ => trivial, fun _ _ => trivial, fun _ _ => trivial⟩
  | slc a lo hi iha ihl ihh => exact ⟨fun fr I => by simp only [ev, Bool.true_or]; exact keeps_bind (iha.1 _ _) fun p => keeps_bind (ihl.2.2.1 _ _) fun _ => keeps_bind (ihh.2.2.1 _ _) fun _ => keeps_slcD _ _ _ _ _, fun _ _ => trivial, fun _ _ => trivial, fun _ _ => trivial, fun _ _ => trivial⟩
  | rev a iha => exact ⟨fun fr I => by simp only [ev]; exact keeps_bind (iha.1 _ _) fun p => by split <;> first | trivial | rfl, fun _ _ => trivial, fun _ _ => trivial, fun _ _ => trivial, fun _ _ => trivial⟩
  | call x es ih => exact ⟨fun fr I => by simp only [ev]; exact keeps_bind (ih.2.1 _ _) fun p => keeps_callD _ _ _, fun _ _ => trivial, fun _ _ => trivial, fun _ _ => trivial, fun _ _ => trivial⟩
  | blt f es ih => exact ⟨fun fr I => by simp only [ev]; exact keeps_bind (ih.2.1 _ _) fun p => keeps_biD _ _ _, fun _ _ => trivial, fun _ _ => trivial, fun _ _ => trivial, fun _ _ => trivial⟩
  | isi a ks iha =>
    refine ⟨fun fr I => ?_, fun _ _ => trivial, fun _ _ => trivial, fun _ _ => trivial, fun _ _ => trivial⟩
    simp only [ev]
    refine keeps_bind (iha.1 _ _) fun p => ?_
    split
    · split <;> first | trivial | rfl
    · trivial
  | lc own elt tg it cond ihe ihi ihc =>
    refine ⟨fun fr I => ?_, fun _ _ => trivial, fun _ _ => trivial, fun _ _ => trivial, fun _ _ => trivial⟩
    simp only [ev, Bool.true_or]
    exact keeps_bind (ihi.2.2.2.2 _ _) fun p => keeps_bind (keeps_quiet (keeps_lcL (fun fr => keeps_bind (ihc.2.2.2.1 _ _) fun t => keeps_cond (fz (ihe.1 _ _) fun _ => keeps_ok _ _) (keeps_ok _ _)) _)) fun _ => keeps_cond rfl trivial
  | rng1 a iha => exact ⟨fun _ _ => trivial, fun _ _ => trivial, fun _ _ => trivial, fun _ _ => trivial, fun fr I => by simp only [evI]; exact keeps_bind (iha.1 _ _) fun p => by (split; exact keeps_cond rfl trivial; trivial)⟩
  | rng2 a b iha ihb => exact ⟨fun _ _ => trivial, fun _ _ => trivial, fun _ _ => trivial, fun _ _ => trivial, fun fr I => by simp only [evI, Bool.true_or]; exact keeps_bind (iha.1 _ _) fun p => keeps_bind (ihb.1 _ _) fun q => by (split; exact keeps_cond rfl trivial; trivial)⟩
  | enm a iha => exact ⟨fun _ _ => trivial, fun _ _ => trivial, fun _ _ => trivial, fun _ _ => trivial, fun fr I => by simp only [evI]; exact keeps_bind (iha.1 _ _) fun p => by split <;> first | trivial | rfl⟩
  | zp a b iha ihb => exact ⟨fun _ _ => trivial, fun _ _ => trivial, fun _ _ => trivial, fun _ _ => trivial, fun fr I => by simp only [evI, Bool.true_or]; exact keeps_bind (iha.1 _ _) fun p => keeps_bind (ihb.1 _ _) fun q => by split <;> first | trivial | (split <;> first | trivial | rfl)⟩
end
end Air
/-! Air: a term's run (2): the wishes, calls, walks. -/
namespace Air
open PySem PySem.Spec PyProof.Rows L2
variable [Kf]
abbrev St := L2.St
/-- what a def promises -/
def spF (L : Lg) (n : Nat) (g : Bool → List D → Is → R Sl) : Sp := fun vs H Q E => vs.length = n ∧ ∃ ro G I ds, G.aF = [] ∧ Sx L.c ro G [] I [] H ∧ RVs G.F G.M vs ds ∧
  match g ro ds I with
  | .ok s I' => ∀ v G' H', Ext ro G H G' H' → Sx L.c ro G' [] (bif ro then I else I') [] H' → (∀ p, s.out = some p → Rk L H G' H' p v) → Q v H'
  | .exc x I' => ∀ cls d G' H', Ext ro G H G' H' → Sx L.c ro G' [] (bif ro then I else I') [] H' → XR L G' H' x cls d → E cls d H'
  | .bad => False
/-- a def as its callers know it -/
structure FnR (L : Lg) (P : Program) (w : World) (base : Heap) (k : Nat) (x : Str) (f : Addr) (fd : FuncData) (ps : List Str) (dvs : List V) (dfl : List D) (g : Bool → List D → Is → R Sl) : Prop where
  at_ : L.mg x = some (.ref f)
  kp : PySem.W.keepIn L.K (.ref f) = true
  ok : FnOk P w L.K L.mg base (L2N.CX P w) k f fd ps (spF L ps.length g)
  dv : RVs (fun _ => none) [] dvs dfl
  dl : dfl.length ≤ ps.length
  bd : ∀ m, m ≤ dvs.length → ∃ ds, Binds L.K fd ps ds ∧ Vals (dvs.drop (dvs.length - m)) ds
  cf : ∀ ro as I, L.cf x ro as I = if as.length ≤ ps.length ∧ ps.length ≤ as.length + dfl.length then g ro (as ++ dfl.drop (as.length + dfl.length - ps.length)) I else .bad
section
variable {L : Lg} {H : Hp}
theorem spF_lg {L' : Lg} {np : Nat} {g : Bool → List D → Is → R Sl} {vs : List V} {Q : VK} {E : XK} (hc : L'.c = L.c) (hm : L'.mg = L.mg) (h : spF L np g vs H Q E) : spF L' np g vs H Q E := by
  obtain ⟨cn', kn', cf', c', mg'⟩ := L'
  obtain ⟨cn, kn, cf, c, mg⟩ := L
  cases hc
  cases hm
  obtain ⟨hlen, ro, G, I, ds, haF, S, rv, hm⟩ := h
  refine ⟨hlen, ro, G, I, ds, haF, S, rv, ?_⟩
  cases e : g ro ds I with
  | ok s I' => rw [e] at hm; exact fun v G' H' x S q => hm v G' H' x S fun p e => (q p e).lg
  | exc x I' => rw [e] at hm; exact hm
  | bad => rw [e] at hm; exact hm
theorem FnR.kn {k2 : Str → Option (Nat × Nat)} {P : Program} {w : World} {base : Heap} {k : Nat} {x : Str} {f : Addr} {fd : FuncData} {ps : List Str} {dvs : List V} {dfl : List D} {g : Bool → List D → Is → R Sl} (F : FnR L P w base k x f fd ps dvs dfl g) : FnR { L with kn := k2 } P w base k x f fd ps dvs dfl g :=
  ⟨F.at_, F.kp, ⟨fun vs H Q E h => F.ok.len vs H Q E (spF_lg (L := { L with kn := k2 }) (L' := L) rfl rfl h), fun A outer s H args us vs Q E hr e0 hb hv h => F.ok.run A outer s H args us vs Q E hr e0 hb hv (spF_lg (L := { L with kn := k2 }) (L' := L) rfl rfl h)⟩, F.dv, F.dl, F.bd, F.cf⟩
end
structure Good (L : Lg) (X : Cx) (W : WX) : Prop where
  K : X.K = L.K
  mg : X.mg = L.mg
  calm : X.calm = true
  nd : X.N.Nodup
  hu : X.A.units + 64 < cLine
  tk : L2N.Takes X W
  po : PassesOwn (model X.prog X.w) X.A X.env X.xe
  bi : ∀ x, x ∈ (["len", "all", "any", "sorted", "list", "tuple", "min", "max", "int", "str", "divmod", "dict", "sum", "isinstance", "range", "enumerate", "zip", "set", "bool"] : List Str) → L.mg x = none
  cn : ∀ x, L.kn x = some (0, 1) → ∃ d, L.cn x = some d ∧ (match d with
    | .int i => ∃ t, L.mg x = some (.int i t)
    | .str z => PyData.strOk z = true ∧ ∃ t, L.mg x = some (.str z t)
    | .tup ds => ∃ a vs, L.mg x = some (.ref a) ∧ (∀ H, SqT L.K H a vs) ∧ RVs (fun _ => none) [] vs ds
    | _ => False)
  xc : ∀ c, L.kn c = some (0, 3) → ∃ C, L.mg c = some (.ref C) ∧ PySem.W.excIn L.K C He.veBase "ValueError.__new__" = true ∧ PySem.W.keepIn L.K (.ref C) = true ∧ Raises X (.ref C)
  lam : L.kn "<lambda>" = some (0, 2) → LamA X L.c.Tb
  tel : L.kn "_law_told" = some (0, 2) → TelD X.K X.mg "_law_told" (TTl X.mg tellN)
  k : ∃ k, Room k X.A ∧ (L.kn "<lambda>" = some (0, 2) → Room (k + 3) X.A) ∧ ∀ x np nd, L.kn x = some (np, nd) → nd ≤ np → ∃ f fd ps dvs dfl g, ps.length = np ∧ dfl.length = nd ∧ FnR L X.prog X.w X.base k x f fd ps dvs dfl g

/-- the new containers among values -/
def nwA : List (D × Kd) → List V → List Addr
  | p :: ps, v :: vs => (match p.2, v with
    | .new, .ref a => [a]
    | _, _ => []) ++ nwA ps vs
  | _, _ => []
def te (L : Lg) (W : WX) (t : Tm) : TE := fun σ H Q => ∃ ro G fr I, Sx L.c ro G fr I σ H ∧ PR L W ro G H σ fr (ev L.cn L.cf t ro fr I) (RkR L H) Q
def tt (L : Lg) (W : WX) (t : Tm) : TT := fun σ H Q => ∃ ro G fr I, Sx L.c ro G fr I σ H ∧ PR L W ro G H σ fr ((ev L.cn L.cf t ro fr I).tst fun b I => .ok b I) (fun _ _ (b : Bool) (c : Bool) => c = b) Q
def ta (L : Lg) (W : WX) (t : Tm) : TA := fun σ H Q => ∃ ro G fr I, Sx L.c ro G fr I σ H ∧ PR L W ro G H σ fr (evK L.cn L.cf t ro fr I) (fun G' H' ps vs => Rks L H G' H' ps vs ∧ (nwA ps vs).Nodup) Q
def tp (L : Lg) (W : WX) (t : Tm) : TO := fun σ H Q => ∃ ro G fr I, Sx L.c ro G fr I σ H ∧ PR L W ro G H σ fr (evP L.cn L.cf t ro fr I) (fun _ _ (o : Option Int) (o' : Option Int) => o' = o) Q
def tc (L : Lg) (W : WX) (t : Tm) : TT := fun σ H Q => ∃ ro G fr I, Sx L.c ro G fr I σ H ∧ PR L W ro G H σ fr (evC L.cn L.cf t ro fr I) (fun _ _ (b : Bool) (c : Bool) => c = b) Q
/-- one turn's item: as it is, or a new tuple -/
def Yl (G : Gh) (H : Hp) (v : V) (H' : Hp) (d : D) : Prop := (H' = H ∧ RV G.F G.M v d) ∨ ∃ T vs ds, v = .ref T ∧ H T = none ∧ H' = upd H T (.tup vs) ∧ d = .tup ds ∧ RVs G.F G.M vs ds
/-- what is walked gives these items, while its sources stay -/
def WkR (G : Gh) (H : Hp) (p : List D × Kd) (J : It) : Prop := ∃ (src : List Addr) (Gd : Hp → Prop) (Y : Nat → Hp → V → Hp → Prop), Walk J p.1.length Gd Y ∧
  (∀ a ∈ src, H a ≠ none ∧ (p.2 = .inst ∨ a ∉ G.aI) ∧ (p.2 = .own ∨ a ∉ G.aF)) ∧
  (∀ (G2 : Gh) (H2 : Hp), (∀ a u, G.F a = some u → G2.F a = some u) → G.M <+: G2.M → (∀ a ∈ src, Kp H H2 a) → Gd H2) ∧
  (∀ (i : Nat) (v : V) (H2 H3 : Hp) (G2 : Gh), i < p.1.length → (∀ a u, G.F a = some u → G2.F a = some u) → G.M <+: G2.M → (∀ a ∈ src, Kp H H2 a) → Y i H2 v H3 → ∃ d, p.1[i]? = some d ∧ Yl G2 H2 v H3 d)
def ti (L : Lg) (W : WX) (t : Tm) : TI := fun σ H Rr => ∃ ro G fr I, Sx L.c ro G fr I σ H ∧ PR L W ro G H σ fr (evI L.cn L.cf t ro fr I) (fun G' H' p J => WkR G' H' p J) Rr

section
variable {L : Lg} {W : WX} {X : Cx} {ro ro' : Bool} {G G1 G2 : Gh} {H H1 H2 : Hp} {σ : St} {fr : Fr} {I I1 : Is}
theorem PE.imp {e : Expr} {t t' : TE} (h : PE X e t) (i : ∀ σ H Q, t' σ H Q → t σ H Q) : PE X e t' := ⟨fun pins s σ H Q I q => h.run pins s σ H Q I (i _ _ _ q)⟩
theorem PT.imp {e : Expr} {t t' : TT} (h : PT X e t) (i : ∀ σ H Q, t' σ H Q → t σ H Q) : PT X e t' := ⟨fun pins s σ H Q I q => h.run pins s σ H Q I (i _ _ _ q)⟩
theorem PW.imp {e : Expr} {t t' : TT} (h : PW X e t) (i : ∀ σ H Q, t' σ H Q → t σ H Q) : PW X e t' := ⟨fun wh pins s σ H Q I q => h.run wh pins s σ H Q I (i _ _ _ q)⟩
theorem PA.imp {e : List Expr} {t t' : TA} (h : PA X e t) (i : ∀ σ H Q, t' σ H Q → t σ H Q) : PA X e t' := ⟨fun pos pins s σ H Q I q => h.run pos pins s σ H Q I (i _ _ _ q)⟩
theorem PO.imp {e : Option Expr} {t t' : TO} (h : PO X e t) (i : ∀ σ H Q, t' σ H Q → t σ H Q) : PO X e t' := ⟨fun pins s σ H Q I q => h.run pins s σ H Q I (i _ _ _ q)⟩
theorem PTs.imp {e : List Expr} {t t' : TT} (h : PTs X e t) (i : ∀ σ H Q, t' σ H Q → t σ H Q) : PTs X e t' := ⟨fun pins s σ H Q I q => h.run pins s σ H Q I (i _ _ _ q)⟩
theorem PI.imp {tg e : Expr} {t t' : TI} (h : PI X tg e t) (i : ∀ σ H Q, t' σ H Q → t σ H Q) : PI X tg e t' := ⟨fun pins s σ H Q I q => h.run pins s σ H Q I (i _ _ _ q)⟩

theorem te_kn {k : Str → Option (Nat × Nat)} {t : Tm} {Q : VK} (h : te L W t σ H Q) : te { L with kn := k } W t σ H Q := by
  obtain ⟨ro, G, fr, I, S, h⟩ := h
  exact ⟨ro, G, fr, I, S, h.imp (rel' := RkR { L with kn := k } H) (fun _ _ _ _ r => r.lg) fun _ _ q => q⟩
/-- a further term, behind one that lies so -/
theorem te_next {t : Tm} {k : Kd} {γ : Type} {f : D × Kd → Is → R γ} {β : Type} {rel' : Gh → Hp → γ → β → Prop} {Q : β → Hp → Prop} (x : Ext ro G H G1 H1) (S1 : Sx L.c ro G1 fr I1 σ H1)
    (h : PR L W ro G H σ fr ((ev L.cn L.cf t (ro || isInst k) fr I1).bind f) rel' Q) :
    te L W t σ H1 (fun v H2 => ∃ q I2 G2, Ext ro G H G2 H2 ∧ Ext (ro || isInst k) G1 H1 G2 H2 ∧ Sx L.c ro G2 fr I2 σ H2 ∧ Rk L H G2 H2 q v ∧ PR L W ro G H σ fr (f q I2) rel' Q) := by
  have h1 := PR.bind (β := V) (rel := fun G' H' p v => Rk L H G' H' p v ∧ Ext (ro || isInst k) G1 H1 G' H') h
  refine ⟨ro || isInst k, G1, fr, I1, ?_, ?_⟩
  · cases hk : isInst k with
    | false => rw [Bool.or_false]; exact S1
    | true =>
      rw [Bool.or_true]
      cases ro with
      | true => exact S1
      | false => exact S1.weak true
  · refine PR.at (rel1 := fun G' H' p v => Rk L H1 G' H' p v) x S1 ?_ (fun G' H' p v y S r => ⟨r.from x.dom, y⟩) (h1.imp (fun _ _ _ _ r => r) ?_)
    · cases hk : isInst k with
      | false => exact .inl (Bool.or_false _)
      | true => exact .inr ⟨Bool.or_true _, by rw [Bool.or_true]; exact (ev_keeps t).1 _ _⟩
    · rintro v H2 ⟨q, I2, G2, _, y, S2, ⟨r1, r2⟩, h2⟩
      exact ⟨q, I2, G2, y, r2, S2, r1, h2⟩
theorem te_two {a b : Tm} {f : D × Kd → D × Kd → Is → R (D × Kd)} {Q : VK} (S : Sx L.c ro G fr I σ H) (h : PR L W ro G H σ fr ((ev L.cn L.cf a ro fr I).bind fun p I => (ev L.cn L.cf b (ro || isInst p.2) fr I).bind fun q I => f p q I) (RkR L H) Q) :
    te L W a σ H (fun x H1 => te L W b σ H1 fun y H2 => Two L f x y H2 Q) := by
  refine ⟨ro, G, fr, I, S, PR.imp (PR.bind (rel := RkR L H) h) (fun _ _ _ _ r => r) ?_⟩
  rintro v H1 ⟨p, I1, G1, _, x, S1, r1, h1⟩
  obtain ⟨ro2, G2, fr2, I2, S2, h2⟩ := te_next x S1 h1
  refine ⟨ro2, G2, fr2, I2, S2, h2.imp (fun _ _ _ _ r => r) ?_⟩
  rintro w H2 ⟨q, I3, G3, y1, y2, S3, r2, h3⟩
  exact ⟨W, ro, G, H, σ, fr, p, q, I3, G3, y1, S3, r1.later S1 y2, r2, h3⟩
theorem te_one {a : Tm} {f : D × Kd → Is → R (D × Kd)} {Q : VK} (S : Sx L.c ro G fr I σ H) (h : PR L W ro G H σ fr ((ev L.cn L.cf a ro fr I).bind f) (RkR L H) Q) :
    te L W a σ H (fun x H1 => One L f x H1 Q) := by
  refine ⟨ro, G, fr, I, S, PR.imp (PR.bind (rel := RkR L H) h) (fun _ _ _ _ r => r) ?_⟩
  rintro v H1 ⟨p, I1, G1, _, x, S1, r1, h1⟩
  exact ⟨W, ro, G, H, σ, fr, p, I1, G1, x, S1, r1, h1⟩
theorem te.imp {t : Tm} {Q Q' : VK} (h : te L W t σ H Q) (i : ∀ v H', Q v H' → Q' v H') : te L W t σ H Q' := by
  obtain ⟨ro, G, fr, I, S, q⟩ := h
  exact ⟨ro, G, fr, I, S, q.imp (fun _ _ _ _ r => r) i⟩
/-! ### tests -/
theorem tt_te {t : Tm} {Q : Bool → Hp → Prop} (h : tt L W t σ H Q) : te L W t σ H (fun x H1 => ∃ c, x = .bl c ∧ Q c H1) := by
  obtain ⟨ro, G, fr, I, S, h⟩ := h
  refine ⟨ro, G, fr, I, S, PR.imp (PR.bind (rel := RkR L H) h) (fun _ _ _ _ r => r) ?_⟩
  rintro v H1 ⟨⟨d, k⟩, I1, G1, _, x, S1, r1, h1⟩
  cases d with
  | bl b => exact ⟨b, r1.bl, h1 b G1 H1 x S1 rfl⟩
  | _ => exact absurd h1 id
theorem pt_of {t : Tm} {e : Expr} (h : PE X e (te L W t)) (he : ∀ whole, isTrue e X.env whole = (do let v ← whole; standAt e.pos; holding [v] (truthy v))) : PT X e (tt L W t) :=
  PT.imp (pt_val h he) fun σ H Q q => tt_te q
/-- a test, then more -/
theorem tt_next {t : Tm} {γ β : Type} {f : Bool → Is → R γ} {rel' : Gh → Hp → γ → β → Prop} {Q : β → Hp → Prop} (S : Sx L.c ro G fr I σ H) (h : PR L W ro G H σ fr ((ev L.cn L.cf t ro fr I).tst f) rel' Q) :
    tt L W t σ H (fun b H1 => ∃ I1 G1, Ext ro G H G1 H1 ∧ Sx L.c ro G1 fr I1 σ H1 ∧ PR L W ro G H σ fr (f b I1) rel' Q) := by
  have e : (ev L.cn L.cf t ro fr I).tst f = ((ev L.cn L.cf t ro fr I).tst fun b I => .ok b I).bind f := by
    unfold R.tst
    cases ev L.cn L.cf t ro fr I with
    | ok p I' => obtain ⟨d, k⟩ := p; cases d <;> rfl
    | exc x I' => rfl
    | bad => rfl
  rw [e] at h
  refine ⟨ro, G, fr, I, S, PR.imp (PR.bind (rel := fun _ _ (b : Bool) (c : Bool) => c = b) h) (fun _ _ _ _ r => r) ?_⟩
  rintro b H1 ⟨b', I1, G1, _, x, S1, r, h1⟩
  obtain rfl : b = b' := r
  exact ⟨I1, G1, x, S1, h1⟩
/-- on from a later state, in the same mode -/
theorem PR.on {α β : Type} {r : R α} {rel rel1 : Gh → Hp → α → β → Prop} {Q : β → Hp → Prop} (x : Ext ro G H G1 H1) (S1 : Sx L.c ro G1 fr I1 σ H1) (hrel : ∀ G' H' a v, rel1 G' H' a v → rel G' H' a v) (h : PR L W ro G H σ fr r rel Q) : PR L W ro G1 H1 σ fr r rel1 Q :=
  PR.at x S1 (.inl rfl) (fun G' H' a v _ _ q => hrel _ _ _ _ q) h
/-! ### new things given away -/
def RkW (H0 : Hp) (G : Gh) (H : Hp) (p : D × Kd) (v : V) : Prop := (p.2 = .fro ∧ RV G.F G.M v p.1) ∨ (p.2 = .new ∧ ∃ a s, v = .ref a ∧ Sl.inn p.1 = some s ∧ SlAt false G.F G.M H a s ∧ H0 a = none ∧ a ∉ G.aF ∧ a ∉ G.aI)
theorem Rk.w {H0 : Hp} {p : D × Kd} {v : V} {d : D} (h : Rk L H0 G H p v) (e : frzK p = some d) : RkW H0 G H p v ∧ d = p.1 := by
  cases h with
  | fro h => cases e; exact ⟨.inl ⟨rfl, h⟩, rfl⟩
  | own e1 h m => cases e
  | inst e1 h m => cases e
  | new e1 h h0 h1 h2 h3 => cases e; exact ⟨.inr ⟨rfl, _, _, rfl, e1, h, h0, h2, h3⟩, rfl⟩
  | cst => cases e
theorem inn_thing {lk : Bool} {d : D} {s : Sl} {a : Addr} {F : Hp} {M : List (Addr × Addr)} (e : Sl.inn d = some s) (h : SlAt false F M H a s) : ∃ u, H a = some u ∧ Fine u ∧ (∀ w, Sub H a w → w = u) ∧ ∀ F', (∀ b w, F b = some w → F' b = some w) → F' a = some u → RV F' M (.ref a) d := by
  have nofrz : ∀ u, Fine u → (∀ o xs, u ≠ .frz o xs) → H a = some u → ∀ w, Sub H a w → w = u := fun u _ hn ha w hw => by
    rcases hw with hw | ⟨_, o, hw⟩
    · rw [ha] at hw; exact (Option.some.inj hw).symm
    · rw [ha] at hw; exact absurd (Option.some.inj hw) (hn o w)
  cases d <;> simp only [Sl.inn, Option.some.injEq, reduceCtorEq] at e <;> subst e
  · obtain ⟨vs, e, r⟩ := h
    exact ⟨_, e, trivial, nofrz _ trivial (fun _ _ z => by cases z) e, fun F' hF hf => .lst hf (r.mono hF (List.prefix_refl _))⟩
  · obtain ⟨vs, e | ⟨z, _⟩, l, r⟩ := h
    · exact ⟨_, e, trivial, nofrz _ trivial (fun _ _ z => by cases z) e, fun F' hF hf => .dK hf l (r.mono hF (List.prefix_refl _))⟩
    · cases z
  · obtain ⟨vs, e | ⟨z, _⟩, l, r⟩ := h
    · exact ⟨_, e, trivial, nofrz _ trivial (fun _ _ z => by cases z) e, fun F' hF hf => .dT hf l (r.mono hF (List.prefix_refl _))⟩
    · cases z
/-- only F grows -/
structure Grow (G G' : Gh) : Prop where
  F : ∀ a u, G.F a = some u → G'.F a = some u
  M : G'.M = G.M
  aF : G'.aF = G.aF
  aI : G'.aI = G.aI
theorem Grow.refl : Grow G G := ⟨fun _ _ e => e, rfl, rfl, rfl⟩
theorem Grow.trans (a : Grow G G1) (b : Grow G1 G2) : Grow G G2 := ⟨fun x u e => b.F x u (a.F x u e), b.M.trans a.M, b.aF.trans a.aF, b.aI.trans a.aI⟩
theorem frz_one {p : D × Kd} {v : V} (x : Ext ro G H G1 H1) (S : Sx L.c ro G1 fr I1 σ H1) (h : RkW H G1 H1 p v) : ∃ G2, Grow G1 G2 ∧ Ext ro G H G2 H1 ∧ Sx L.c ro G2 fr I1 σ H1 ∧ RV G2.F G2.M v p.1 := by
  rcases h with ⟨_, h⟩ | ⟨_, a, s, rfl, e, h, h0, h2, h3⟩
  · exact ⟨G1, .refl, x, S, h⟩
  · obtain ⟨u, ha, fu, us, rr⟩ := inn_thing (lk := false) e h
    cases q : G1.F a with
    | some w =>
      have := us w (S.sub a w q)
      subst this
      exact ⟨G1, .refl, x, S, rr _ (fun _ _ e => e) q⟩
    | none => exact ⟨G1.put a u, ⟨put_mono q, rfl, rfl, rfl⟩, x.put h0 q, S.freeze fu (.inl ha) h2 h3 q, rr _ (put_mono q) upd_same⟩
theorem RkW.grow {H0 : Hp} {p : D × Kd} {v : V} (g : Grow G G1) (h : RkW H0 G H p v) : RkW H0 G1 H p v := by
  have hM : G.M <+: G1.M := g.M ▸ List.prefix_refl _
  rcases h with ⟨e, h⟩ | ⟨e1, a, s, rfl, e, h, h0, h2, h3⟩
  · exact .inl ⟨e, h.mono g.F hM⟩
  · exact .inr ⟨e1, a, s, rfl, e, h.mono g.F hM fun _ e _ => e, h0, g.aF ▸ h2, g.aI ▸ h3⟩
theorem frz_all : ∀ {ps : List (D × Kd)} {vs : List V} {ds : List D} {G1 : Gh}, Ext ro G H G1 H1 → Sx L.c ro G1 fr I1 σ H1 → Paired (RkW H G1 H1) ps vs → frzAll ps = some ds → ∃ G2, Grow G1 G2 ∧ Ext ro G H G2 H1 ∧ Sx L.c ro G2 fr I1 σ H1 ∧ RVs G2.F G2.M vs ds
  | [], _, _, G1, x, S, h, e => by
    cases h
    cases e
    exact ⟨G1, .refl, x, S, .nil⟩
  | p :: ps, _, ds, G1, x, S, h, e => by
    cases h with
    | cons h hs =>
      unfold frzAll at e
      cases e1 : frzK p with
      | none => rw [e1] at e; cases e
      | some d =>
        cases e2 : frzAll ps with
        | none => rw [e1, e2] at e; cases e
        | some ds' =>
          rw [e1, e2] at e
          cases e
          obtain ⟨G2, g, x2, S2, r⟩ := frz_one x S h
          obtain ⟨G3, g3, x3, S3, rs⟩ := frz_all x2 S2 (L2.Paired.mapP hs fun a b q => q.grow g) e2
          have hd : d = p.1 := by
            obtain ⟨d0, k⟩ := p
            cases k <;> cases e1 <;> rfl
          subst hd
          exact ⟨G3, g.trans g3, x3, S3, .cons (r.mono g3.F (g3.M ▸ List.prefix_refl _)) rs⟩
theorem Rks.w : ∀ {ps : List (D × Kd)} {vs : List V} {ds : List D} {H0 : Hp}, Rks L H0 G H ps vs → frzAll ps = some ds → Paired (RkW H0 G H) ps vs
  | [], _, _, _, h, e => by cases h; exact .nil
  | p :: ps, _, ds, _, h, e => by
    cases h with
    | cons h hs =>
      unfold frzAll at e
      cases e1 : frzK p with
      | none => rw [e1] at e; cases e
      | some d =>
        cases e2 : frzAll ps with
        | none => rw [e1, e2] at e; cases e
        | some ds' => exact .cons (h.w e1).1 (hs.w e2)
/-- a value that stands still from now on -/
theorem PR.fz {t : Tm} {γ β : Type} {f : D → Is → R γ} {rel' : Gh → Hp → γ → β → Prop} {Q : β → Hp → Prop} (S : Sx L.c ro G fr I σ H) (h : PR L W ro G H σ fr ((ev L.cn L.cf t ro fr I).fz f) rel' Q) :
    te L W t σ H (fun v H1 => ∃ d I1 G1, Ext ro G H G1 H1 ∧ Sx L.c ro G1 fr I1 σ H1 ∧ RV G1.F G1.M v d ∧ PR L W ro G H σ fr (f d I1) rel' Q) := by
  refine ⟨ro, G, fr, I, S, PR.imp (PR.bind (rel := RkR L H) h) (fun _ _ _ _ r => r) ?_⟩
  rintro v H1 ⟨p, I1, G1, _, x, S1, r1, h1⟩
  cases e : frzK p with
  | none => rw [e] at h1; exact absurd h1 id
  | some d =>
    rw [e] at h1
    obtain ⟨w, hd⟩ := r1.w e
    obtain ⟨G2, g, x2, S2, r⟩ := frz_one x S1 w
    exact ⟨d, I1, G2, x2, S2, hd ▸ r, h1⟩
end
end Air
/-! Air: a term's run (3): the main theorem for terms. -/
namespace Air
open PySem PySem.Spec PyProof.Rows L2
variable [Kf]
section
variable {L : Lg} {W : WX} {X : Cx} {ro ro' : Bool} {G G1 G2 : Gh} {H H1 H2 : Hp} {σ : St} {fr : Fr} {I I1 : Is}
theorem FrR.at_ {F : Hp} {M : List (Addr × Addr)} {as : List Addr} (h : FrR F M H σ fr as) : ∀ {i : Nat} {s : Sl}, fr[i]? = some s → ∃ ov bs, σ[i]? = some ov ∧ SlV false F M H ov s bs ∧ ∀ a ∈ bs, a ∈ as := by
  induction h with
  | nil => intro i s e; simp at e
  | cons h0 _ ih =>
    intro i s e
    cases i with
    | zero => simp at e; subst e; exact ⟨_, _, rfl, h0, fun a ha => List.mem_append_left _ ha⟩
    | succ i =>
      obtain ⟨ov, bs, h1, h2, h3⟩ := ih (i := i) (s := s) (by simpa using e)
      exact ⟨ov, bs, by simpa using h1, h2, fun a ha => List.mem_append_right _ (h3 a ha)⟩
theorem FrR.len {F : Hp} {M : List (Addr × Addr)} {as : List Addr} (h : FrR F M H σ fr as) : σ.length = fr.length := by
  induction h with
  | nil => rfl
  | cons _ _ ih => simp [ih]
/-- a name's value -/
theorem loc_run {i : Nat} {Q : VK} (h : te L W (.loc i) σ H Q) : tVar i σ H Q := by
  obtain ⟨ro, G, fr, I, S, h⟩ := h
  simp only [ev] at h
  cases e : fr[i]? with
  | none => rw [e] at h; exact absurd h id
  | some s =>
    rw [e] at h
    obtain ⟨ov, bs, h1, h2, h3⟩ := S.fr.at_ e
    cases s with
    | no => exact absurd h id
    | val d =>
      obtain ⟨_, v, rfl, r⟩ := h2
      exact ⟨v, h1, h v G H .refl S (.fro r)⟩
    | lst xs =>
      obtain ⟨a, rfl, rfl, r⟩ := h2
      exact ⟨_, h1, h _ G H .refl S (.own (s := .lst xs) rfl r (h3 a (by simp)))⟩
    | dK ks vs =>
      obtain ⟨a, rfl, rfl, r⟩ := h2
      exact ⟨_, h1, h _ G H .refl S (.own (s := .dK ks vs) rfl r (h3 a (by simp)))⟩
    | dT ks vs =>
      obtain ⟨a, rfl, rfl, r⟩ := h2
      exact ⟨_, h1, h _ G H .refl S (.own (s := .dT ks vs) rfl r (h3 a (by simp)))⟩
theorem gl_of {x : Str} (h : glB X.env.scope x = true) : Gl X x ∧ (x == ("__debug__" : Str)) = false := by
  unfold glB at h
  split at h
  · rename_i e
    exact ⟨e, by simpa using h⟩
  · cases h
theorem vis_of {sc : Scope} {x : Str} (h : visB sc x = true) : Vis sc x := by
  unfold visB at h
  split at h <;> first | exact .inl (by assumption) | exact .inr (.inl (by assumption)) | exact .inr (.inr (by assumption)) | cases h
theorem loc_of {sc : Scope} {x : Str} (h : locB sc x = true) : Loc sc x := by
  unfold locB at h
  split at h <;> first | exact .inl (by assumption) | exact .inr (by assumption) | cases h
theorem star_of {e : Expr} (h : notStar e = true) (es : List Expr) (env : Env) : starEach (e :: es) env = (false, eval e env) :: starEach es env := by
  cases e <;> first | rfl | cases h
theorem chkK_star {kn : Str → Option (Nat × Nat)} {sc : Scope} {N : List Str} : ∀ {t : Tm} {es : List Expr}, chkK kn t sc N es = true → ∀ e ∈ es, notStar e = true
  | t, [], _, e, he => by simp at he
  | t, x :: xs, h, e, he => by
    cases t <;> simp only [chkK] at h <;> try (cases h; done)
    simp only [Bool.and_eq_true] at h
    rcases List.mem_cons.mp he with z | z
    · subst z; exact h.1.2
    · exact chkK_star h.2 e z
theorem back_ok {pos : Pos} {env : Env} : ∀ {es : List Expr}, (∀ e ∈ es, notStar e = true) → (backTo pos (starEach es env)).any (·.1) = false
  | [], _ => rfl
  | e :: es, h => by
    rw [star_of (h e List.mem_cons_self)]
    show (false || (backTo pos (starEach es env)).any (·.1)) = false
    rw [back_ok fun x hx => h x (List.mem_cons_of_mem _ hx)]; rfl
theorem plain_ix {e : Expr} (h : notSlc e = true) : PlainIx e := by
  intro o i
  cases e <;> first | rfl | cases h
theorem mark_of {e : Expr} {op : CmpOp} (h : notSet e = true) : behindInMarks op e = false := by
  cases e <;> first | rfl | cases h
theorem fold_of {e : Expr} (h : notSet e = true) (env : Env) : ∀ x, foldedSetIterable e env x = pure x := by
  intro x
  cases e <;> first | rfl | cases h
/-! ### calls -/
theorem call_frame {ro : Bool} (S : Sx L.c ro G fr I σ H) : Sx L.c ro { G with aF := [] } [] I [] H :=
  ⟨.nil, S.is, (List.nodup_append.mp S.nd).2.1, fun a ha => S.sep a (List.mem_append_right _ (by simpa using ha)), S.sub, S.fine, S.tb⟩
theorem call_back {ro : Bool} {I2 : Is} (S : Sx L.c ro G fr I σ H) (x : Ext ro { G with aF := [] } H G2 H2) (S2 : Sx L.c ro G2 [] I2 [] H2) : Ext ro G H { G2 with aF := G.aF } H2 ∧ Sx L.c ro { G2 with aF := G.aF } fr I2 σ H2 := by
  have ni : ∀ a ∈ G.aF, a ∉ G.aI := fun a h1 h2 => (List.nodup_append.mp S.nd).2.2 a h1 a h2 rfl
  have kp : ∀ a ∈ G.aF, Kp H H2 a := fun a ha o e t => x.keep a o e (.inr (ni a ha)) t
  refine ⟨⟨x.keep, x.dom, x.F, x.Fn, rfl, x.aI, x.M, x.ro⟩, ⟨S.fr.mono x.F x.M kp, S2.is, ?_, fun a ha => ?_, S2.sub, S2.fine, S2.tb⟩⟩
  · refine List.nodup_append.mpr ⟨(List.nodup_append.mp S.nd).1, (List.nodup_append.mp S2.nd).2.1, fun a h1 b h2 e => ?_⟩
    subst e
    exact (x.aI a h2).elim (ni a h1) fun z => S.fr.there a h1 z
  · rcases List.mem_append.mp ha with h | h
    · show G2.F a = none
      cases q : G2.F a with
      | none => rfl
      | some u =>
        rcases x.Fn a u q with z | z
        · have := S.sep a (List.mem_append_left _ h)
          rw [this] at z; cases z
        · exact absurd z (S.fr.there a h)
    · exact S2.sep a (List.mem_append_right _ h)
/-- from the callee's frame to ours -/
theorem Rk.back {A : List Addr} {H0 : Hp} {p : D × Kd} {v : V} (hA : ∀ b ∈ A, H0 b ≠ none) (h : Rk L H0 G H p v) (hk : p.2 = .fro ∨ p.2 = .new) : Rk L H0 { G with aF := A } H p v := by
  cases h with
  | fro h => exact .fro h
  | own e h m => rcases hk with z | z <;> cases z
  | inst e h m => rcases hk with z | z <;> cases z
  | new e h h0 h1 h2 h3 => exact .new e h h0 h1 (fun z => hA _ z h0) h3
  | cst h r => rcases hk with z | z <;> cases z
theorem out_kd {s : Sl} {p : D × Kd} (h : s.out = some p) : p.2 = .fro ∨ p.2 = .new := by
  cases s <;> simp only [Sl.out, reduceCtorEq, Option.some.injEq] at h <;> subst h <;> simp
/-- a container lent -/
def RkB (G : Gh) (H : Hp) (p : D × Kd) (v : V) : Prop := RV G.F G.M v p.1 ∨ ∃ a s, v = .ref a ∧ Sl.inn p.1 = some s ∧ SlAt false G.F G.M H a s ∧ a ∉ G.aI
theorem bor_all : ∀ {ps : List (D × Kd)} {vs : List V} {G1 : Gh}, G1.aF = [] → Sx L.c ro G1 [] I1 [] H1 → Paired (RkB G1 H1) ps vs → ∃ G2, Grow G1 G2 ∧ Sx L.c ro G2 [] I1 [] H1 ∧ RVs G2.F G2.M vs (ps.map (·.1)) ∧ (∀ b us, G2.F b = some (.tup us) → G1.F b = some (.tup us)) ∧ (∀ b u, G2.F b = some u → H1 b ≠ none)
  | [], _, G1, _, S, h => by
    cases h
    exact ⟨G1, .refl, S, .nil, fun _ _ e => e, fun b u e => (S.sub b u e).there⟩
  | p :: ps, _, G1, ha, S, h => by
    cases h with
    | cons h hs =>
      rcases h with h | ⟨a, s, rfl, e, h, h3⟩
      · obtain ⟨G3, g3, S3, rs, t3, n3⟩ := bor_all ha S hs
        exact ⟨G3, g3, S3, .cons (h.mono g3.F (g3.M ▸ List.prefix_refl _)) rs, t3, n3⟩
      · obtain ⟨u, hu, fu, us, rr⟩ := inn_thing (lk := false) e h
        have nt : ∀ ws, u ≠ .tup ws := fun ws z => by
          subst z
          cases hp : p.1 <;> rw [hp] at e <;> simp only [Sl.inn, Option.some.injEq, reduceCtorEq] at e <;> subst e
          · obtain ⟨_, q, _⟩ := h; rw [hu] at q; cases q
          · obtain ⟨_, q | ⟨q, _⟩, _⟩ := h
            · rw [hu] at q; cases q
            · cases q
          · obtain ⟨_, q | ⟨q, _⟩, _⟩ := h
            · rw [hu] at q; cases q
            · cases q
        cases q : G1.F a with
        | some w =>
          have := us w (S.sub a w q)
          subst this
          obtain ⟨G3, g3, S3, rs, t3, n3⟩ := bor_all ha S hs
          exact ⟨G3, g3, S3, .cons ((rr _ (fun _ _ e => e) q).mono g3.F (g3.M ▸ List.prefix_refl _)) rs, t3, n3⟩
        | none =>
          have S2 := S.freeze fu (.inl hu) (by rw [ha]; simp) h3 q
          have g2 : Grow G1 (G1.put a u) := ⟨put_mono q, rfl, rfl, rfl⟩
          obtain ⟨G3, g3, S3, rs, t3, n3⟩ := bor_all (G1 := G1.put a u) ha S2 (L2.Paired.mapP hs fun p v z => by
            rcases z with z | ⟨b, t, z1, z2, z3, z4⟩
            · exact .inl (z.mono g2.F (List.prefix_refl _))
            · exact .inr ⟨b, t, z1, z2, z3.mono g2.F (List.prefix_refl _) fun _ e _ => e, z4⟩)
          refine ⟨G3, g2.trans g3, S3, .cons ((rr (G1.put a u).F (put_mono q) upd_same).mono g3.F (g3.M ▸ List.prefix_refl _)) rs, fun b ws z => ?_, n3⟩
          have z2 := t3 b ws z
          have z2 : upd G1.F a u b = some (.tup ws) := z2
          by_cases hb : b = a
          · subst hb; rw [upd_same] at z2; exact absurd (Option.some.inj z2) (nt ws)
          · rw [upd_ne hb] at z2; exact z2
mutual
theorem still_RV {F F' : Hp} {M M' : List (Addr × Addr)} (h : ∀ a vs, F a = some (.tup vs) → F' a = some (.tup vs)) : ∀ {v : V} {d : D}, RV F M v d → D.still d = true → RV F' M' v d
  | _, _, .non, _ => .non
  | _, _, .bl b, _ => .bl b
  | _, _, .int i, _ => .int i
  | _, _, .str z o, _ => .str z o
  | _, _, .tup e r, q => .tup (h _ _ e) (still_RVs h r (by simpa [D.still] using q))
  | _, _, .lst _ _, q => by simp [D.still] at q
  | _, _, .dK _ _ _, q => by simp [D.still] at q
  | _, _, .dT _ _ _, q => by simp [D.still] at q
  | _, _, .scr _, q => by simp [D.still] at q
  | _, _, .scrL _, q => by simp [D.still] at q
  | _, _, .scrK _, q => by simp [D.still] at q
  | _, _, .ins _, q => by simp [D.still] at q
theorem still_RVs {F F' : Hp} {M M' : List (Addr × Addr)} (h : ∀ a vs, F a = some (.tup vs) → F' a = some (.tup vs)) : ∀ {vs : List V} {ds : List D}, RVs F M vs ds → D.stills ds = true → RVs F' M' vs ds
  | _, _, .nil, _ => .nil
  | _, _, .cons r rs, q => by
    have q : (D.still _ && D.stills _) = true := q
    rw [Bool.and_eq_true] at q
    exact .cons (still_RV h r q.1) (still_RVs h rs q.2)
end
theorem evK_len {kn : Str → Option (Nat × Nat)} {cn : Str → Option D} {cf : Str → Bool → List D → Is → R Sl} {sc : Scope} {N : List Str} : ∀ {t : Tm} {es : List Expr} {ro : Bool} {fr : Fr} {I I' : Is} {ps : List (D × Kd)}, chkK kn t sc N es = true → evK cn cf t ro fr I = .ok ps I' → ps.length = es.length
  | t, [], ro, fr, I, I', ps, h, e => by
    cases t <;> simp only [chkK] at h <;> try (cases h; done)
    simp only [evK] at e
    cases e; rfl
  | t, x :: xs, ro, fr, I, I', ps, h, e => by
    cases t <;> simp only [chkK] at h <;> try (cases h; done)
    rename_i a b
    simp only [Bool.and_eq_true] at h
    simp only [evK] at e
    cases q : ev cn cf a ro fr I with
    | ok p I1 =>
      rw [q] at e
      simp only [R.bind] at e
      cases q2 : evK cn cf b (ro || isInst p.2) fr I1 with
      | ok ps' I2 =>
        rw [q2] at e
        simp only at e
        cases e
        simp [evK_len h.2 q2]
      | exc x I2 => rw [q2] at e; cases e
      | bad => rw [q2] at e; cases e
    | exc x I1 => rw [q] at e; cases e
    | bad => rw [q] at e; cases e
theorem RVs.drop0 {vs : List V} {ds : List D} (r : RVs (fun _ => none) [] vs ds) (n : Nat) (F : Hp) (M : List (Addr × Addr)) : RVs F M (vs.drop n) (ds.drop n) := (r.drop n).still0 F M
theorem Grow.ext (g : Grow G1 G2) : G1.M <+: G2.M := g.M ▸ List.prefix_refl _
theorem Rks.b : ∀ {ps : List (D × Kd)} {vs : List V} {H0 : Hp} {lk : Bool}, Sx L.c lk G fr I σ H → Rks L H0 G H ps vs → ps.any (fun p => decide (p.2 = .cst) || decide (p.2 = .inst)) = false → Paired (RkB { G with aF := [] } H) ps vs
  | [], _, _, _, _, h, _ => by cases h; exact .nil
  | p :: ps, _, _, _, S, h, e => by
    cases h with
    | cons h hs =>
      rw [List.any_cons, Bool.or_eq_false_iff] at e
      refine .cons ?_ (Rks.b S hs e.2)
      have ni : ∀ a ∈ G.aF, a ∉ G.aI := fun a h1 h2 => (List.nodup_append.mp S.nd).2.2 a h1 a h2 rfl
      cases h with
      | fro h => exact .inl h
      | own e1 h m => exact .inr ⟨_, _, rfl, e1, h, ni _ m⟩
      | inst e1 h m => simp at e
      | new e1 h h0 h1 h2 h3 => exact .inr ⟨_, _, rfl, e1, h, h3⟩
      | cst => simp at e
theorem pe_callA (g : Good L X W) {f : Str} {es : Tm} {e : Expr} {xs : List Expr} {p pos : Pos} {np nd : Nat} (ih : PA X (e :: xs) (ta L W es)) (hx : Gl X f) (hdb : (f == ("__debug__" : Str)) = false) (hc : chkK L.kn es X.env.scope X.N (e :: xs) = true)
    (hk : L.kn f = some (np, nd)) (h1 : xs.length + 1 ≤ np) (h2 : np ≤ xs.length + 1 + nd) (h3 : nd ≤ np) : PE X (.Call (.Name f p) (e :: xs) [] pos) (te L W (.call f es)) := by
  obtain ⟨k, hr, _, hfn⟩ := g.k
  obtain ⟨fa, fd, ps, dvs, dfl, gg, e1, e2, FR⟩ := hfn f np nd hk h3
  have ldv : dvs.length = dfl.length := FR.dv.length
  have hst := chkK_star hc
  obtain ⟨ds, hb, hv⟩ := FR.bd (np - (xs.length + 1)) (by omega)
  refine PE.imp (pe_callSD (E := WE W) (g.K ▸ g.mg ▸ FR.ok) hr hx (g.mg ▸ FR.at_) (g.K ▸ FR.kp) (g.K ▸ hb) hv (fun σ => L2N.passAt g.tk σ) ih hdb (star_of (hst e List.mem_cons_self) xs X.env) (back_ok fun x hx => hst x (List.mem_cons_of_mem _ hx))) ?_
  rintro σ H Q ⟨ro, G, fr, I, S, h⟩
  simp only [ev] at h
  refine ⟨ro, G, fr, I, S, PR.imp (PR.bind (rel := fun G' H' ps vs => Rks L H G' H' ps vs) h) (fun _ _ _ _ r => r.1) ?_⟩
  rintro vs H1 ⟨qs, I1, G1, hq, x, S1, r1, h1⟩
  have hlen : qs.length = xs.length + 1 := by simpa using evK_len hc hq
  have lvs : vs.length = qs.length := by
    clear hq h1 hlen
    induction r1 with
    | nil => rfl
    | cons _ _ ih => simp [ih]
  have hcf : ∀ ro (as : List D) I, as.length = xs.length + 1 → L.cf f ro as I = gg ro (as ++ dfl.drop (dvs.length - (np - (xs.length + 1)))) I := fun ro as I ha => by
    rw [FR.cf, if_pos (by omega)]
    rw [show as.length + dfl.length - ps.length = dvs.length - (np - (xs.length + 1)) by omega]
  refine ⟨?_, ?_⟩
  · rw [List.length_append, List.length_drop]; omega
  unfold callD at h1
  cases e3 : frzAll qs with
  | some as =>
    rw [e3] at h1
    simp only at h1
    obtain ⟨G2, gr, x2, S2, ra⟩ := frz_all x S1 (r1.w e3) e3
    have la : as.length = xs.length + 1 := by rw [← ra.length]; omega
    have full : RVs G2.F G2.M (vs ++ dvs.drop (dvs.length - (np - (xs.length + 1)))) (as ++ dfl.drop (dvs.length - (np - (xs.length + 1)))) := ra.append (FR.dv.drop0 _ _ _)
    refine ⟨ro, { G2 with aF := [] }, I1, _, rfl, call_frame S2, full, ?_⟩
    have fin : ∀ (s : Sl) (v : V) (G' : Gh) (H' : Hp) (I2 : Is), Ext ro { G2 with aF := [] } H1 G' H' → Sx L.c ro G' [] I2 [] H' → (∀ p, s.out = some p → Rk L H1 G' H' p v) → PR L W ro G H σ fr (match s.out with | some p => .ok p I2 | none => .bad) (RkR L H) Q → Q v H' := fun s v G' H' I2 y T rk hp => by
      obtain ⟨y2, T2⟩ := call_back S2 y T
      cases e4 : s.out with
      | none => rw [e4] at hp; exact absurd hp id
      | some p =>
        rw [e4] at hp
        exact hp v _ H' (x2.trans y2) T2 (((rk p e4).back (fun b hb => S2.fr.there b hb) (out_kd e4)).from x2.dom)
    cases ro with
    | true =>
      simp only [cond_true] at h1 ⊢
      rw [hcf _ _ _ la] at h1
      cases e5 : gg true (as ++ dfl.drop (dvs.length - (np - (xs.length + 1)))) I1 with
      | ok s I' =>
        rw [e5] at h1
        exact fun v G' H' y T rk => fin s v G' H' I1 y T rk h1
      | exc x I' =>
        rw [e5] at h1
        exact fun cls d G' H' y T xr => by
          obtain ⟨y2, T2⟩ := call_back S2 y T
          exact h1 cls d _ H' (x2.trans y2) T2 xr
      | bad => rw [e5] at h1; exact absurd h1 id
    | false =>
      simp only [cond_false] at h1 ⊢
      rw [hcf _ _ _ la] at h1
      cases e5 : gg false (as ++ dfl.drop (dvs.length - (np - (xs.length + 1)))) I1 with
      | ok s I' =>
        rw [e5] at h1
        exact fun v G' H' y T rk => fin s v G' H' I' y T rk h1
      | exc x I' =>
        rw [e5] at h1
        exact fun cls d G' H' y T xr => by
          obtain ⟨y2, T2⟩ := call_back S2 y T
          exact h1 cls d _ H' (x2.trans y2) T2 xr
      | bad => rw [e5] at h1; exact absurd h1 id
  | none =>
    rw [e3] at h1
    simp only at h1
    cases e4 : qs.any (fun p => decide (p.2 = .cst) || decide (p.2 = .inst)) with
    | true => rw [e4] at h1; exact absurd h1 id
    | false =>
      rw [e4] at h1
      simp only [cond_false] at h1
      have St : Sx L.c true G1 fr I1 σ H1 := by
        cases ro with
        | true => exact S1
        | false => exact S1.weak true
      obtain ⟨G2, gr, S2, ra, t2, n2⟩ := bor_all (G1 := { G1 with aF := [] }) rfl (call_frame St) (Rks.b S1 r1 e4)
      have la : (qs.map (·.1)).length = xs.length + 1 := by rw [List.length_map]; exact hlen
      have full : RVs G2.F G2.M (vs ++ dvs.drop (dvs.length - (np - (xs.length + 1)))) (qs.map (·.1) ++ dfl.drop (dvs.length - (np - (xs.length + 1)))) := ra.append (FR.dv.drop0 _ _ _)
      refine ⟨true, G2, I1, _, gr.aF, S2, full, ?_⟩
      rw [hcf _ _ _ la] at h1
      have fin : ∀ (G' : Gh) (H' : Hp), Ext true G2 H1 G' H' → Sx L.c true G' [] I1 [] H' → ∃ G3, Ext true G1 H1 G3 H' ∧ Sx L.c ro G3 fr I1 σ H' ∧ (∀ a vs, G'.F a = some (.tup vs) → G3.F a = some (.tup vs)) := fun G' H' y T => by
        have F12 : ∀ b u, G1.F b = some u → G'.F b = some u := fun b u e => y.F b u (gr.F b u e)
        have at3 : ∀ b u, (match G1.F b with | some u => some u | none => (match G'.F b with | some (.tup vs) => some (HO.tup vs) | _ => none)) = some u → G'.F b = some u := fun b u e => by
          split at e
          · rename_i q; cases e; exact F12 _ _ q
          · split at e
            · rename_i q; cases e; exact q
            · cases e
        have x3 : Ext true G1 H1 ⟨fun b => match G1.F b with | some u => some u | none => (match G'.F b with | some (.tup vs) => some (HO.tup vs) | _ => none), G1.M, G1.aF, G1.aI⟩ H' := by
          refine ⟨fun a o e _ t => y.keep a o e (.inl rfl) t, y.dom, fun a u e => by show (match G1.F a with | some u => some u | none => _) = _; rw [e], fun a u e => ?_, rfl, fun a h => .inl h, List.prefix_refl _, fun _ => ⟨rfl, rfl⟩⟩
          cases q : G1.F a with
          | some w =>
            have e : (match G1.F a with | some u => some u | none => (match G'.F a with | some (.tup vs) => some (HO.tup vs) | _ => none)) = some u := e
            rw [q] at e
            exact .inl e
          | none =>
            have e : (match G1.F a with | some u => some u | none => (match G'.F a with | some (.tup vs) => some (HO.tup vs) | _ => none)) = some u := e
            have e' := at3 a u e
            rw [q] at e
            simp only at e
            split at e
            · rename_i vs q2
              cases e
              rcases y.Fn a _ e' with z | z
              · have := t2 a _ z
                rw [q] at this; cases this
              · exact .inr z
            · cases e
        refine ⟨_, x3, S1.over x3 (fun a u e => T.sub a u (at3 a u e)) (fun a u e => T.fine a u (at3 a u e)) T.tb, fun a vs e => ?_⟩
        show (match G1.F a with | some u => some u | none => (match G'.F a with | some (.tup vs) => some (HO.tup vs) | _ => none)) = _
        cases q : G1.F a with
        | some w =>
          have := F12 a w q
          rw [e] at this
          exact this.symm ▸ rfl
        | none => simp only [e]
      cases e5 : gg true (qs.map (·.1) ++ dfl.drop (dvs.length - (np - (xs.length + 1)))) I1 with
      | ok s I' =>
        rw [e5] at h1
        simp only [cond_true]
        intro v G' H' y T rk
        have h1 : PR L W ro G H σ fr (match s with | .val d => bif d.still then .ok (d, .fro) I1 else .bad | _ => .bad) (RkR L H) Q := h1
        cases s with
        | val d =>
          obtain ⟨hs, h1⟩ := PR.cond (show PR L W ro G H σ fr (bif d.still then .ok (d, .fro) I1 else .bad) (RkR L H) Q from h1)
          obtain ⟨G3, x3, S3, t3⟩ := fin G' H' y T
          have r := rk _ rfl
          cases r with
          | fro r => exact h1 v G3 H' (x.trans (x3.weak ro)) S3 (.fro (still_RV t3 r hs))
        | _ => exact absurd h1 id
      | exc x' I' => rw [e5] at h1; exact absurd h1 id
      | bad => rw [e5] at h1; exact absurd h1 id
end
end Air
/-! Air: a term's run (4): walks and lists made item by item. -/
namespace Air
open PySem PySem.Spec PyProof.Rows L2
variable [Kf]
section
variable {L : Lg} {W : WX} {X : Cx} {ro ro' : Bool} {G G1 G2 : Gh} {H H1 H2 : Hp} {σ : St} {fr : Fr} {I I1 : Is}
/-! ### what is walked -/
/-- a list at a, for a walk -/
theorem src_lst {ds : List D} {k : Kd} {v : V} {H0 : Hp} {lk : Bool} (S : Sx L.c lk G fr I σ H) (h : Rk L H0 G H (.lst ds, k) v) : ∃ a vs, v = .ref a ∧ H a = some (.lst vs) ∧ RVs G.F G.M vs ds ∧ (k = .inst ∨ a ∉ G.aI) ∧ (k = .own ∨ a ∉ G.aF) := by
  have ni : ∀ a ∈ G.aF, a ∉ G.aI := fun a h1 h2 => (List.nodup_append.mp S.nd).2.2 a h1 a h2 rfl
  have sep : ∀ a u, G.F a = some u → a ∉ G.aF ∧ a ∉ G.aI := fun a u e => ⟨fun z => (by rw [S.sep a (List.mem_append_left _ z)] at e; cases e), fun z => (by rw [S.sep a (List.mem_append_right _ z)] at e; cases e)⟩
  cases h with
  | fro h =>
    cases h with
    | lst e r => exact ⟨_, _, rfl, (S.sub _ _ e).lst, r, .inr (sep _ _ e).2, .inr (sep _ _ e).1⟩
  | own e h m =>
    simp only [Sl.inn, Option.some.injEq] at e
    subst e
    obtain ⟨vs, e, r⟩ := h
    exact ⟨_, vs, rfl, e, r, .inr (ni _ m), .inl rfl⟩
  | inst e h m =>
    simp only [Sl.inn, Option.some.injEq] at e
    subst e
    obtain ⟨vs, e, r⟩ := h
    exact ⟨_, vs, rfl, e, r, .inl rfl, .inr fun z => ni _ z m⟩
  | new e h h0 h1 h2 h3 =>
    simp only [Sl.inn, Option.some.injEq] at e
    subst e
    obtain ⟨vs, e, r⟩ := h
    exact ⟨_, vs, rfl, e, r, .inr h3, .inr h2⟩
theorem wk_lst {ds : List D} {k : Kd} {a : Addr} {vs : List V} {K : PySem.W.Frag} (ha : H a = some (.lst vs)) (r : RVs G.F G.M vs ds) (h1 : k = .inst ∨ a ∉ G.aI) (h2 : k = .own ∨ a ∉ G.aF) : WkR G H (ds, k) (Itl K a) := by
  refine ⟨[a], _, _, r.length ▸ walk_list (xs := vs), fun b hb => ?_, fun G2 H2 _ _ hk => ?_, fun i v H2 H3 G2 hi hF hM hk y => ?_⟩
  · obtain rfl := List.mem_singleton.mp hb
    exact ⟨by rw [ha]; simp, h1, h2⟩
  · exact .of (hk a (by simp) _ ha fun ps z => by cases z)
  · obtain ⟨rfl, y⟩ := y
    obtain ⟨d, e, q⟩ := r.getV y
    exact ⟨d, e, .inl ⟨rfl, q.mono hF hM⟩⟩
theorem wk_tup {ds : List D} {k : Kd} {a : Addr} {vs : List V} {K : PySem.W.Frag} (S : Sx L.c ro G fr I σ H) (ha : G.F a = some (.tup vs)) (r : RVs G.F G.M vs ds) : WkR G H (ds, k) (Itt K a) := by
  have ha' := (S.sub _ _ ha).tup
  refine ⟨[a], _, _, r.length ▸ walk_tup (xs := vs), fun b hb => ?_, fun G2 H2 _ _ hk => ?_, fun i v H2 H3 G2 hi hF hM hk y => ?_⟩
  · obtain rfl := List.mem_singleton.mp hb
    exact ⟨by rw [ha']; simp, .inr fun z => (by rw [S.sep _ (List.mem_append_right _ z)] at ha; cases ha), .inr fun z => (by rw [S.sep _ (List.mem_append_left _ z)] at ha; cases ha)⟩
  · exact .of (hk a (by simp) _ ha' fun ps z => by cases z)
  · obtain ⟨rfl, y⟩ := y
    obtain ⟨d, e, q⟩ := r.getV y
    exact ⟨d, e, .inl ⟨rfl, q.mono hF hM⟩⟩
theorem wk_scr {ns : List Int} {k : Kd} {a : Addr} {o : Obj} {K : PySem.W.Frag} (S : Sx L.c ro G fr I σ H) (ha : G.F a = some (.frz o (.lst (ns.map V.int)))) : WkR G H (ns.map D.int, k) (Itl K a) := by
  have ha' := (S.sub _ _ ha).frz
  have r : RVs G.F G.M (ns.map V.int) (ns.map D.int) := .ints ns
  refine ⟨[a], _, _, r.length ▸ walk_list (xs := ns.map V.int), fun b hb => ?_, fun G2 H2 _ _ hk => ?_, fun i v H2 H3 G2 hi hF hM hk y => ?_⟩
  · obtain rfl := List.mem_singleton.mp hb
    exact ⟨by rw [ha']; simp, .inr fun z => (by rw [S.sep _ (List.mem_append_right _ z)] at ha; cases ha), .inr fun z => (by rw [S.sep _ (List.mem_append_left _ z)] at ha; cases ha)⟩
  · exact .inl (.inr ⟨o, hk a (by simp) _ ha' fun ps z => by cases z⟩)
  · obtain ⟨rfl, y⟩ := y
    obtain ⟨d, e, q⟩ := r.getV y
    exact ⟨d, e, .inl ⟨rfl, q.mono hF hM⟩⟩
theorem wk_scrK {ns : List Int} {k : Kd} {a : Addr} (ha : ∀ H : Hp, SqL Kf.K H a (ns.map V.int)) : WkR G H (ns.map D.int, k) (Itl Kf.K a) := by
  have r : RVs G.F G.M (ns.map V.int) (ns.map D.int) := .ints ns
  refine ⟨[], _, _, r.length ▸ walk_list (xs := ns.map V.int), fun b hb => by simp at hb, fun G2 H2 _ _ hk => ha H2, fun i v H2 H3 G2 hi hF hM hk y => ?_⟩
  obtain ⟨rfl, y⟩ := y
  obtain ⟨d, e, q⟩ := r.getV y
  exact ⟨d, e, .inl ⟨rfl, q.mono hF hM⟩⟩
theorem wk_str {z : Str} {k : Kd} (hz : PyData.strOk z = true) : WkR G H (z.cps.toList.map fun c => D.str ⟨#[c]⟩, k) (Its z) := by
  refine ⟨[], _, _, by rw [List.length_map, Array.length_toList]; exact walk_str, fun b hb => by simp at hb, fun _ _ _ _ _ => trivial, fun i v H2 H3 G2 hi hF hM hk y => ?_⟩
  obtain ⟨rfl, c, e, rfl⟩ := y
  refine ⟨.str ⟨#[c]⟩, by rw [List.getElem?_map, Array.getElem?_toList, e]; rfl, .inl ⟨rfl, .str _ ?_⟩⟩
  exact strOk_sub hz (l := [c]) fun d hd => by
    rw [List.mem_singleton.mp hd]
    exact List.mem_of_getElem? (by rw [Array.getElem?_toList]; exact e)
theorem rngL_len (lo hi : Int) : (rngL lo hi).length = (hi - lo).toNat := by simp [rngL]
theorem wk_rng {lo hi : Int} {k : Kd} : WkR G H (rngL lo hi, k) (Itr lo (hi - lo).toNat) := by
  refine ⟨[], _, _, by rw [rngL_len]; exact walk_range, fun b hb => by simp at hb, fun _ _ _ _ _ => trivial, fun i v H2 H3 G2 h hF hM hk y => ?_⟩
  obtain ⟨rfl, rfl⟩ := y
  rw [rngL_len] at h
  refine ⟨.int (lo + i), ?_, .inl ⟨rfl, .int _⟩⟩
  unfold rngL
  rw [List.getElem?_map, List.getElem?_range h]; rfl
theorem enmL_get : ∀ (xs : List D) (k i : Nat), (enmL k xs)[i]? = xs[i]?.map fun d => .tup [.int ((k + i : Nat) : Int), d]
  | [], k, i => by simp [enmL]
  | x :: xs, k, 0 => by simp [enmL]
  | x :: xs, k, i + 1 => by
    rw [enmL, List.getElem?_cons_succ, List.getElem?_cons_succ, enmL_get xs (k + 1) i]
    rw [show k + 1 + i = k + (i + 1) by omega]
theorem enmL_len : ∀ (xs : List D) (k : Nat), (enmL k xs).length = xs.length
  | [], _ => rfl
  | x :: xs, k => by simp [enmL, enmL_len xs]
theorem wk_enm {ds : List D} {k : Kd} {a : Addr} {vs : List V} {K : PySem.W.Frag} (ha : H a = some (.lst vs)) (r : RVs G.F G.M vs ds) (h1 : k = .inst ∨ a ∉ G.aI) (h2 : k = .own ∨ a ∉ G.aF) : WkR G H (enmL 0 ds, k) (Ite K a) := by
  refine ⟨[a], _, _, by rw [enmL_len, ← r.length]; exact walk_enum (xs := vs), fun b hb => ?_, fun G2 H2 _ _ hk => ?_, fun i v H2 H3 G2 hi hF hM hk y => ?_⟩
  · obtain rfl := List.mem_singleton.mp hb
    exact ⟨by rw [ha]; simp, h1, h2⟩
  · exact .of (hk a (by simp) _ ha fun ps z => by cases z)
  · obtain ⟨T, x, z, e1, e2, e3, e4, e5⟩ := y
    cases e4
    obtain ⟨d, e, q⟩ := r.getV e5
    refine ⟨.tup [.int i, d], by rw [enmL_get, e]; simp, .inr ⟨T, _, _, e1, e2, e3, rfl, .cons (.int _) (.cons (q.mono hF hM) .nil)⟩⟩
theorem zpL_get : ∀ (xs ys : List D) (i : Nat) (x y : D), xs[i]? = some x → ys[i]? = some y → (zpL xs ys)[i]? = some (.tup [x, y])
  | [], _, i, _, _, h, _ => by simp at h
  | _ :: _, [], i, _, _, _, h => by simp at h
  | x :: xs, y :: ys, 0, _, _, h1, h2 => by simp at h1 h2; subst h1 h2; rfl
  | x :: xs, y :: ys, i + 1, a, b, h1, h2 => by
    rw [zpL, List.getElem?_cons_succ]
    exact zpL_get xs ys i a b (by simpa using h1) (by simpa using h2)
theorem zpL_len : ∀ (xs ys : List D), (zpL xs ys).length = min xs.length ys.length
  | [], ys => by simp [zpL]
  | x :: xs, [] => by simp [zpL]
  | x :: xs, y :: ys => by simp only [zpL, List.length_cons, zpL_len xs ys]; omega
theorem wk_zp {ds es : List D} {k : Kd} {a b : Addr} {vs ws : List V} {K : PySem.W.Frag} (ha : H a = some (.lst vs)) (r : RVs G.F G.M vs ds) (h1 : k = .inst ∨ a ∉ G.aI) (h2 : k = .own ∨ a ∉ G.aF)
    (hb : H b = some (.lst ws)) (q : RVs G.F G.M ws es) (h3 : k = .inst ∨ b ∉ G.aI) (h4 : k = .own ∨ b ∉ G.aF) : WkR G H (zpL ds es, k) (Itz K a b) := by
  refine ⟨[a, b], _, _, walk_zip (xs := vs) (ys := ws) (by rw [zpL_len, ← r.length, ← q.length]), fun c hc => ?_, fun G2 H2 _ _ hk => ?_, fun i v H2 H3 G2 hi hF hM hk y => ?_⟩
  · simp only [List.mem_cons, List.not_mem_nil, or_false] at hc
    rcases hc with rfl | rfl
    · exact ⟨by rw [ha]; simp, h1, h2⟩
    · exact ⟨by rw [hb]; simp, h3, h4⟩
  · exact ⟨.of (hk a (by simp) _ ha fun ps z => by cases z), .of (hk b (by simp) _ hb fun ps z => by cases z)⟩
  · obtain ⟨T, x, z, e1, e2, e3, e4, e5⟩ := y
    obtain ⟨d, g1, g2⟩ := r.getV e4
    obtain ⟨e, g3, g4⟩ := q.getV e5
    exact ⟨.tup [d, e], zpL_get _ _ _ _ _ g1 g3, .inr ⟨T, _, _, e1, e2, e3, rfl, .cons (g2.mono hF hM) (.cons (g4.mono hF hM) .nil)⟩⟩
/-! ### targets -/
theorem sto_of {fb : Str → Bool} (hf : ∀ x, fb x = true → X.fn x = true) {x : Str} (h : stoB fb X.env.scope x = true) : Loc X.env.scope x ∧ (X.fn x = true ∨ X.env.scope.names.lookup x = some .local) := by
  unfold stoB at h
  split at h
  · rename_i e; exact ⟨.inl e, .inr e⟩
  · rename_i e; exact ⟨.inr e, .inl (hf x h)⟩
  · cases h
theorem pgs_names {N : List Str} (hN : X.N = N) (hnd : X.N.Nodup) {fb : Str → Bool} (hf : ∀ x, fb x = true → X.fn x = true) : ∀ {is : List Nat} {es : List Expr}, is.length = es.length → ((is.zip es).all fun p => match p.2 with | .Name x _ => decide (N[p.1]? = some x) && stoB fb X.env.scope x | _ => false) = true →
    PGs X es (fun vs σ H Q => vs.length = is.length ∧ Q ((is.zip vs).foldl (fun σ p => σ.set p.1 (some p.2)) σ) H) ∧ (assignEach es X.env).length = es.length ∧ (assignEach es X.env).findIdx? (·.1) = none
  | [], [], _, _ => by
    refine ⟨⟨fun pins s σ H vs us Q I r h => pgs_nil.run pins s σ H vs us Q I r ⟨List.length_eq_zero_iff.mp h.1, ?_⟩⟩, rfl, rfl⟩
    have := List.length_eq_zero_iff.mp h.1
    subst this
    exact h.2
  | [], _ :: _, h, _ => by simp at h
  | _ :: _, [], h, _ => by simp at h
  | i :: is, e :: es, hl, h => by
    rw [List.zip_cons_cons, List.all_cons, Bool.and_eq_true] at h
    obtain ⟨h1, h2⟩ := h
    obtain ⟨g1, g2, g3⟩ := pgs_names hN hnd hf (by simpa using hl) h2
    cases e with
    | Name x pos =>
      simp only [Bool.and_eq_true, decide_eq_true_eq] at h1
      have pn : PG X (.Name x pos) (gName i) := pg_name hnd (hN ▸ h1.1) (sto_of hf h1.2).1 (sto_of hf h1.2).2
      refine ⟨⟨fun pins s σ H vs us Q I r h => (pgs_cons pn g1 (by rfl)).run pins s σ H vs us Q I r ?_⟩, ?_, ?_⟩
      · obtain ⟨q1, q2⟩ := h
        cases vs with
        | nil => simp at q1
        | cons v vs => exact ⟨v, vs, rfl, by simpa using q1, q2⟩
      · show (assignEach es X.env).length + 1 = es.length + 1
        rw [g2]
      · show (List.findIdx? (·.1) ((false, _) :: assignEach es X.env)) = none
        rw [List.findIdx?_cons, if_neg (by simp), g3]; rfl
    | _ => cases h1
/-- a target takes a value -/
def gA (K : PySem.W.Frag) (tg : Tg) : TG := fun v σ H Q => match tg with
  | .nm i => Q (σ.set i (some v)) H
  | .tp is => ∃ a vs, v = .ref a ∧ SqT K H a vs ∧ vs.length = is.length ∧ Q ((is.zip vs).foldl (fun σ p => σ.set p.1 (some p.2)) σ) H
theorem pg_A (hc : X.calm = true) (hnd : X.N.Nodup) {fb : Str → Bool} (hf : ∀ x, fb x = true → X.fn x = true) {tg : Tg} {e : Expr} (h : tgB fb X.env.scope X.N tg e = true) : PG X e (gA X.K tg) := by
  cases tg with
  | nm i =>
    cases e with
    | Name x pos =>
      simp only [tgB, Bool.and_eq_true, decide_eq_true_eq] at h
      exact pg_name hnd h.1 (sto_of hf h.2).1 (sto_of hf h.2).2
    | _ => cases h
  | tp is =>
    cases e with
    | Tuple es k pos =>
      simp only [tgB, Bool.and_eq_true, decide_eq_true_eq] at h
      obtain ⟨g1, g2, g3⟩ := pgs_names rfl hnd hf h.1 h.2
      refine ⟨fun pins s σ H v u Q I r q => (pg_tup (n := es.length) hc g1 g2 g3).run pins s σ H v u Q I r ?_⟩
      obtain ⟨a, vs, e1, e2, e3, e4⟩ := q
      exact ⟨a, vs, e1, e2, by rw [e3]; exact h.1, e3, e4⟩
    | _ => cases h
/-- a slot of the frame takes a value that stands still -/
theorem FrR.put {F : Hp} {M : List (Addr × Addr)} {as : List Addr} (h : FrR F M H σ fr as) (i : Nat) {v : V} {d : D} (r : RV F M v d) : ∃ bs, FrR F M H (σ.set i (some v)) (fr.set i (.val d)) bs ∧ bs.Sublist as := by
  induction h generalizing i with
  | nil => exact ⟨[], .nil, .refl _⟩
  | cons h0 h1 ih =>
    rename_i as1 bs1 σ1 fr1
    cases i with
    | zero => exact ⟨[] ++ bs1, .cons (as := []) ⟨rfl, v, rfl, r⟩ h1, List.sublist_append_right _ _⟩
    | succ i =>
      obtain ⟨bs, h2, h3⟩ := ih i
      exact ⟨as1 ++ bs, .cons h0 h2, (List.Sublist.refl _).append h3⟩
theorem FrR.wipe1 {F : Hp} {M : List (Addr × Addr)} {as : List Addr} (h : FrR F M H σ fr as) (i : Nat) : ∃ bs, FrR F M H (σ.set i none) (fr.set i .no) bs ∧ bs.Sublist as := by
  induction h generalizing i with
  | nil => exact ⟨[], .nil, .refl _⟩
  | cons h0 h1 ih =>
    rename_i as1 bs1 σ1 fr1
    cases i with
    | zero => exact ⟨[] ++ bs1, .cons (s := .no) rfl h1, List.sublist_append_right _ _⟩
    | succ i =>
      obtain ⟨bs, h2, h3⟩ := ih i
      exact ⟨as1 ++ bs, .cons h0 h2, (List.Sublist.refl _).append h3⟩
theorem FrR.wipe {F : Hp} {M : List (Addr × Addr)} {as : List Addr} (h : FrR F M H σ fr as) : ∀ (own : List (Str × Nat)), ∃ bs, FrR F M H (L2.wipe σ (own.map (·.2))) (wipeF fr own) bs ∧ bs.Sublist as
  | [] => ⟨as, h, .refl _⟩
  | p :: own => by
    obtain ⟨bs, h1, h2⟩ := FrR.wipe h own
    obtain ⟨cs, h3, h4⟩ := h1.wipe1 p.2
    exact ⟨cs, h3, h4.trans h2⟩
/-- the frame is another one, with fewer containers of its own -/
theorem Sx.frame {σ' : St} {fr' : Fr} {bs : List Addr} (S : Sx L.c ro G fr I σ H) (h : FrR G.F G.M H σ' fr' bs) (hs : bs.Sublist G.aF) : Sx L.c ro { G with aF := bs } fr' I σ' H :=
  ⟨h, S.is, S.nd.sublist (hs.append (.refl _)), fun a ha => S.sep a ((hs.append (.refl _)).subset ha), S.sub, S.fine, S.tb⟩
theorem asg_fold {F : Hp} {M : List (Addr × Addr)} : ∀ {is : List Nat} {vs : List V} {ds : List D} {σ : St} {fr : Fr} {as : List Addr}, FrR F M H σ fr as → RVs F M vs ds → ∃ bs, FrR F M H ((is.zip vs).foldl (fun σ p => σ.set p.1 (some p.2)) σ) ((is.zip ds).foldl (fun fr p => fr.set p.1 (.val p.2)) fr) bs ∧ bs.Sublist as
  | [], _, _, _, _, as, h, _ => by simp only [List.zip_nil_left, List.foldl_nil]; exact ⟨as, h, .refl _⟩
  | i :: is, _, _, _, _, as, h, .nil => by simp only [List.zip_nil_right, List.foldl_nil]; exact ⟨as, h, .refl _⟩
  | i :: is, _, _, _, _, as, h, .cons r rs => by
    obtain ⟨bs, h1, h2⟩ := h.put i r
    obtain ⟨cs, h3, h4⟩ := asg_fold (is := is) h1 rs
    exact ⟨cs, by simpa only [List.zip_cons_cons, List.foldl_cons] using h3, h4.trans h2⟩
theorem set_wipe {σ : St} {v : Option V} {i : Nat} : ∀ {vs : List Nat}, i ∈ vs → L2.wipe (σ.set i v) vs = L2.wipe σ vs
  | [], h => by simp at h
  | j :: vs, h => by
    by_cases hj : i = j
    · subst hj
      by_cases hm : i ∈ vs
      · unfold L2.wipe; rw [set_wipe hm]
      · unfold L2.wipe
        have : ∀ vs : List Nat, i ∉ vs → L2.wipe (σ.set i v) vs = (L2.wipe σ vs).set i v := fun vs hm => by
          induction vs with
          | nil => rfl
          | cons k vs ih =>
            have hk : k ≠ i := fun e => hm (by simp [e])
            have hn : i ∉ vs := fun e => hm (by simp [e])
            unfold L2.wipe
            rw [ih hn, List.set_comm _ _ hk.symm]
        rw [this vs hm, List.set_set]
    · have hm : i ∈ vs := (List.mem_cons.mp h).resolve_left hj
      unfold L2.wipe; rw [set_wipe hm]
theorem fold_wipe {vs : List Nat} : ∀ {is : List Nat} {ws : List V} {σ : St}, (∀ i ∈ is, i ∈ vs) → L2.wipe ((is.zip ws).foldl (fun σ p => σ.set p.1 (some p.2)) σ) vs = L2.wipe σ vs
  | [], ws, σ, _ => by simp
  | i :: is, [], σ, _ => by simp
  | i :: is, w :: ws, σ, h => by
    rw [List.zip_cons_cons, List.foldl_cons, fold_wipe (is := is) fun j hj => h j (List.mem_cons_of_mem _ hj), set_wipe (h i List.mem_cons_self)]
theorem wipe_wipe {σ : St} : ∀ {vs ws : List Nat}, (∀ i ∈ ws, i ∈ vs) → L2.wipe (L2.wipe σ ws) vs = L2.wipe σ vs
  | vs, [], _ => rfl
  | vs, w :: ws, h => by
    show L2.wipe ((L2.wipe σ ws).set w none) vs = _
    rw [set_wipe (h w List.mem_cons_self), wipe_wipe fun i hi => h i (List.mem_cons_of_mem _ hi)]
/-- a target takes an item: gA's reading -/
theorem gA_run {K : PySem.W.Frag} {tg : Tg} {d : D} {v : V} {fr' : Fr} {Q : St → Hp → Prop} (S : Sx L.c ro G fr I σ H) (r : RV G.F G.M v d) (e : asgT tg d fr = some fr') (h : ∀ σ' bs, FrR G.F G.M H σ' fr' bs → bs.Sublist G.aF → (∀ vs, (∀ i ∈ tg.ix, i ∈ vs) → L2.wipe σ' vs = L2.wipe σ vs) → Q σ' H) : gA K tg v σ H Q := by
  cases tg with
  | nm i =>
    cases e
    obtain ⟨bs, h1, h2⟩ := S.fr.put i r
    exact h _ _ h1 h2 fun vs hv => set_wipe (hv i (by simp [Tg.ix]))
  | tp is =>
    cases d with
    | tup ds =>
      simp only [asgT] at e
      cases q : decide (is.length = ds.length) with
      | false => rw [q] at e; cases e
      | true =>
        rw [q] at e
        cases e
        cases r with
        | tup e1 r =>
          obtain ⟨bs, h1, h2⟩ := asg_fold (is := is) S.fr r
          exact ⟨_, _, rfl, .of (S.sub _ _ e1).tup, by rw [r.length, of_decide_eq_true q], h _ _ h1 h2 fun vs hv => fold_wipe hv⟩
    | _ => cases e
/-- back from a frame of the same names -/
theorem frame_back {ro' : Bool} {I2 : Is} {bs : List Addr} {σ2 : St} {fr2 : Fr} (S : Sx L.c ro G fr I σ H) (x : Ext ro' { G with aF := bs } H G2 H2) (S2 : Sx L.c ro' G2 fr2 I2 σ2 H2) : Ext ro' G H { G2 with aF := G.aF } H2 ∧ Sx L.c ro' { G2 with aF := G.aF } fr I2 σ H2 := by
  have ni : ∀ a ∈ G.aF, a ∉ G.aI := fun a h1 h2 => (List.nodup_append.mp S.nd).2.2 a h1 a h2 rfl
  have kp : ∀ a ∈ G.aF, Kp H H2 a := fun a ha o e t => x.keep a o e (.inr (ni a ha)) t
  refine ⟨⟨x.keep, x.dom, x.F, x.Fn, rfl, x.aI, x.M, x.ro⟩, ⟨S.fr.mono x.F x.M kp, S2.is, ?_, fun a ha => ?_, S2.sub, S2.fine, S2.tb⟩⟩
  · refine List.nodup_append.mpr ⟨(List.nodup_append.mp S.nd).1, (List.nodup_append.mp S2.nd).2.1, fun a h1 b h2 e => ?_⟩
    subst e
    exact (x.aI a h2).elim (ni a h1) fun z => S.fr.there a h1 z
  · show G2.F a = none
    rcases List.mem_append.mp ha with h | h
    · cases q : G2.F a with
      | none => rfl
      | some u =>
        rcases x.Fn a u q with z | z
        · have := S.sep a (List.mem_append_left _ h)
          rw [this] at z; cases z
        · exact absurd z (S.fr.there a h)
    · exact S2.sep a (List.mem_append_right _ h)
end
end Air
/-! Air: a term's run (5): the main theorem. -/
namespace Air
open PySem PySem.Spec PyProof.Rows L2
variable [Kf]
abbrev noW : WX := fun _ _ _ _ => False
section
variable {L : Lg} {W : WX} {X : Cx} {ro ro' : Bool} {G G1 G2 : Gh} {H H1 H2 : Hp} {σ : St} {fr : Fr} {I I1 : Is}
/-- the same, no lambda within -/
def Lg.nl (L : Lg) : Lg := { L with kn := knO L.kn }
theorem nl_kn {L : Lg} {x : Str} {p : Nat × Nat} (h : L.nl.kn x = some p) : L.kn x = some p := by
  have h : (if x = "<lambda>" then none else L.kn x) = some p := h
  split at h
  · cases h
  · exact h
theorem nl_no {L : Lg} (p : Nat × Nat) : ¬ L.nl.kn "<lambda>" = some p := by
  intro h
  have h : (if ("<lambda>" : Str) = "<lambda>" then none else L.kn "<lambda>") = some p := h
  rw [if_pos rfl] at h; cases h
theorem Good.blk (g : Good L X W) (s : Shared) (H : Hp) (scope : Scope) (cenv : Env) (fp : List Addr) : Good L.nl (X.blk s H scope cenv fp) noW where
  K := g.K
  mg := g.mg
  calm := g.calm
  nd := g.nd
  hu := g.hu
  tk := fun u s' x => by
    obtain ⟨a, B, sI, pins, σ, H, cls, d, _, _, _, _, _, _, _, _, w⟩ := x
    exact w
  po := PassesOwn.never
  bi := g.bi
  cn := fun x h => g.cn x (nl_kn h)
  xc := fun c h => g.xc c (nl_kn h)
  lam := fun h => absurd h (nl_no _)
  tel := fun h => g.tel (nl_kn h)
  k := by
    obtain ⟨k, h1, _, h2⟩ := g.k
    exact ⟨k, h1, fun h => absurd h (nl_no _), fun x np nd h hd => by
      obtain ⟨f, fd, ps, dvs, dfl, gg, e1, e2, F⟩ := h2 x np nd (nl_kn h) hd
      exact ⟨f, fd, ps, dvs, dfl, gg, e1, e2, F.kn⟩⟩
theorem quiet_ok {α β : Type} {r : R α} {f : α → Is → R β} {rel : Gh → Hp → β → V → Prop} {Q : VK} (h : PR L W ro G H σ fr (r.quiet.bind f) rel Q) : ∃ a I', r = .ok a I' ∧ PR L W ro G H σ fr (f a I') rel Q := by
  cases r with
  | ok a I' => exact ⟨a, I', rfl, h⟩
  | exc x I' => exact absurd h id
  | bad => exact absurd h id
theorem PR.okay {α β : Type} {r : R α} {a : α} {I' : Is} {rel : Gh → Hp → α → β → Prop} {Q : β → Hp → Prop} (e : r = .ok a I') (h : ∀ v G' H', Ext ro G H G' H' → Sx L.c ro G' fr I' σ H' → rel G' H' a v → Q v H') : PR L W ro G H σ fr r rel Q := by
  subst e; exact h
theorem te_lc {K : PySem.W.Frag} {own : List (Str × Nat)} {elt it cond : Tm} {tg : Tg} (hix : ∀ j ∈ tg.ix, j ∈ own.map (·.2)) {σ : St} {H : Hp} {Q : VK} (h : te L W (.lc own elt tg it cond) σ H Q) : tLc (ti L W it) (gA K tg) (tc L noW cond) (te L noW elt) (own.map (·.2)) σ H Q := by
  obtain ⟨ro, G, fr, I, S, h⟩ := h
  simp only [ev] at h
  refine ⟨ro, G, fr, I, S, PR.imp (PR.bind (rel := fun G' H' p J => WkR G' H' p J) h) (fun _ _ _ _ r => r) ?_⟩
  rintro J H1 ⟨p, I1, G1, _, x, S1, wk, h1⟩
  obtain ⟨ds, I2, hl, h2⟩ := quiet_ok h1
  obtain ⟨hlim, h2⟩ := PR.cond h2
  have hlim := of_decide_eq_true hlim
  intro Da hD
  obtain ⟨src, Gd, Y, w, w1, w2, w3⟩ := wk
  generalize hro : (ro || isInst p.2) = ro' at hl
  generalize hstep : (fun (fr : Fr) (I : Is) => (evC L.cn L.cf cond ro' fr I).bind fun t I => bif t then (ev L.cn L.cf elt ro' fr I).fz fun d I => .ok (some d) I else .ok none I) = step at hl
  have S1' : Sx L.c ro' G1 fr I1 σ H1 := by
    cases ro' with
    | false => simp only [Bool.or_eq_false_iff] at hro; rw [hro.1] at S1; exact S1
    | true => cases ro with
      | true => exact S1
      | false => exact S1.weak true
  have srcK : ∀ {Gc : Gh} {Hc : Hp}, Ext ro' G1 H1 Gc Hc → ∀ a ∈ src, Kp H1 Hc a := fun y a ha o e t => y.keep a o e (by
    rcases (w1 a ha).2.1 with z | z
    · left; rw [← hro, z]; simp [isInst]
    · exact .inr z) t
  -- the state between two turns
  let Pv : Nat → Hp → Prop := fun j Hc => ∃ (Gc : Gh) (Ic : Is) (vs : List V) (as rs : List D), Ext ro' G1 H1 Gc Hc ∧ Sx L.c ro' Gc fr Ic σ Hc ∧ Hc Da = some (.lst vs) ∧ RVs Gc.F Gc.M vs as ∧ Gc.F Da = none ∧ Da ∉ Gc.aF ∧ Da ∉ Gc.aI ∧
    lcL step tg (wipeF fr own) (p.1.drop j) Ic = .ok rs I2 ∧ ds = as ++ rs
  refine lc_it w (fun j Hc => Pv j Hc) ?_ ?_ ?_ ?_
  · exact ⟨G1, I1, [], [], ds, Ext.new hD, S1'.new hD, upd_same, .nil, S1.notF hD, S1.notFr hD, S1.notIs hD, hl, rfl⟩
  · rintro j Hc _ ⟨Gc, Ic, vs, as, rs, y, _⟩
    exact w2 Gc Hc y.F y.M (srcK y)
  · rintro j v Hc H' hj ⟨Gc, Ic, vs, as, rs, y, Sc, cD, cr, nF, nA, nI, hrs, hds⟩ hy
    obtain ⟨d, hd, yl⟩ := w3 j v Hc H' Gc hj y.F y.M (srcK y) hy
    -- the item
    obtain ⟨G3, y3, S3, r3, c3, f3, a3, i3, cr3⟩ : ∃ G3, Ext ro' G1 H1 G3 H' ∧ Sx L.c ro' G3 fr Ic σ H' ∧ RV G3.F G3.M v d ∧ H' Da = some (.lst vs) ∧ G3.F Da = none ∧ Da ∉ G3.aF ∧ Da ∉ G3.aI ∧ RVs G3.F G3.M vs as := by
      rcases yl with ⟨rfl, r⟩ | ⟨T, ws, es, rfl, hT, rfl, rfl, r⟩
      · exact ⟨Gc, y, Sc, r, cD, nF, nA, nI, cr⟩
      · have hTD : Da ≠ T := ne_of_none cD hT
        refine ⟨Gc.put T (.tup ws), (y.trans (Ext.new hT)).put (y.dom _ hT) (Sc.notF hT), (Sc.new hT).freeze trivial (.inl upd_same) (Sc.notFr hT) (Sc.notIs hT) (Sc.notF hT), .tup upd_same (r.mono (put_mono (Sc.notF hT)) (List.prefix_refl _)), by rw [upd_ne hTD]; exact cD, ?_, nA, nI, cr.mono (put_mono (Sc.notF hT)) (List.prefix_refl _)⟩
        show upd Gc.F T _ Da = none
        rw [upd_ne hTD]; exact nF
    have hdrop : p.1.drop j = d :: p.1.drop (j + 1) := by
      obtain ⟨hj2, e⟩ := List.getElem?_eq_some_iff.mp hd
      rw [List.drop_eq_getElem_cons hj2, e]
    rw [hdrop] at hrs
    unfold lcL at hrs
    cases ea : asgT tg d (wipeF fr own) with
    | none => rw [ea] at hrs; cases hrs
    | some fr' =>
      rw [ea] at hrs
      simp only at hrs
      obtain ⟨bs0, fw, sw⟩ := S3.fr.wipe own
      have Sw := S3.frame fw sw
      refine gA_run Sw r3 ea fun σ' bs fb sb wp => ⟨?_, ?_⟩
      · rw [wp _ hix, wipe_wipe fun i hi => hi]
      · have S4 : Sx L.c ro' { G3 with aF := bs } fr' Ic σ' H' := S3.frame fb (sb.trans sw)
        cases es : step fr' Ic with
        | exc x' I' => rw [es] at hrs; cases hrs
        | bad => rw [es] at hrs; cases hrs
        | ok o I7 =>
        rw [es] at hrs
        simp only [R.bind] at hrs
        have es : (evC L.cn L.cf cond ro' fr' Ic).bind (fun t I => bif t then (ev L.cn L.cf elt ro' fr' I).fz fun d I => .ok (some d) I else .ok none I) = .ok o I7 := by rw [← es, ← hstep]
        cases er : lcL step tg (wipeF fr own) (p.1.drop (j + 1)) I7 with
        | exc x' I' => rw [er] at hrs; cases hrs
        | bad => rw [er] at hrs; cases hrs
        | ok ys I8 =>
        rw [er] at hrs
        simp only [R.ok.injEq] at hrs
        obtain ⟨rfl, rfl⟩ := hrs
        cases ec : evC L.cn L.cf cond ro' fr' Ic with
        | exc x' I' => rw [ec] at es; cases es
        | bad => rw [ec] at es; cases es
        | ok tb I3 =>
          rw [ec] at es
          have es : (bif tb then (ev L.cn L.cf elt ro' fr' I3).fz fun d I => .ok (some d) I else .ok none I3) = .ok o I7 := es
          refine ⟨ro', _, fr', Ic, S4, PR.okay ec fun b G5 H5 y5 S5 hb => ?_⟩
          subst hb
          obtain ⟨z5, T5⟩ := frame_back S3 y5 S5
          have D5 : H5 Da = some (.lst vs) := y5.keep Da _ c3 (.inr i3) fun ps z => by cases z
          have nD : H' Da ≠ none := by rw [c3]; simp
          have f5 : G5.F Da = none := by
            cases q : G5.F Da with
            | none => rfl
            | some u =>
              rcases y5.Fn Da u q with z | z
              · have z : G3.F Da = some u := z
                rw [f3] at z; cases z
              · exact absurd z nD
          have i5 : Da ∉ G5.aI := fun z => (y5.aI Da z).elim i3 nD
          cases b with
          | false =>
            rw [if_neg Bool.false_ne_true]
            simp only [cond_false, R.ok.injEq] at es
            obtain ⟨rfl, rfl⟩ := es
            exact ⟨_, I3, vs, as, ys, y3.trans z5, T5, D5, cr3.mono y5.F y5.M, f5, a3, i5, er, by rw [hds]; rfl⟩
          | true =>
            rw [if_pos rfl]
            simp only [cond_true] at es
            cases ee : ev L.cn L.cf elt ro' fr' I3 with
            | exc x' I' => rw [ee] at es; cases es
            | bad => rw [ee] at es; cases es
            | ok q I4 =>
              rw [ee] at es
              simp only [R.fz, R.bind] at es
              cases ef : frzK q with
              | none => rw [ef] at es; cases es
              | some dd =>
                rw [ef] at es
                simp only [R.ok.injEq] at es
                obtain ⟨rfl, rfl⟩ := es
                refine ⟨ro', G5, fr', I3, S5, PR.okay ee fun v6 G6 H6 y6 S6 r6 => ?_⟩
                obtain ⟨w6, hdd⟩ := r6.w ef
                have Dn5 : H5 Da ≠ none := by rw [D5]; simp
                have D6 : H6 Da = some (.lst vs) := y6.keep Da _ D5 (.inr i5) fun ps z => by cases z
                obtain ⟨G7, g7, x7, S7, r7⟩ := frz_one y6 S6 w6
                have y7 := y5.trans x7
                obtain ⟨z7, T7⟩ := frame_back S3 y7 S7
                have i7 : Da ∉ G7.aI := fun z => (y7.aI Da z).elim i3 nD
                have f7 : G7.F Da = none := by
                  cases q : G7.F Da with
                  | none => rfl
                  | some u =>
                    rcases y7.Fn Da u q with z | z
                    · have z : G3.F Da = some u := z
                      rw [f3] at z; cases z
                    · exact absurd z nD
                refine ⟨vs, D6, ?_, ?_⟩
                · have l1 := cr.length
                  have l2 : ds.length = as.length + (ys.length + 1) := by rw [hds]; simp
                  rw [← lim_eq]; omega
                · -- the list has one more
                  have nT : ∀ o, H6 Da = some o → (∀ ps, o ≠ .tbl ps) := fun o e ps z => by rw [D6] at e; rw [z] at e; cases e
                  refine ⟨{ G7 with aF := G3.aF }, I4, vs ++ [v6], as ++ [dd], ys, ?_, ?_, upd_same, (cr3.mono y7.F y7.M).append (.cons (hdd ▸ r7) .nil), f7, a3, i7, er, by rw [hds]; simp⟩
                  · have b0 := y3.trans z7
                    refine ⟨fun a o e hk tb => ?_, fun a e => ?_, b0.F, b0.Fn, b0.aF, b0.aI, b0.M, b0.ro⟩
                    · rw [upd_ne (ne_of_none e hD)]
                      exact b0.keep a o e hk tb
                    · by_cases ha : a = Da
                      · subst ha; exact hD
                      · rw [upd_ne ha] at e; exact b0.dom a e
                  · have kp : ∀ a, a ≠ Da → Kp H6 (upd H6 Da (.lst (vs ++ [v6]))) a := fun a ha o e _ => by rw [upd_ne ha]; exact e
                    refine ⟨T7.fr.mono (fun _ _ e => e) (List.prefix_refl _) fun a ha => kp a fun z => a3 (z ▸ ha), T7.is.mono (fun _ _ e => e) (List.prefix_refl _) (fun a ha => kp a fun z => i7 (z ▸ ha)) (fun a p e => ?_), T7.nd, T7.sep, fun a u e => ?_, T7.fine, ?_⟩
                    · rw [upd_ne]
                      · exact e
                      · rintro rfl; rw [D6] at e; cases e
                    · refine (T7.sub a u e).mono fun o q => ?_
                      rw [upd_ne]
                      · exact q
                      · rintro rfl
                        have e : G7.F a = some u := e
                        rw [f7] at e; cases e
                    · intro q hq
                      obtain ⟨ps, h1, h2, h3⟩ := T7.tb q hq
                      refine ⟨ps, ?_, h2, fun pos cv hc => ?_⟩
                      · rw [upd_ne]
                        · exact h1
                        · rintro z; rw [z, D6] at h1; cases h1
                      · obtain ⟨c, e1, e2⟩ := h3 pos cv hc
                        refine ⟨c, e1, ?_⟩
                        rw [upd_ne]
                        · exact e2
                        · rintro rfl
                          rw [D6] at e2
                          unfold LamX.CodeO at e2
                          cases e2
  · rintro Hc ⟨Gc, Ic, vs, as, rs, y, Sc, cD, cr, nF, nA, nI, hrs, hds⟩
    rw [List.drop_length] at hrs
    unfold lcL at hrs
    simp only [R.ok.injEq] at hrs
    obtain ⟨rfl, rfl⟩ := hrs
    rw [List.append_nil] at hds
    subst hds
    have hI : ro' = true → ro = false → Ic = I1 := fun h1 _ => by
      subst h1
      have k := keeps_lcL (I := I1) (tg := tg) (fr := wipeF fr own) (step := fun fr I => (evC L.cn L.cf cond true fr I).bind fun t I => bif t then (ev L.cn L.cf elt true fr I).fz fun d I => .ok (some d) I else .ok none I) (fun fr => keeps_bind ((ev_keeps cond).2.2.2.1 _ _) fun t => keeps_cond (keeps_bind ((ev_keeps elt).1 _ _) fun q => by split <;> first | trivial | exact keeps_ok _ _) (keeps_ok _ _)) p.1
      rw [hstep, hl] at k
      exact k
    have fin : Ext ro G H Gc Hc ∧ Sx L.c ro Gc fr Ic σ Hc := by
      cases ro with
      | true =>
        have e : ro' = true := by rw [← hro]; rfl
        subst e
        exact ⟨x.trans y, Sc⟩
      | false =>
        cases ro' with
        | false => exact ⟨x.trans y, Sc⟩
        | true =>
          have e := hI rfl rfl
          subst e
          exact ⟨x.trans (y.weak false), S1.strong y Sc⟩
    exact h2 _ Gc Hc fin.1 fin.2 (.new (s := .lst ds) rfl ⟨vs, cD, cr⟩ (x.dom _ hD) nF nA nI)
theorem pe_lcA (g : Good L X W) {own : List (Str × Nat)} {elt it cond : Tm} {tg : Tg} {e t i : Expr} {ifs : List Expr} {scope : Scope} {pos : Pos} (hb : blkC X.N X.env.scope scope own = true) (ht : tgB (celB scope) (relS scope X.env.scope) X.N tg t = true) (hix : ∀ j ∈ tg.ix, j ∈ own.map (·.2)) (hs : notSet i = true)
    (hi : PI X t i (ti L W it)) (hc : ∀ X', Good L.nl X' noW → X'.env.scope = relS scope X.env.scope → X'.N = X.N → PTs X' ifs (tc L noW cond)) (he : ∀ X', Good L.nl X' noW → X'.env.scope = relS scope X.env.scope → X'.N = X.N → PE X' e (te L noW elt)) :
    PE X (.ListComp e [⟨t, i, ifs, 0⟩] scope pos) (te L W (.lc own elt tg it cond)) := by
  exact PE.imp (pe_lc (g := gA X.K tg) g.calm g.nd hi (blkOk_by hb)
    (fun s H C cl fp => pg_A (X := X.blk s H scope (compEnvC scope cl C X.env) fp) (fb := celB scope) g.calm g.nd (fun x hx => by simpa [celB] using hx) ht)
    (fun s H C cl fp => hc _ (g.blk s H scope _ fp) rfl rfl) (fun s H C cl fp => he _ (g.blk s H scope _ fp) rfl rfl) (fold_of hs _)) fun σ H Q q => te_lc hix q
end
end Air
/-! Air: a term's run (6): the main theorem. -/
namespace Air
open PySem PySem.Spec PyProof.Rows L2
variable [Kf]
section
variable {L : Lg} {W : WX} {X : Cx} {ro ro' : Bool} {G G1 G2 : Gh} {H H1 H2 : Hp} {σ : St} {fr : Fr} {I I1 : Is}
theorem te_cns {c : Cs} {Q : VK} (h : te L W (.cns c) σ H Q) (hs : ∀ z, c = .str z → PyData.strOk z = true) : Q (match c with | .non => .non | .bl b => .bl b | .int i => .int i | .str z => .str z) H := by
  obtain ⟨ro, G, fr, I, S, h⟩ := h
  cases c with
  | non => exact h _ G H .refl S (.fro .non)
  | bl b => exact h _ G H .refl S (.fro (.bl b))
  | int i => exact h _ G H .refl S (.fro (.int i))
  | str z => exact h _ G H .refl S (.fro (.str z (hs z rfl)))
theorem pe_cnsA {c : Cs} {k : PySem.Const} {j : Nat} {pos : Pos} (h : cstB c k = true) : PE X (.Constant k j pos) (te L W (.cns c)) := by
  cases c <;> cases k <;> simp only [cstB, Bool.false_eq_true] at h <;> try (cases h; done)
  · exact PE.imp pe_non fun σ H Q q => te_cns q (by simp)
  · rename_i b d
    have e : b = d := eq_of_beq h
    subst e
    exact PE.imp pe_bl fun σ H Q q => te_cns q (by simp)
  · rename_i a b
    obtain rfl := of_decide_eq_true h
    exact PE.imp pe_int fun σ H Q q => te_cns q (by simp)
  · rename_i a b
    simp only [Bool.and_eq_true, decide_eq_true_eq] at h
    obtain ⟨rfl, h⟩ := h
    exact PE.imp pe_str fun σ H Q q => te_cns q (by rintro z e; cases e; exact h)
theorem pe_gkA (g : Good L X W) {x : Str} {pos : Pos} (hx : Gl X x) (hd : (x == ("__debug__" : Str)) = false) (hn : L.kn x = some (0, 1)) : PE X (.Name x pos) (te L W (.gk x)) := by
  obtain ⟨d, e, c⟩ := g.cn x hn
  cases d with
  | int i =>
    obtain ⟨t, e2⟩ := c
    refine PE.imp (pe_glob (v := .int i) hx (g.mg ▸ e2) ⟨t, rfl⟩ hd) fun σ H Q q => ?_
    obtain ⟨ro, G, fr, I, S, h⟩ := q
    simp only [ev, e] at h
    exact h _ G H .refl S (.fro (.int i))
  | str z =>
    obtain ⟨ok, t, e2⟩ := c
    refine PE.imp (pe_glob (v := .str z) hx (g.mg ▸ e2) ⟨t, rfl⟩ hd) fun σ H Q q => ?_
    obtain ⟨ro, G, fr, I, S, h⟩ := q
    simp only [ev, e] at h
    exact h _ G H .refl S (.fro (.str z ok))
  | tup ds =>
    obtain ⟨a, vs, e2, e3, e4⟩ := c
    refine PE.imp (pe_glob (v := .ref a) hx (g.mg ▸ e2) rfl hd) fun σ H Q q => ?_
    obtain ⟨ro, G, fr, I, S, h⟩ := q
    simp only [ev, e] at h
    exact h _ G H .refl S (.cst e3 e4)
  | _ => exact absurd c id
theorem cr_imp {f : Value} {r r' : List V → Hp → VK → Prop} (h : CallR X f r) (i : ∀ xs H Q, r' xs H Q → r xs H Q) : CallR X f r' := fun pins s σ H xs us Q J rv q => h pins s σ H xs us Q J rv (i _ _ _ q)
theorem te_blt {f : Bi} {es : Tm} {Q : VK} (h : te L W (.blt f es) σ H Q) : ta L W es σ H (fun vs H1 => Args L (biD f) vs H1 Q) := by
  obtain ⟨ro, G, fr, I, S, h⟩ := h
  simp only [ev] at h
  refine ⟨ro, G, fr, I, S, PR.imp (PR.bind (rel := fun G' H' ps vs => Rks L H G' H' ps vs) h) (fun _ _ _ _ r => r.1) ?_⟩
  rintro vs H1 ⟨ps, I1, G1, _, x, S1, r1, h1⟩
  exact ⟨W, ro, G, H, σ, fr, ps, I1, G1, x, S1, r1, h1⟩
theorem pe_bltA (g : Good L X W) {f : Bi} {es : Tm} {e : Expr} {xs : List Expr} {p pos : Pos} (ih : PA X (e :: xs) (ta L W es)) (hx : Gl X f.nm) (hst : ∀ e' ∈ e :: xs, notStar e' = true)
    (hf : (decide (f = .minD) || decide (f = .sset) || decide (f = .str) || decide (f = .dict)) = false) : PE X (.Call (.Name f.nm p) (e :: xs) [] pos) (te L W (.blt f es)) := by
  have h1 := star_of (hst e List.mem_cons_self) xs X.env
  have h2 : (backTo pos (starEach xs X.env)).any (·.1) = false := back_ok fun x hx => hst x (List.mem_cons_of_mem _ hx)
  have fn : ∀ {id : String} {nm : Str}, f.nm = nm → CallR X (.builtin id) (Args L (biD f)) → bootBuiltins nm = some (.builtin id) → X.mg nm = none → nm ≠ "__name__" → (nm == ("__debug__" : Str)) = false → PE X (.Call (.Name f.nm p) (e :: xs) [] pos) (te L W (.blt f es)) := fun {id nm} e0 hc hb hm hn hdb => by
    rw [e0] at hx ⊢
    exact PE.imp (pe_callB hc hx hm hb ih hn hdb h1 h2) fun σ H Q q => te_blt q
  have ty : ∀ {id : String} {nm : Str}, f.nm = nm → CallR X (.type id) (Args L (biD f)) → bootBuiltins nm = some (.type id) → X.mg nm = none → nm ≠ "__name__" → (nm == ("__debug__" : Str)) = false → PE X (.Call (.Name f.nm p) (e :: xs) [] pos) (te L W (.blt f es)) := fun {id nm} e0 hc hb hm hn hdb => by
    rw [e0] at hx ⊢
    exact PE.imp (pe_callTy hc hx hm hb ih hn hdb h1 h2) fun σ H Q q => te_blt q
  have mg : ∀ x, x ∈ (["len", "all", "any", "sorted", "list", "tuple", "min", "max", "int", "str", "divmod", "dict", "sum", "isinstance", "range", "enumerate", "zip", "set", "bool"] : List Str) → X.mg x = none := fun x hx => g.mg ▸ g.bi x hx
  cases f with
  | len => exact fn rfl (len_run g.K) boot_len (mg _ (by decide +kernel)) (by decide) (by decide)
  | all => exact fn rfl (all_run g.K g.calm) boot_all (mg _ (by decide +kernel)) (by decide) (by decide)
  | any => exact fn rfl (any_run g.K g.calm) boot_any (mg _ (by decide +kernel)) (by decide) (by decide)
  | sorted => exact fn rfl (sorted_run g.K) (by decide +kernel) (mg _ (by decide +kernel)) (by decide) (by decide)
  | list => exact ty rfl (list_run g.K) (by decide +kernel) (mg _ (by decide +kernel)) (by decide) (by decide)
  | tuple => exact ty rfl (tuple_run g.K) (by decide +kernel) (mg _ (by decide +kernel)) (by decide) (by decide)
  | min1 => exact fn rfl (min1_run g.calm) (by decide +kernel) (mg _ (by decide +kernel)) (by decide) (by decide)
  | max1 => exact fn rfl (max1_run g.calm) (by decide +kernel) (mg _ (by decide +kernel)) (by decide) (by decide)
  | min2 => exact fn rfl (min2_run g.calm) (by decide +kernel) (mg _ (by decide +kernel)) (by decide) (by decide)
  | max2 => exact fn rfl (max2_run g.calm) (by decide +kernel) (mg _ (by decide +kernel)) (by decide) (by decide)
  | int => exact ty rfl int_run (by decide +kernel) (mg _ (by decide +kernel)) (by decide) (by decide)
  | sum => exact fn rfl (sum_run g.calm) (by decide +kernel) (mg _ (by decide +kernel)) (by decide) (by decide)
  | minD => exact absurd hf (by decide)
  | sset => exact absurd hf (by decide)
  | str => exact absurd hf (by decide)
  | divmod => exact fn rfl divmod_run (by decide +kernel) (mg _ (by decide +kernel)) (by decide) (by decide)
  | dict => exact absurd hf (by decide)
end
end Air
/-! Air: sorted(set(xs)), xs a list of ints (the library has set of a tuple of ints: HandS.SetFor; this is the same road for a list). -/
namespace Air
open PySem PySem.Spec PyProof.Rows L2
section
variable {P : Program} {w : World} {A : Around} {E : Value → Shared → Prop} {s : Shared}
/-- an empty set, as it is laid -/
abbrev nst (w : World) : Obj := { cls := .type "set", dict := none, data := .set #[] 0 (.fresh 0 0 (!w.params.followText "set-order")) }
/-- what a set filled from l's ints is -/
def Filled (w : World) (s : Shared) (ns : List Int) (r : Value) (s2 : Shared) : Prop := r = .none ∧ ∃ h' tk c, s2 = { s with heap := h', toks := tk } ∧ SetR w h' s.heap.objs.size (fun j => decide (j ∈ ns)) c ∧ c ≤ ns.length ∧ (∀ b o, s.heap.get? b = some o → h'.get? b = some o)
set_option maxHeartbeats 6400000 in
theorem setI_list {l : Addr} {items : Array Value} (ns : List Int) {Q : Value → Shared → Prop} (hh : A.handled = none) (hl : s.heap.IsList l items) (hi : IntsAre items.toList ns) (hb : ns.length + 1 < scanBound)
    (h : ∀ (h' : Heap) (tk c : Nat), SetR w h' s.heap.objs.size (fun j => decide (j ∈ ns)) c → c ≤ ns.length → (∀ b o, s.heap.get? b = some o → h'.get? b = some o) → Q (.ref s.heap.objs.size) { s with heap := h', toks := tk }) :
    wpAny (model P w) A (call (.type "set") [.ref l]) Q E s := by
  have hz : items.size = ns.length := by
    have q := IntsAre.length hi
    rwa [Array.length_toList] at q
  have hval : ∀ (i : Nat) (v : Value), items[i]? = some v → ∃ k t, ns[i]? = some k ∧ v = .int k t := fun i v hv => by
    have hlt : i < ns.length := by rw [← hz]; exact (Array.getElem?_eq_some_iff.mp hv).1
    obtain ⟨t, e⟩ := IntsAre.int_at hi i v (by rw [Array.getElem?_toList]; exact hv)
    refine ⟨ns[i], t, List.getElem?_eq_getElem hlt, ?_⟩
    rw [e, List.getD_eq_getElem?_getD, List.getElem?_eq_getElem hlt]; rfl
  obtain ⟨_, _, m0⟩ := F.called_set.mro
  have m1 := F.called_set.made
  have m2 := F.called_set.sub
  have m3 := F.called_set.notType
  have m4 := F.called_set.canCreate
  have m5 := F.typeCall_set_1 (.ref l)
  refine wpAny_call (codeAny_of_tree ?_)
  show wpAny _ _ (callAny (.type "set") _) _ _ _
  refine wpAny_pure ⟨Code.quiet_builtin _ (by decide +kernel), codeAny_builtin PySem.F.entry_type_call ?_⟩
  rw [Around.under_plain (weight_type_call_type "set" [.ref l] []) rfl]
  repeat (any_goals (first | assumption | wp_step))
  refine codeAny_mono (code_set_led1 (.ref l) (E := E) (Q₁ := fun obj s₁ => obj = .ref s.heap.objs.size ∧ s₁ = { s with heap := s.heap.push (nst w) }) ⟨rfl, rfl⟩) fun r s₁ hr => ?_
  cases r with
  | error e => exact hr
  | ok fl =>
    cases fl with
    | ret obj =>
      obtain ⟨rfl, rfl⟩ := hr
      have hS : (s.heap.push (nst w)).get? s.heap.objs.size = some (nst w) := Heap.get?_push_size _ rfl
      have hT : Shared.TypeIs { s with heap := s.heap.push (nst w) } (.ref s.heap.objs.size) "set" := ⟨_, hS, rfl⟩
      have m6 := F.called_set.init.lookup
      have m7 := F.called_set.init.bind (.ref s.heap.objs.size)
      repeat (any_goals (first | assumption | wp_step))
      refine codeAny_mono (codeAny_call_builtin (R := wants (Filled w s ns) E) F.called_set.init.plain PySem.F.entry_set_init (check_set_init_1 hT ?_)) fun r₂ s₂ hr₂ => ?_
      · obtain ⟨⟨oc, od, odt, osl⟩, ho, hc, n, hd⟩ := hl
        simp only at hc hd
        subst hc; subst hd
        have lt1 : l < s.heap.objs.size := Heap.lt_size ho
        have ho1 : (s.heap.push (nst w)).get? l = some { cls := .type "list", dict := od, data := .seq items n, slots := osl } := Heap.get?_push_of_some _ ho
        have hl1 : (s.heap.push (nst w)).IsList l items := ⟨_, ho1, rfl, n, rfl⟩
        have k1 := PySem.F.sub_list_set
        have k2 := PySem.F.sub_list_frozenset
        have k3 : (Value.type "list" == Value.type "dict") = false := by decide
        unfold Builtin.«set.__init__» noKeywords Builtin.Frozenset.updateFrom
        generalize hPI : pyIter = PI
        wp_walk
        subst hPI
        refine wpAny_pyIter_list hl1 ?_
        refine wpAny_bind (wpAny_runValue ?_)
        have hh3 : A.in1.in1.in1.handled = none := by simp [hh]
        have hneI : l ≠ (s.heap.push (nst w)).objs.size := by rw [Heap.size_push]; exact Nat.ne_of_lt (Nat.lt_succ_of_lt lt1)
        have hSf : s.heap.objs.size ∉ [(s.heap.push (nst w)).objs.size, l] := by
          rw [Heap.size_push]; simp only [List.mem_cons, List.not_mem_nil, or_false, not_or]; exact ⟨Nat.ne_of_lt (Nat.lt_succ_self _), Nat.ne_of_gt lt1⟩
        refine set_update_ints ((Walks.list hh3 _ l hneI items).toS) s.heap.objs.size hSf ns hz hb hval (items.size - 0) 0 _ (by omega) (Nat.zero_le _)
          ⟨⟨_, Heap.get?_push_size _ rfl, rfl, rfl⟩, (hl1.push _)⟩ ?hS0 ?hR
        case hS0 => exact ⟨0, Nat.le_refl 0, setR_new_at (Heap.get?_push_of_some _ hS)⟩
        case hR =>
          intro s' c' hm hc' hS'
          obtain ⟨h', g2, d', tk', os'⟩ := s'
          obtain rfl : g2 = s.gens := hm.gens
          obtain rfl : d' = s.drawn := hm.drawn
          obtain rfl : os' = s.os := hm.os
          show wpAny _ _ _ _ _ _
          refine wpAny_pure ?_
          show wpAny _ _ (ret Value.none) _ _ _
          refine wpAny_pure ⟨rfl, h', tk', c', rfl, hS', (by rw [hz] at hc'; exact hc'), fun b o e => ?_⟩
          have hb0 : b < s.heap.objs.size := Heap.lt_size e
          exact hm.heap b o (by rw [Heap.size_push]; simp only [List.mem_cons, List.not_mem_nil, or_false, not_or]; exact ⟨Nat.ne_of_lt hb0, Nat.ne_of_lt (Nat.lt_succ_of_lt hb0)⟩) (Heap.get?_push_of_some _ (Heap.get?_push_of_some _ e))
      · cases r₂ with
        | error e => exact hr₂
        | ok fl₂ =>
          cases fl₂ with
          | ret r =>
            obtain ⟨rfl, h', tk, c', rfl, hS', hc', hk'⟩ := hr₂
            repeat (any_goals (first | assumption | wp_step))
            exact h _ _ _ hS' hc' hk'
          | _ => exact hr₂.elim
    | _ => exact hr.elim
end
end Air
/-! Air: sorted(set(xs)), xs a list of ints. -/
namespace Air
open PySem PySem.Spec PyProof.Rows L2
section
variable {X : Cx}
/-- sorted(set(xs)) -/
def tSSet (K : PySem.W.Frag) (ta : TE) : TE := fun σ H Q => ta σ H fun x H1 => ∃ (l : Addr) (ns : List Int), x = .ref l ∧ SqL K H1 l (ns.map V.int) ∧ ns.length < 64 ∧
  ∀ (out : List Int) (p : Addr), out.Pairwise (· < ·) → (∀ k : Int, k ∈ out ↔ k ∈ ns) → H1 p = none → Q (.ref p) (upd H1 p (.lst (out.map V.int)))
theorem pe_sset {a : Expr} {ta : TE} {p p2 q pos : Pos} (hc : X.calm = true) (hg : Gl X "sorted") (hm : X.mg "sorted" = none) (hg2 : Gl X "set") (hm2 : X.mg "set" = none) (ha : PE X a ta)
    (na : starEach [a] X.env = (false, eval a X.env) :: starEach [] X.env) : PE X (.Call (.Name "sorted" p) [.Call (.Name "set" p2) [a] [] q] [] pos) (tSSet X.K ta) := by
  refine ⟨fun pins s σ H Q I h => ?_⟩
  refine Call_ (ld_blt I hg hm (show bootBuiltins "sorted" = some (.builtin "sorted") by decide +kernel) ?_)
  refine PyProof.Rows.callWith_builtin1 (PyProof.Rows.args_cons ?_ rfl) rfl rfl
  refine Call_ (ld_blt I hg2 hm2 (show bootBuiltins "set" = some (.type "set") by decide +kernel) ?_)
  refine PyProof.Rows.callWith_type1 (PyProof.Rows.args_cons (thn (ha.run pins s σ H _ I h) fun v s1 ⟨x, H1, I1, r1, q1⟩ => PyProof.Rows.args_nil ?_) na) na rfl
  obtain ⟨l, ns, rfl, hq, hl, q1⟩ := q1
  cases r1
  obtain ⟨its, r, pl, hz⟩ := I1.list hq
  refine setI_list ns (I1.ok.hd hc) pl.isList (by simpa using ints_of_vals r) (by unfold scanBound; omega) fun h' tk c R hcn hk => ?_
  refine PyProof.Rows.args_nil ?_
  have I2 : Inv X pins σ H1 { s1 with heap := h', toks := tk } := I1.kept fun b o e => hk b o e
  refine sorted_set R (I2.ok.hd hc) (by omega) fun s' p out c2 os k g o hp hg hi hs hm hl2 => ?_
  have hlen : (os.map V.int).length ≤ sizeLine := by rw [List.length_map, hl2, sizeLine_eq]; omega
  have hn : H1 p = none := I2.hok.fresh hp
  have J : Inv X pins σ (upd H1 p (.lst (os.map V.int))) { { s1 with heap := h', toks := tk } with heap := s'.heap, gens := s'.gens, drawn := s'.drawn, toks := s'.toks } :=
    I2.call (ch := []) (Un.laid k hp hn) (I2.hok.laid k hp ⟨hlen, out.toList, c2, vals_of_ints hi, hg⟩) (by rw [g]; exact I2.bare) (fun _ z => nomatch z)
  have e : s' = { { s1 with heap := h', toks := tk } with heap := s'.heap, gens := s'.gens, drawn := s'.drawn, toks := s'.toks } := by
    cases s'
    cases s1
    cases o
    rfl
  rw [e]
  exact ⟨.ref p, _, J, rfl, q1 os p hs (fun k => by rw [hm k]; simp) hn⟩
end
end Air
/-! Air: a term's run (7): the main theorem. -/
namespace Air
open PySem PySem.Spec PyProof.Rows L2
variable [Kf]
section
variable {L : Lg} {W : WX} {X : Cx} {ro ro' : Bool} {G G1 G2 : Gh} {H H1 H2 : Hp} {σ : St} {fr : Fr} {I I1 : Is}
theorem te_and {a b : Tm} {Q : VK} (h : te L W (.and a b) σ H Q) : te L W a σ H (fun x H1 => ∃ c, x = .bl c ∧ if c = true then te L W b σ H1 (fun y H2 => ∃ d, y = .bl d ∧ Q (.bl d) H2) else Q (.bl false) H1) := by
  obtain ⟨ro, G, fr, I, S, h⟩ := h
  simp only [ev] at h
  refine te.imp (tt_te (tt_next S h)) fun v H1 => ?_
  rintro ⟨c, rfl, I1, G1, x, S1, h1⟩
  refine ⟨c, rfl, ?_⟩
  cases c with
  | false => rw [if_neg Bool.false_ne_true]; exact h1 _ G1 H1 x S1 (.fro (.bl _))
  | true =>
    rw [if_pos rfl]
    have h1 : PR L W ro G H σ fr ((ev L.cn L.cf b ro fr I1).tst fun u I => b2 u I) (RkR L H) Q := h1
    have h2 := PR.on (rel1 := RkR L H1) x S1 (fun _ _ _ _ r => r.from x.dom) h1
    refine te.imp (tt_te (tt_next S1 h2)) fun w H2 => ?_
    rintro ⟨d, rfl, I2, G2, y, S2, h3⟩
    exact ⟨d, rfl, h3 _ G2 H2 y S2 (.fro (.bl _))⟩
theorem te_or {a b : Tm} {Q : VK} (h : te L W (.or a b) σ H Q) : te L W a σ H (fun x H1 => ∃ c, x = .bl c ∧ if c = true then Q (.bl true) H1 else te L W b σ H1 (fun y H2 => ∃ d, y = .bl d ∧ Q (.bl d) H2)) := by
  obtain ⟨ro, G, fr, I, S, h⟩ := h
  simp only [ev] at h
  refine te.imp (tt_te (tt_next S h)) fun v H1 => ?_
  rintro ⟨c, rfl, I1, G1, x, S1, h1⟩
  refine ⟨c, rfl, ?_⟩
  cases c with
  | true => rw [if_pos rfl]; exact h1 _ G1 H1 x S1 (.fro (.bl _))
  | false =>
    rw [if_neg Bool.false_ne_true]
    have h1 : PR L W ro G H σ fr ((ev L.cn L.cf b ro fr I1).tst fun u I => b2 u I) (RkR L H) Q := h1
    have h2 := PR.on (rel1 := RkR L H1) x S1 (fun _ _ _ _ r => r.from x.dom) h1
    refine te.imp (tt_te (tt_next S1 h2)) fun w H2 => ?_
    rintro ⟨d, rfl, I2, G2, y, S2, h3⟩
    exact ⟨d, rfl, h3 _ G2 H2 y S2 (.fro (.bl _))⟩
theorem tst_b2 {β : Type} (r : R (D × Kd)) (f : Bool → Is → R β) : (r.tst fun u I => b2 u I).tst f = r.tst f := by
  unfold R.tst
  cases r with
  | ok p I => obtain ⟨d, k⟩ := p; cases d <;> rfl
  | exc x I => rfl
  | bad => rfl
theorem tst_bind {α β : Type} (r : R (D × Kd)) (f : Bool → Is → R (D × Kd)) (g : Bool → Is → R β) : (r.tst f).tst g = r.tst fun b I => (f b I).tst g := by
  unfold R.tst
  cases r with
  | ok p I => obtain ⟨d, k⟩ := p; cases d <;> rfl
  | exc x I => rfl
  | bad => rfl
theorem tt_and {a b : Tm} {Q : Bool → Hp → Prop} (h : tt L W (.and a b) σ H Q) : tt L W a σ H (fun c H1 => if c = true then tt L W b σ H1 Q else Q false H1) := by
  obtain ⟨ro, G, fr, I, S, h⟩ := h
  simp only [ev] at h
  rw [tst_bind (α := Unit)] at h
  obtain ⟨ro2, G2, fr2, I2, S2, h2⟩ := tt_next S h
  refine ⟨ro2, G2, fr2, I2, S2, h2.imp (fun _ _ _ _ r => r) ?_⟩
  rintro c H1 ⟨I1, G1, x, S1, h1⟩
  cases c with
  | false => rw [if_neg Bool.false_ne_true]; exact h1 _ G1 H1 x S1 rfl
  | true =>
    rw [if_pos rfl]
    have h1 : PR L W ro G H σ fr (((ev L.cn L.cf b ro fr I1).tst fun u I => b2 u I).tst fun b I => .ok b I) (fun _ _ (b : Bool) (c : Bool) => c = b) Q := h1
    rw [tst_b2] at h1
    exact ⟨ro, G1, fr, I1, S1, PR.on x S1 (fun _ _ _ _ r => r) h1⟩
theorem tt_or {a b : Tm} {Q : Bool → Hp → Prop} (h : tt L W (.or a b) σ H Q) : tt L W a σ H (fun c H1 => if c = true then Q true H1 else tt L W b σ H1 Q) := by
  obtain ⟨ro, G, fr, I, S, h⟩ := h
  simp only [ev] at h
  rw [tst_bind (α := Unit)] at h
  obtain ⟨ro2, G2, fr2, I2, S2, h2⟩ := tt_next S h
  refine ⟨ro2, G2, fr2, I2, S2, h2.imp (fun _ _ _ _ r => r) ?_⟩
  rintro c H1 ⟨I1, G1, x, S1, h1⟩
  cases c with
  | true => rw [if_pos rfl]; exact h1 _ G1 H1 x S1 rfl
  | false =>
    rw [if_neg Bool.false_ne_true]
    have h1 : PR L W ro G H σ fr (((ev L.cn L.cf b ro fr I1).tst fun u I => b2 u I).tst fun b I => .ok b I) (fun _ _ (b : Bool) (c : Bool) => c = b) Q := h1
    rw [tst_b2] at h1
    exact ⟨ro, G1, fr, I1, S1, PR.on x S1 (fun _ _ _ _ r => r) h1⟩
theorem tt.imp {t : Tm} {Q Q' : Bool → Hp → Prop} (h : tt L W t σ H Q) (i : ∀ v H', Q v H' → Q' v H') : tt L W t σ H Q' := by
  obtain ⟨ro, G, fr, I, S, q⟩ := h
  exact ⟨ro, G, fr, I, S, q.imp (fun _ _ _ _ r => r) i⟩
theorem tt_not {a : Tm} {Q : Bool → Hp → Prop} (h : tt L W (.not a) σ H Q) : tt L W a σ H (fun c H1 => Q (!c) H1) := by
  obtain ⟨ro, G, fr, I, S, h⟩ := h
  simp only [ev] at h
  rw [tst_bind (α := Unit)] at h
  obtain ⟨ro2, G2, fr2, I2, S2, h2⟩ := tt_next S h
  refine ⟨ro2, G2, fr2, I2, S2, h2.imp (fun _ _ _ _ r => r) ?_⟩
  rintro c H1 ⟨I1, G1, x, S1, h1⟩
  exact h1 _ G1 H1 x S1 rfl
theorem te_not {a : Tm} {Q : VK} (h : te L W (.not a) σ H Q) : te L W a σ H (fun x H1 => ∃ c, x = .bl c ∧ Q (.bl (!c)) H1) := by
  obtain ⟨ro, G, fr, I, S, h⟩ := h
  simp only [ev] at h
  refine te.imp (tt_te (tt_next S h)) fun v H1 => ?_
  rintro ⟨c, rfl, I1, G1, x, S1, h1⟩
  exact ⟨c, rfl, h1 _ G1 H1 x S1 (.fro (.bl _))⟩
theorem te_ite {c a b : Tm} {Q : VK} (h : te L W (.ite c a b) σ H Q) : tt L W c σ H (fun t H1 => if t = true then te L W a σ H1 Q else te L W b σ H1 Q) := by
  obtain ⟨ro, G, fr, I, S, h⟩ := h
  simp only [ev] at h
  refine tt.imp (tt_next S h) fun t H1 => ?_
  rintro ⟨I1, G1, x, S1, h1⟩
  cases t with
  | true => rw [if_pos rfl]; exact ⟨ro, G1, fr, I1, S1, PR.on (rel1 := RkR L H1) x S1 (fun _ _ _ _ r => r.from x.dom) h1⟩
  | false => rw [if_neg Bool.false_ne_true]; exact ⟨ro, G1, fr, I1, S1, PR.on (rel1 := RkR L H1) x S1 (fun _ _ _ _ r => r.from x.dom) h1⟩
theorem te_tup {es : Tm} {Q : VK} (h : te L W (.tup es) σ H Q) : tTup (ta L W es) σ H Q := by
  obtain ⟨ro, G, fr, I, S, h⟩ := h
  simp only [ev] at h
  refine ⟨ro, G, fr, I, S, PR.imp (PR.bind (rel := fun G' H' ps vs => Rks L H G' H' ps vs) h) (fun _ _ _ _ r => r.1) ?_⟩
  rintro vs H1 ⟨ps, I1, G1, _, x, S1, r1, h1⟩
  cases e : frzAll ps with
  | none => rw [e] at h1; exact absurd h1 id
  | some ds =>
    rw [e] at h1
    obtain ⟨hl, h1⟩ := PR.cond (show PR L W ro G H σ fr (bif decide (ds.length ≤ lim) then .ok (.tup ds, .fro) I1 else .bad) (RkR L H) Q from h1)
    obtain ⟨G2, g, x2, S2, r2⟩ := frz_all x S1 (r1.w e) e
    exact ⟨by rw [r2.length, ← lim_eq]; exact of_decide_eq_true hl, fun p hp => fin_tup h1 x2 S2 hp r2⟩
theorem te_lst {es : Tm} {Q : VK} (h : te L W (.lst es) σ H Q) : tLst (ta L W es) σ H Q := by
  obtain ⟨ro, G, fr, I, S, h⟩ := h
  simp only [ev] at h
  refine ⟨ro, G, fr, I, S, PR.imp (PR.bind (rel := fun G' H' ps vs => Rks L H G' H' ps vs) h) (fun _ _ _ _ r => r.1) ?_⟩
  rintro vs H1 ⟨ps, I1, G1, _, x, S1, r1, h1⟩
  cases e : frzAll ps with
  | none => rw [e] at h1; exact absurd h1 id
  | some ds =>
    rw [e] at h1
    obtain ⟨hl, h1⟩ := PR.cond (show PR L W ro G H σ fr (bif decide (ds.length ≤ lim) then .ok (.lst ds, .new) I1 else .bad) (RkR L H) Q from h1)
    obtain ⟨G2, g, x2, S2, r2⟩ := frz_all x S1 (r1.w e) e
    exact ⟨by rw [r2.length, ← lim_eq]; exact of_decide_eq_true hl, fun p hp => fin_lst h1 x2 S2 hp r2⟩
theorem tp_next {t : Tm} {k : Bool} {γ : Type} {f : Option Int → Is → R γ} {β : Type} {rel' : Gh → Hp → γ → β → Prop} {Q : β → Hp → Prop} (x : Ext ro G H G1 H1) (S1 : Sx L.c ro G1 fr I1 σ H1)
    (h : PR L W ro G H σ fr ((evP L.cn L.cf t (ro || k) fr I1).bind f) rel' Q) :
    tp L W t σ H1 (fun o H2 => ∃ I2 G2, Ext ro G H G2 H2 ∧ Ext (ro || k) G1 H1 G2 H2 ∧ Sx L.c ro G2 fr I2 σ H2 ∧ PR L W ro G H σ fr (f o I2) rel' Q) := by
  have h1 := PR.bind (β := Option Int) (rel := fun G' H' (o : Option Int) (o' : Option Int) => o' = o ∧ Ext (ro || k) G1 H1 G' H') h
  refine ⟨ro || k, G1, fr, I1, ?_, ?_⟩
  · cases k with
    | false => rw [Bool.or_false]; exact S1
    | true =>
      rw [Bool.or_true]
      cases ro with
      | true => exact S1
      | false => exact S1.weak true
  · refine PR.at (rel1 := fun _ _ (o : Option Int) (o' : Option Int) => o' = o) x S1 ?_ (fun G' H' p v y S r => ⟨r, y⟩) (h1.imp (fun _ _ _ _ r => r) ?_)
    · cases k with
      | false => exact .inl (Bool.or_false _)
      | true => exact .inr ⟨Bool.or_true _, by rw [Bool.or_true]; exact (ev_keeps t).2.2.1 _ _⟩
    · rintro v H2 ⟨q, I2, G2, _, y, S2, ⟨rfl, r2⟩, h2⟩
      exact ⟨I2, G2, y, r2, S2, h2⟩
theorem te_slc {a lo hi : Tm} {Q : VK} (h : te L W (.slc a lo hi) σ H Q) : tSl (Cut L) (te L W a) (tp L W lo) (tp L W hi) σ H Q := by
  obtain ⟨ro, G, fr, I, S, h⟩ := h
  simp only [ev] at h
  refine ⟨ro, G, fr, I, S, PR.imp (PR.bind (rel := RkR L H) h) (fun _ _ _ _ r => r) ?_⟩
  rintro v H1 ⟨p, I1, G1, _, x, S1, r1, h1⟩
  obtain ⟨ro2, G2, fr2, I2, S2, h2⟩ := tp_next x S1 h1
  refine ⟨ro2, G2, fr2, I2, S2, h2.imp (fun _ _ _ _ r => r) ?_⟩
  rintro l H2 ⟨I3, G3, y1, y2, S3, h3⟩
  obtain ⟨ro4, G4, fr4, I4, S4, h4⟩ := tp_next y1 S3 h3
  refine ⟨ro4, G4, fr4, I4, S4, h4.imp (fun _ _ _ _ r => r) ?_⟩
  rintro u H3 ⟨I5, G5, z1, z2, S5, h5⟩
  exact ⟨W, ro, G, H, σ, fr, p, I5, G5, z1, S5, (r1.later S1 y2).later S3 z2, h5⟩
theorem mem_addU {x k : Int} : ∀ {l : List Int}, k ∈ addU x l ↔ k = x ∨ k ∈ l
  | [] => by simp [addU]
  | y :: r => by
    unfold addU
    have ih := mem_addU (x := x) (k := k) (l := r)
    cases h1 : decide (x < y) with
    | true => simp
    | false =>
      cases h2 : decide (x = y) with
      | true =>
        have e := of_decide_eq_true h2
        subst e
        simp
      | false =>
        simp only [cond_false, List.mem_cons, ih]
        constructor
        · rintro (h | h | h)
          · exact .inr (.inl h)
          · exact .inl h
          · exact .inr (.inr h)
        · rintro (h | h | h)
          · exact .inr (.inl h)
          · exact .inl h
          · exact .inr (.inr h)
theorem mem_setL {k : Int} : ∀ {l : List Int}, k ∈ setL l ↔ k ∈ l
  | [] => by simp [setL]
  | x :: r => by
    rw [setL, mem_addU, mem_setL (l := r), List.mem_cons]
theorem addU_pwO {x : Int} : ∀ {l : List Int}, l.Pairwise (· < ·) → (addU x l).Pairwise (· < ·)
  | [], _ => by simp [addU]
  | y :: r, h => by
    obtain ⟨h1, h2⟩ := List.pairwise_cons.mp h
    unfold addU
    cases q1 : decide (x < y) with
    | true =>
      have q1 := of_decide_eq_true q1
      refine List.pairwise_cons.mpr ⟨fun z hz => ?_, h⟩
      rcases List.mem_cons.mp hz with e | hz
      · omega
      · have := h1 z hz; omega
    | false =>
      have q1 := of_decide_eq_false q1
      cases q2 : decide (x = y) with
      | true => exact h
      | false =>
        have q2 := of_decide_eq_false q2
        refine List.pairwise_cons.mpr ⟨fun z hz => ?_, addU_pwO h2⟩
        rcases mem_addU.mp hz with e | hz
        · omega
        · exact h1 z hz
theorem setL_pwO : ∀ l : List Int, (setL l).Pairwise (· < ·)
  | [] => .nil
  | x :: r => addU_pwO (setL_pwO r)
theorem pw_eq : ∀ {a b : List Int}, a.Pairwise (· < ·) → b.Pairwise (· < ·) → (∀ k, k ∈ a ↔ k ∈ b) → a = b
  | [], [], _, _, _ => rfl
  | [], y :: b, _, _, h => absurd ((h y).mpr List.mem_cons_self) (by simp)
  | x :: a, [], _, _, h => absurd ((h x).mp List.mem_cons_self) (by simp)
  | x :: a, y :: b, p, q, h => by
    obtain ⟨p1, p2⟩ := List.pairwise_cons.mp p
    obtain ⟨q1, q2⟩ := List.pairwise_cons.mp q
    have hx := (h x).mp List.mem_cons_self
    have hy := (h y).mpr List.mem_cons_self
    have e : x = y := by
      rcases List.mem_cons.mp hx with e | hx
      · exact e
      · rcases List.mem_cons.mp hy with e | hy
        · exact e.symm
        · have := q1 x hx; have := p1 y hy; omega
    subst e
    rw [pw_eq p2 q2 fun k => ?_]
    have hk := h k
    constructor
    · intro hm
      rcases List.mem_cons.mp (hk.mp (List.mem_cons_of_mem _ hm)) with e | h2
      · have := p1 k hm; omega
      · exact h2
    · intro hm
      rcases List.mem_cons.mp (hk.mpr (List.mem_cons_of_mem _ hm)) with e | h2
      · have := q1 k hm; omega
      · exact h2
theorem te_sset (hK : X.K = L.K) {a : Tm} {Q : VK} (h : te L W (.blt .sset (.cons a .nil)) σ H Q) : tSSet X.K (te L W a) σ H Q := by
  obtain ⟨ro, G, fr, I, S, h⟩ := h
  have e0 : ev L.cn L.cf (.blt .sset (.cons a .nil)) ro fr I = (ev L.cn L.cf a ro fr I).bind fun p I => biD .sset [p] I := by
    simp only [ev, evK]
    cases ev L.cn L.cf a ro fr I <;> rfl
  rw [e0] at h
  refine te.imp (te_one S h) fun v H1 => ?_
  rintro ⟨W', ro', G', H', σ', fr', ⟨d, k⟩, I1, G1, x, S1, r, h1⟩
  cases d with
  | lst ds =>
    obtain ⟨b, vs, rfl, hb, rb⟩ := r.lst S1
    have h1 : PR L W' ro' G' H' σ' fr' (match intsD ds with
      | some ns => bif decide (ns.length < 64) then .ok (.lst ((setL ns).map D.int), .new) I1 else .bad
      | none => .bad) (RkR L H') Q := h1
    cases q : intsD ds with
    | none => rw [q] at h1; exact absurd h1 id
    | some ns =>
      rw [q] at h1
      obtain ⟨hl, h1⟩ := PR.cond h1
      have e1 := rb.intsD q
      subst e1
      refine ⟨b, ns, rfl, .of hb, of_decide_eq_true hl, fun out p hp hm hn => fin_lst h1 x S1 hn ?_⟩
      rw [← pw_eq hp (setL_pwO ns) fun k => (hm k).trans mem_setL.symm]
      exact .ints _
  | _ => exact absurd h1 id
theorem te_rev (hK : X.K = L.K) {a : Tm} {Q : VK} (h : te L W (.rev a) σ H Q) : tRevL X.K (te L W a) σ H Q := by
  obtain ⟨ro, G, fr, I, S, h⟩ := h
  simp only [ev] at h
  refine te.imp (te_one S h) fun v H1 => ?_
  rintro ⟨W', ro', G', H', σ', fr', ⟨d, k⟩, I1, G1, x, S1, r, h1⟩
  cases d with
  | lst ds =>
    obtain ⟨b, vs, rfl, hb, rb⟩ := r.lst S1
    exact ⟨b, vs, rfl, .of hb, fun p hp => fin_lst h1 x S1 hp rb.reverse⟩
  | _ => exact absurd h1 id
theorem te_neg {a : Tm} {Q : VK} (h : te L W (.neg a) σ H Q) : tUn (rU fun i => .int (-i)) (te L W a) σ H Q := by
  obtain ⟨ro, G, fr, I, S, h⟩ := h
  simp only [ev] at h
  refine te.imp (te_one S h) fun v H1 => ?_
  rintro ⟨W', ro', G', H', σ', fr', ⟨d, k⟩, I1, G1, x, S1, r, h1⟩
  cases d with
  | int i => exact ⟨i, r.int, fin_fro h1 x S1 (.int _)⟩
  | _ => exact absurd h1 id
theorem non_iff {H0 : Hp} {d : D} {k : Kd} {v : V} (r : Rk L H0 G H (d, k) v) : (v = .non) ↔ d = .non := by
  cases r with
  | fro r => cases r <;> simp
  | own e | inst e | new e => cases d <;> simp [Sl.inn] at e ⊢
  | cst => simp
theorem te_isn {ng : Bool} {a : Tm} {Q : VK} (h : te L W (.isn ng a) σ H Q) : te L W a σ H (fun x H1 => Q (.bl (xor ng (decide (x = .non)))) H1) := by
  obtain ⟨ro, G, fr, I, S, h⟩ := h
  simp only [ev] at h
  refine te.imp (te_one S h) fun v H1 => ?_
  rintro ⟨W', ro', G', H', σ', fr', ⟨d, k⟩, I1, G1, x, S1, r, h1⟩
  have e := non_iff r
  by_cases hd : d = .non
  · subst hd
    rw [decide_eq_true (e.mpr rfl)]
    have h1 : PR L W' ro' G' H' σ' fr' (b2 (!ng) I1) (RkR L H') Q := h1
    rw [show xor ng true = !ng by cases ng <;> rfl]
    exact fin_bl h1 x S1
  · rw [decide_eq_false fun z => hd (e.mp z)]
    have h1 : PR L W' ro' G' H' σ' fr' (b2 ng I1) (RkR L H') Q := by
      cases d <;> first | exact absurd rfl hd | exact h1
    rw [show xor ng false = ng by cases ng <;> rfl]
    exact fin_bl h1 x S1
theorem te_isb {ng c : Bool} {a : Tm} {Q : VK} (h : te L W (.isb ng c a) σ H Q) : te L W a σ H (fun x H1 => ∃ b, x = .bl b ∧ Q (.bl (xor ng (decide (b = c)))) H1) := by
  obtain ⟨ro, G, fr, I, S, h⟩ := h
  simp only [ev] at h
  refine te.imp (te_one S h) fun v H1 => ?_
  rintro ⟨W', ro', G', H', σ', fr', ⟨d, k⟩, I1, G1, x, S1, r, h1⟩
  cases d with
  | bl b =>
    refine ⟨b, r.bl, ?_⟩
    have h1 : PR L W' ro' G' H' σ' fr' (b2 (xor ng (b == c)) I1) (RkR L H') Q := h1
    rw [show decide (b = c) = (b == c) by cases b <;> cases c <;> rfl]
    exact fin_bl h1 x S1
  | _ => exact absurd h1 id
end
end Air
/-! Air: a term's run (8): chains, walks, rows. -/
namespace Air
open PySem PySem.Spec PyProof.Rows L2
variable [Kf]
section
variable {L : Lg} {W : WX} {X : Cx} {ro ro' : Bool} {G G1 G2 : Gh} {H H1 H2 : Hp} {σ : St} {fr : Fr} {I I1 : Is}
/-! ### chains -/
def tChain3 (r r' r'' : R2) (ta tb tc td : TE) : TE := fun σ H Q => ta σ H fun x H1 => tb σ H1 fun y H2 => r x y H2 fun z H3 => ∃ k, z = .bl k ∧
  (if k = true then tc σ H3 fun w H4 => r' y w H4 fun z' H5 => ∃ k', z' = .bl k' ∧ (if k' = true then td σ H5 fun u H6 => r'' w u H6 Q else Q (.bl false) H5) else Q (.bl false) H3)
section
variable {a b c d : Expr} {ta tb tc td : TE} {pos : Pos}
theorem pe_chain3 {op op' op'' : CmpOp} {r r' r'' : R2} (ho : OpR X (compareOp op) r) (ho' : OpR X (compareOp op') r') (ho'' : OpR X (compareOp op'') r'') (ha : PE X a ta) (hb : PE X b tb) (hc : PE X c tc) (hd : PE X d td)
    (hm : lastMarks [op, op', op''] [b, c, d] = false) : PE X (.Compare a [op, op', op''] [b, c, d] pos) (tChain3 r r' r'' ta tb tc td) := by
  refine ⟨fun pins s σ H Q I h => ?_⟩
  refine Compare_chain (thn (ha.run pins s σ H _ I h) fun v s1 ⟨x, H1, I1, r1, q1⟩ => chain_link (thn (hb.run pins s1 σ H1 _ I1 q1) fun u s2 ⟨y, H2, I2, r2, q2⟩ =>
    thn (ho pins s2 σ H2 x y v u _ I2 r1 r2 q2) fun d s3 ⟨z, H3, I3, r3, k, e, q3⟩ => ?_)) hm
  subst e
  cases r3
  refine wpAny_truthy_bool ?_
  cases k with
  | false => exact ite_ff ⟨.bl false, H3, I3, rfl, q3⟩
  | true =>
    refine ite_tt (chain_link (thn (hc.run pins s3 σ H3 _ I3 q3) fun w' s4 ⟨z', H4, I4, r4, q4⟩ => thn (ho' pins s4 σ H4 y z' u w' _ I4 r2 r4 q4) fun d' s5 ⟨z2, H5, I5, r5, k2, e2, q5⟩ => ?_))
    subst e2
    cases r5
    refine wpAny_truthy_bool ?_
    cases k2 with
    | false => exact ite_ff ⟨.bl false, H5, I5, rfl, q5⟩
    | true => exact ite_tt (chain_last (thn (hd.run pins s5 σ H5 _ I5 q5) fun w2 s6 ⟨z3, H6, I6, r6, q6⟩ => ho'' pins s6 σ H6 z' z3 w' w2 Q I6 r4 r6 q6))
theorem pt_chain3 {op op' op'' : CmpOp} {r r' r'' : R2} (ho : OpR X (compareOp op) r) (ho' : OpR X (compareOp op') r') (ho'' : OpR X (compareOp op'') r'') (ha : PE X a ta) (hb : PE X b tb) (hc : PE X c tc) (hd : PE X d td)
    (hm : lastMarks [op, op', op''] [b, c, d] = false) : PT X (.Compare a [op, op', op''] [b, c, d] pos) (tTest (tChain3 r r' r'' ta tb tc td)) := by
  refine ⟨fun pins s σ H Q I h => ?_⟩
  refine isTrue_chain (thn (ha.run pins s σ H _ I h) fun v s1 ⟨x, H1, I1, r1, q1⟩ => test_link (thn (hb.run pins s1 σ H1 _ I1 q1) fun u s2 ⟨y, H2, I2, r2, q2⟩ =>
    thn (ho pins s2 σ H2 x y v u _ I2 r1 r2 q2) fun d s3 ⟨z, H3, I3, r3, k, e, q3⟩ => ?_)) hm
  subst e
  cases r3
  refine wpAny_truthy_bool ?_
  cases k with
  | false =>
    obtain ⟨k', e', q'⟩ := q3
    cases e'
    exact ite_ff ⟨H3, I3, q'⟩
  | true =>
    refine ite_tt (test_link (thn (hc.run pins s3 σ H3 _ I3 q3) fun w' s4 ⟨z', H4, I4, r4, q4⟩ => thn (ho' pins s4 σ H4 y z' u w' _ I4 r2 r4 q4) fun d' s5 ⟨z2, H5, I5, r5, k2, e2, q5⟩ => ?_))
    subst e2
    cases r5
    refine wpAny_truthy_bool ?_
    cases k2 with
    | false =>
      obtain ⟨k', e', q'⟩ := q5
      cases e'
      exact ite_ff ⟨H5, I5, q'⟩
    | true =>
      refine ite_tt (test_last (thn (hd.run pins s5 σ H5 _ I5 q5) fun w2 s6 ⟨z3, H6, I6, r6, q6⟩ => thn (ho'' pins s6 σ H6 z' z3 w' w2 _ I6 r4 r6 q6) fun d2 s7 ⟨z4, H7, I7, r7, k3, e3, q7⟩ => ?_))
      subst e3
      cases r7
      exact wpAny_truthy_bool ⟨H7, I7, q7⟩
end
theorem te_ch2 {o1 o2 : Co} {a b c : Tm} {Q : VK} (h : te L W (.ch2 o1 o2 a b c) σ H Q) : tChain (TwoB L o1) (TwoB L o2) (te L W a) (te L W b) (te L W c) σ H Q := by
  obtain ⟨ro, G, fr, I, S, h⟩ := h
  simp only [ev] at h
  refine ⟨ro, G, fr, I, S, PR.imp (PR.bind (rel := RkR L H) h) (fun _ _ _ _ r => r) ?_⟩
  rintro x H1 ⟨p, I1, G1, _, e1, S1, r1, h1⟩
  refine te.imp (te_next e1 S1 h1) ?_
  rintro y H2 ⟨q, I2, G2, y1, y2, S2, r2, h2⟩
  refine ⟨ro, G2, H, σ, fr, p, q, I2, S2, r1.later S1 y2, r2, ?_⟩
  rcases cmpD_b o1 p.1 q.1 I2 with z | ⟨k, z⟩
  · rw [z] at h2; exact absurd h2 id
  · rw [z] at h2 ⊢
    refine ⟨k, rfl, ?_⟩
    have h2 : PR L W ro G H σ fr (bif k then (ev L.cn L.cf c (ro || isInst q.2) fr I2).bind fun r I => cmpD o2 q.1 r.1 I else b2 false I2) (RkR L H) Q := h2
    cases k with
    | false => rw [if_neg Bool.false_ne_true]; exact fin_bl h2 y1 S2
    | true =>
      rw [if_pos rfl]
      refine te.imp (te_next (k := q.2) y1 S2 h2) ?_
      rintro w H3 ⟨r, I3, G3, z1, z2, S3, r3, h3⟩
      exact ⟨ro, G3, H, σ, fr, q, r, I3, S3, r2.later S2 z2, r3, h3.pb z1 S3⟩
theorem te_ch3 {o1 o2 o3 : Co} {a b c d : Tm} {Q : VK} (h : te L W (.ch3 o1 o2 o3 a b c d) σ H Q) : tChain3 (TwoB L o1) (TwoB L o2) (TwoB L o3) (te L W a) (te L W b) (te L W c) (te L W d) σ H Q := by
  obtain ⟨ro, G, fr, I, S, h⟩ := h
  simp only [ev] at h
  refine ⟨ro, G, fr, I, S, PR.imp (PR.bind (rel := RkR L H) h) (fun _ _ _ _ r => r) ?_⟩
  rintro x H1 ⟨p, I1, G1, _, e1, S1, r1, h1⟩
  refine te.imp (te_next e1 S1 h1) ?_
  rintro y H2 ⟨q, I2, G2, y1, y2, S2, r2, h2⟩
  refine ⟨ro, G2, H, σ, fr, p, q, I2, S2, r1.later S1 y2, r2, ?_⟩
  rcases cmpD_b o1 p.1 q.1 I2 with z | ⟨k, z⟩
  · rw [z] at h2; exact absurd h2 id
  · rw [z] at h2 ⊢
    refine ⟨k, rfl, ?_⟩
    have h2 : PR L W ro G H σ fr (bif k then (ev L.cn L.cf c (ro || isInst q.2) fr I2).bind fun r I => (cmpD o2 q.1 r.1 I).tst fun t I =>
        bif t then (ev L.cn L.cf d (ro || isInst r.2) fr I).bind fun u I => cmpD o3 r.1 u.1 I else b2 false I else b2 false I2) (RkR L H) Q := h2
    cases k with
    | false => rw [if_neg Bool.false_ne_true]; exact fin_bl h2 y1 S2
    | true =>
      rw [if_pos rfl]
      refine te.imp (te_next (k := q.2) y1 S2 h2) ?_
      rintro w H3 ⟨r, I3, G3, z1, z2, S3, r3, h3⟩
      refine ⟨ro, G3, H, σ, fr, q, r, I3, S3, r2.later S2 z2, r3, ?_⟩
      rcases cmpD_b o2 q.1 r.1 I3 with z | ⟨k, z⟩
      · rw [z] at h3; exact absurd h3 id
      · rw [z] at h3 ⊢
        refine ⟨k, rfl, ?_⟩
        have h3 : PR L W ro G H σ fr (bif k then (ev L.cn L.cf d (ro || isInst r.2) fr I3).bind fun u I => cmpD o3 r.1 u.1 I else b2 false I3) (RkR L H) Q := h3
        cases k with
        | false => rw [if_neg Bool.false_ne_true]; exact fin_bl h3 z1 S3
        | true =>
          rw [if_pos rfl]
          refine te.imp (te_next (k := r.2) z1 S3 h3) ?_
          rintro w2 H4 ⟨u, I4, G4, u1, u2, S4, r4, h4⟩
          exact ⟨ro, G4, H, σ, fr, r, u, I4, S4, r3.later S3 u2, r4, h4.pb u1 S4⟩
/-- a value's reading as a test -/
theorem te_bl {t : Tm} {Q : Bool → Hp → Prop} (h : tt L W t σ H Q) : te L W t σ H (fun x H' => ∃ k, x = .bl k ∧ Q k H') := tt_te h
/-! ### rows -/
theorem Rks.from {H0 : Hp} : ∀ {ps : List (D × Kd)} {vs : List V}, Rks L H1 G2 H2 ps vs → (∀ a, H1 a = none → H0 a = none) → Rks L H0 G2 H2 ps vs
  | _, _, .nil, _ => .nil
  | _, _, .cons r rs, k => .cons (r.from k) (Rks.from rs k)
theorem zpK_ok {p q k : Kd} (h : zpK p q = some k) : (p = .inst → k = .inst) ∧ (p = .own → k = .own) ∧ (q = .inst → k = .inst) ∧ (q = .own → k = .own) := by
  cases p <;> cases q <;> cases k <;> first | (exact absurd h (by decide)) | decide
theorem ta_next {t : Tm} {k : Bool} {γ : Type} {f : List (D × Kd) → Is → R γ} {β : Type} {rel' : Gh → Hp → γ → β → Prop} {Q : β → Hp → Prop} (x : Ext ro G H G1 H1) (S1 : Sx L.c ro G1 fr I1 σ H1)
    (h : PR L W ro G H σ fr ((evK L.cn L.cf t (ro || k) fr I1).bind f) rel' Q) :
    ta L W t σ H1 (fun vs H2 => ∃ ps I2 G2, Ext ro G H G2 H2 ∧ Ext (ro || k) G1 H1 G2 H2 ∧ Sx L.c ro G2 fr I2 σ H2 ∧ (Rks L H1 G2 H2 ps vs ∧ (nwA ps vs).Nodup) ∧ PR L W ro G H σ fr (f ps I2) rel' Q) := by
  have h1 := PR.bind (β := List V) (rel := fun G' H' (ps : List (D × Kd)) vs => (Rks L H1 G' H' ps vs ∧ (nwA ps vs).Nodup) ∧ Ext (ro || k) G1 H1 G' H') h
  refine ⟨ro || k, G1, fr, I1, ?_, ?_⟩
  · cases k with
    | false => rw [Bool.or_false]; exact S1
    | true =>
      rw [Bool.or_true]
      cases ro with
      | true => exact S1
      | false => exact S1.weak true
  · refine PR.at (rel1 := fun G' H' ps vs => Rks L H1 G' H' ps vs ∧ (nwA ps vs).Nodup) x S1 ?_ (fun G' H' p v y S r => ⟨r, y⟩) (h1.imp (fun _ _ _ _ r => r) ?_)
    · cases k with
      | false => exact .inl (Bool.or_false _)
      | true => exact .inr ⟨Bool.or_true _, by rw [Bool.or_true]; exact (ev_keeps t).2.1 _ _⟩
    · rintro v H2 ⟨q, I2, G2, _, y, S2, ⟨r1, r2⟩, h2⟩
      exact ⟨q, I2, G2, y, r2, S2, r1, h2⟩
theorem nwA_new {H0 : Hp} : ∀ {ps : List (D × Kd)} {vs : List V}, Rks L H0 G H ps vs → ∀ a ∈ nwA ps vs, H0 a = none
  | _, _, .nil, a, h => by simp [nwA] at h
  | _, _, .cons r rs, a, h => by
    rcases List.mem_append.mp h with z | z
    · cases r with
      | new e h' h0 h1 h2 h3 =>
        rw [List.mem_singleton.mp z]; exact h0
      | fro h' => simp at z
      | own e h' m => simp at z
      | inst e h' m => simp at z
      | cst h' r' => simp at z
    · exact nwA_new rs a z
theorem ta_cons {a b : Tm} {Q : List V → Hp → Prop} (h : ta L W (.cons a b) σ H Q) : tCons (te L W a) (ta L W b) σ H Q := by
  obtain ⟨ro, G, fr, I, S, h⟩ := h
  simp only [evK] at h
  refine ⟨ro, G, fr, I, S, PR.imp (PR.bind (rel := RkR L H) h) (fun _ _ _ _ r => r) ?_⟩
  rintro x H1 ⟨p, I1, G1, _, e1, S1, r1, h1⟩
  obtain ⟨ro2, G2, fr2, I2, S2, h2⟩ := ta_next e1 S1 h1
  refine ⟨ro2, G2, fr2, I2, S2, h2.imp (fun _ _ _ _ r => r) ?_⟩
  rintro vs H2 ⟨ps, I3, G3, y1, y2, S3, ⟨r3, n3⟩, h3⟩
  refine h3 _ G3 H2 y1 S3 ⟨.cons (r1.later S1 y2) (r3.from e1.dom), ?_⟩
  refine List.nodup_append.mpr ⟨?_, n3, fun u hu w hw e => ?_⟩
  · split <;> simp
  · subst e
    have hn := nwA_new r3 u hw
    cases r1 with
    | new e h' h0 h1 h2 h3 => rw [List.mem_singleton.mp hu] at hn; exact h'.some hn
    | fro h' => simp at hu
    | own e h' m => simp at hu
    | inst e h' m => simp at hu
    | cst h' r' => simp at hu
/-! ### what is walked -/
def iAny (K : PySem.W.Frag) (tl : TE) : TI := fun σ H R => tl σ H fun x H1 => (∃ a, x = .ref a ∧ (∃ xs, SqL K H1 a xs) ∧ R (Itl K a) H1) ∨ (∃ a, x = .ref a ∧ (∃ xs, SqT K H1 a xs) ∧ R (Itt K a) H1) ∨ ∃ z, x = .str z ∧ R (Its z) H1
theorem pi_any {l tg : Expr} {tl : TE} (hl : PE X l tl) : PI X tg l (iAny X.K tl) := by
  refine ⟨fun pins s σ H R I h => ?_⟩
  refine thn (hl.run pins s σ H _ I h) fun v s1 ⟨x, H1, I1, r1, q1⟩ => ?_
  rcases q1 with ⟨a, e, ⟨xs, hq⟩, q⟩ | ⟨a, e, ⟨xs, hq⟩, q⟩ | ⟨z, ex, q⟩
  · subst e
    cases r1
    obtain ⟨its, rv, p, hz⟩ := I1.list hq
    refine wpAny_pyIter_list p.isList ?_
    refine ⟨s1.heap.objs.size, [s1.heap.objs.size], _, _, H1, rfl, I1.kept (t' := s1.toks) fun b o e => Heap.get?_push_of_some _ e, turn_list a _, ⟨_, Heap.get?_push_size _ rfl, rfl, rfl⟩, fun b hb => ?_, q⟩
    have e : b = s1.heap.objs.size := by simpa using hb
    subst e
    exact I1.fpOk (Nat.le_refl _) (I1.hok.fresh (Nat.le_refl _))
  · subst e
    cases r1
    obtain ⟨its, rv, p, hz⟩ := I1.tuple hq
    refine wpAny_pyIter_tuple (show s1.heap.IsTuple a its.toArray from p) ?_
    refine ⟨s1.heap.objs.size, [s1.heap.objs.size], _, _, H1, rfl, I1.kept (t' := s1.toks) fun b o e => Heap.get?_push_of_some _ e, turn_tuple a _, ⟨_, Heap.get?_push_size _ rfl, rfl, rfl⟩, fun b hb => ?_, q⟩
    have e : b = s1.heap.objs.size := by simpa using hb
    subst e
    exact I1.fpOk (Nat.le_refl _) (I1.hok.fresh (Nat.le_refl _))
  · subst ex
    obtain ⟨t, rfl⟩ := r1
    cases ha : z.cps.all (· < 128)
    · exact wpAny_pyIter_wide ha (pi_one (tk := s1.toks) I1 _ (turn_str _ z t "str_iterator" (.inr rfl)) ⟨_, Heap.get?_push_size _ rfl, rfl, rfl⟩ q)
    · exact wpAny_pyIter_ascii ha (pi_one (tk := s1.toks) I1 _ (turn_str _ z t "str_ascii_iterator" (.inl rfl)) ⟨_, Heap.get?_push_size _ rfl, rfl, rfl⟩ q)
theorem ti_any (hK : X.K = L.K) {a : Tm} {R' : It → Hp → Prop} (h : ti L W (.cons a .nil) σ H R') : iAny X.K (te L W a) σ H R' := by
  obtain ⟨ro, G, fr, I, S, h⟩ := h
  simp only [evI] at h
  refine ⟨ro, G, fr, I, S, PR.imp (PR.bind (rel := RkR L H) h) (fun _ _ _ _ r => r) ?_⟩
  rintro x H1 ⟨⟨d, k⟩, I1, G1, _, e1, S1, r1, h1⟩
  cases d with
  | lst ds =>
    obtain ⟨b, vs, rfl, hb, rb, n1, n2⟩ := src_lst S1 r1
    exact .inl ⟨b, rfl, ⟨vs, .of hb⟩, h1 _ G1 H1 e1 S1 (wk_lst hb rb n1 n2)⟩
  | tup ds =>
    have h1 : PR L W ro G H σ fr (match (bif decide (k = .cst) then none else some (ds, k)) with | some r => .ok r I1 | none => .bad) (fun G' H' p J => WkR G' H' p J) R' := h1
    cases r1 with
    | cst => exact absurd h1 id
    | own e | inst e | new e => cases e
    | fro r1 =>
      cases r1 with
      | tup e r => exact .inr (.inl ⟨_, rfl, ⟨_, .of (S1.sub _ _ e).tup⟩, h1 _ G1 H1 e1 S1 (wk_tup S1 e r)⟩)
  | scr ns =>
    cases r1 with
    | own e | inst e | new e => cases e
    | fro r1 =>
      cases r1 with
      | scr e => exact .inl ⟨_, rfl, ⟨_, .inl (.inr ⟨_, (S1.sub _ _ e).frz⟩)⟩, h1 _ G1 H1 e1 S1 (wk_scr S1 e)⟩
      | scrL e =>
        have hs := (S1.sub _ _ e).lst
        exact .inl ⟨_, rfl, ⟨_, .of hs⟩, h1 _ G1 H1 e1 S1 (wk_lst hs (.ints ns) (.inr fun z => (by rw [S1.sep _ (List.mem_append_right _ z)] at e; cases e)) (.inr fun z => (by rw [S1.sep _ (List.mem_append_left _ z)] at e; cases e)))⟩
      | scrK e =>
        rw [hK]
        exact .inl ⟨_, rfl, ⟨_, e H1⟩, h1 _ G1 H1 e1 S1 (wk_scrK e)⟩
  | str z =>
    obtain ⟨rfl, hz⟩ := r1.str
    exact .inr (.inr ⟨z, rfl, h1 _ G1 H1 e1 S1 (wk_str hz)⟩)
  | _ => exact absurd h1 id
theorem big_ok {i : Int} (h : big62 i = true) : -(2 ^ 62) ≤ i ∧ i < 2 ^ 62 := by
  unfold big62 at h
  simp only [Bool.and_eq_true, decide_eq_true_eq] at h
  omega
theorem ti_rng1 {a : Tm} {R' : It → Hp → Prop} (h : ti L W (.rng1 a) σ H R') : iRng1 (tCons (te L W a) tNil) σ H R' := by
  obtain ⟨ro, G, fr, I, S, h⟩ := h
  simp only [evI] at h
  refine ⟨ro, G, fr, I, S, PR.imp (PR.bind (rel := RkR L H) h) (fun _ _ _ _ r => r) ?_⟩
  rintro x H1 ⟨⟨d, k⟩, I1, G1, _, e1, S1, r1, h1⟩
  cases d with
  | int n =>
    obtain ⟨hb, h1⟩ := PR.cond (show PR L W ro G H σ fr (bif big62 n then .ok (rngL 0 n, .fro) I1 else .bad) (fun G' H' p J => WkR G' H' p J) R' from h1)
    have hb := big_ok hb
    refine ⟨n, by rw [r1.int], hb.1, hb.2, h1 _ G1 H1 e1 S1 ?_⟩
    have := wk_rng (G := G1) (H := H1) (lo := 0) (hi := n) (k := .fro)
    rwa [Int.sub_zero] at this
  | _ => exact absurd h1 id
theorem ti_rng2 {a b : Tm} {R' : It → Hp → Prop} (h : ti L W (.rng2 a b) σ H R') : iRng2 (tCons (te L W a) (tCons (te L W b) tNil)) σ H R' := by
  obtain ⟨ro, G, fr, I, S, h⟩ := h
  simp only [evI] at h
  refine ⟨ro, G, fr, I, S, PR.imp (PR.bind (rel := RkR L H) h) (fun _ _ _ _ r => r) ?_⟩
  rintro x H1 ⟨⟨d, k⟩, I1, G1, hev, e1, S1, r1, h1⟩
  clear hev
  refine te.imp (te_next (k := k) e1 S1 h1) ?_
  rintro y H2 ⟨⟨e, k2⟩, I2, G2, y1, y2, S2, r2, h2⟩
  cases d <;> cases e <;> try (exact absurd h2 id)
  rename_i l n
  obtain ⟨hb, h2⟩ := PR.cond (show PR L W ro G H σ fr (bif big62 l && big62 n then .ok (rngL l n, .fro) I2 else .bad) (fun G' H' p J => WkR G' H' p J) R' from h2)
  rw [Bool.and_eq_true] at hb
  have h3 := big_ok hb.1
  have h4 := big_ok hb.2
  exact ⟨l, n, by rw [r1.int, r2.int], ⟨h3.1, h3.2, h4.1, h4.2⟩, h2 _ G2 H2 y1 S2 wk_rng⟩
theorem ti_enm (hK : X.K = L.K) {a : Tm} {R' : It → Hp → Prop} (h : ti L W (.enm a) σ H R') : iEnum X.K (tCons (te L W a) tNil) σ H R' := by
  obtain ⟨ro, G, fr, I, S, h⟩ := h
  simp only [evI] at h
  refine ⟨ro, G, fr, I, S, PR.imp (PR.bind (rel := RkR L H) h) (fun _ _ _ _ r => r) ?_⟩
  rintro x H1 ⟨⟨d, k⟩, I1, G1, hev, e1, S1, r1, h1⟩
  clear hev
  cases d with
  | lst ds =>
    obtain ⟨b, vs, rfl, hb, rb, n1, n2⟩ := src_lst S1 r1
    exact ⟨b, vs, rfl, .of hb, h1 _ G1 H1 e1 S1 (wk_enm hb rb n1 n2)⟩
  | _ => exact absurd h1 id
theorem ti_zp (hK : X.K = L.K) {a b : Tm} {R' : It → Hp → Prop} (h : ti L W (.zp a b) σ H R') : iZip X.K (tCons (te L W a) (tCons (te L W b) tNil)) σ H R' := by
  obtain ⟨ro, G, fr, I, S, h⟩ := h
  simp only [evI] at h
  refine ⟨ro, G, fr, I, S, PR.imp (PR.bind (rel := RkR L H) h) (fun _ _ _ _ r => r) ?_⟩
  rintro x H1 ⟨⟨d, k⟩, I1, G1, hev, e1, S1, r1, h1⟩
  clear hev
  refine te.imp (te_next (k := k) e1 S1 h1) ?_
  rintro y H2 ⟨⟨e, k2⟩, I2, G2, y1, y2, S2, r2, h2⟩
  cases d <;> cases e <;> try (exact absurd h2 id)
  rename_i ds es
  have r1' := r1.later S1 y2
  obtain ⟨u, vs, rfl, hu, ru, n1, n2⟩ := src_lst S2 r1'
  obtain ⟨v, ws, rfl, hv, rv, m1, m2⟩ := src_lst S2 r2
  have h2 : PR L W ro G H σ fr (match zpK k k2 with | some k => .ok (zpL ds es, k) I2 | none => .bad) (fun G' H' p J => WkR G' H' p J) R' := h2
  cases e3 : zpK k k2 with
  | none => rw [e3] at h2; exact absurd h2 id
  | some kk =>
    rw [e3] at h2
    obtain ⟨z1, z2, z3, z4⟩ := zpK_ok e3
    exact ⟨u, v, vs, ws, rfl, .of hu, .of hv, h2 _ G2 H2 y1 S2 (wk_zp hu ru (n1.imp z1 id) (n2.imp z2 id) hv rv (m1.imp z3 id) (m2.imp z4 id))⟩
end
end Air
/-! Air: min of a list with a default. -/
namespace Air
open PySem PySem.Spec PyProof.Rows L2
variable [Kf]
theorem foldl_minL : ∀ (r : List Int) (n : Int), r.foldl min n = minL (n :: r)
  | [], n => rfl
  | b :: r, n => by
    rw [List.foldl_cons, foldl_minL r]
    cases r with
    | nil => rfl
    | cons c r =>
      show min (min n b) (minL (c :: r)) = min n (min b (minL (c :: r)))
      omega
def KwTwo (L : Lg) (f : List (D × Kd) → Is → R (D × Kd)) : List V → List V → Hp → VK → Prop := fun xs zs H2 Q => ∃ W ro G H σ fr p q I2 G2 v z, xs = [v] ∧ zs = [z] ∧ Ext ro G H G2 H2 ∧ Sx L.c ro G2 fr I2 σ H2 ∧ Rk L H G2 H2 p v ∧ Rk L H G2 H2 q z ∧ PR L W ro G H σ fr (f [p, q] I2) (RkR L H) Q
section
variable {L : Lg} {X : Cx}
theorem dp_ints (K : PySem.W.Frag) (H : Hp) : ∀ ns : List Int, DpAll K H (ns.map V.int) (ns.map PyData.int)
  | [] => .nil
  | n :: ns => .cons (.int n) (dp_ints K H ns)
theorem depth_ints : ∀ ns : List Int, PyData.depthAll (ns.map PyData.int) ≤ 1
  | [] => by simp [PyData.depthAll]
  | n :: ns => by
    have := depth_ints ns
    simp only [List.map_cons, PyData.depthAll, PyData.depth]; omega
theorem minD_run (hc : X.calm = true) (hu : X.A.units + 64 < cLine) : CallRK X (.builtin "min") [Str.ofString "default"] (KwTwo L (biD .minD)) := by
  intro pins s σ H2 xs zs us ws Q J r rz h
  obtain ⟨W, ro, G, H, σ', fr, ⟨d, k⟩, ⟨e, k2⟩, I2, G2, v, z, rfl, rfl, ex, S, hv, hz, h⟩ := h
  cases d <;> try (exact absurd h id)
  rename_i ds
  cases e <;> try (exact absurd h id)
  rename_i m
  obtain ⟨a, vs, rfl, ha, ra⟩ := hv.lst S
  obtain rfl := hz.int
  obtain ⟨u, rfl, ru⟩ := vals1 r
  cases ru
  obtain ⟨uz, rfl, rz'⟩ := vals1 rz
  obtain ⟨t, rfl⟩ := rz'
  have h : PR L W ro G H σ' fr (match intsD ds with | some [] => .ok (.int m, .fro) I2 | some (n :: ns) => .ok (.int (minL (n :: ns)), .fro) I2 | none => .bad) (RkR L H) Q := h
  cases q : intsD ds with
  | none => rw [q] at h; exact absurd h id
  | some ns =>
    rw [q] at h
    have e := ra.intsD q
    subst e
    obtain ⟨its, rv, p, hz'⟩ := J.list (SqL.of (K := X.K) ha)
    obtain ⟨as, hr⟩ := Dp.readsAll J (ns.map PyData.int) _ its (dp_ints X.K H2 ns) rv
    have hd := depth_ints ns
    refine PySem.W.min_list_default (J.ok.hd hc) p.isList (by simpa using hr) ⟨fun x hx y hy => ?_, fun x hx => ?_⟩ (by omega) (fun h0 h' tk kp => ?_) (fun y ys i w h' tk bs he hw hrd kp => ?_)
    · obtain ⟨i, _, rfl⟩ := List.mem_map.mp hx
      obtain ⟨j, _, rfl⟩ := List.mem_map.mp hy
      simp only [PySem.W.alike]
    · obtain ⟨i, _, rfl⟩ := List.mem_map.mp hx
      exact fun z => by cases z
    · cases ns with
      | nil => exact ⟨.int m, H2, J.kept kp, ⟨t, rfl⟩, fin_fro h ex S (.int _)⟩
      | cons n ns => cases h0
    · cases ns with
      | nil => cases he
      | cons n ns =>
        rw [List.map_cons] at he
        injection he with h1 h2
        subst h1 h2
        rw [PySem.W.minD_ints, foldl_minL] at hrd
        cases hrd
        exact ⟨.int (minL (n :: ns)), H2, J.kept kp, ⟨_, rfl⟩, fin_fro h ex S (.int _)⟩
theorem bind_assoc' {α β γ : Type} (r : R α) (f : α → Is → R β) (g : β → Is → R γ) : (r.bind f).bind g = r.bind fun a I => (f a I).bind g := by cases r <;> rfl
variable {W : WX}
theorem te_two_row {f : Bi} {a b : Tm} {σ : St} {H : Hp} {Q : VK} (h : te L W (.blt f (.cons a (.cons b .nil))) σ H Q) : te L W a σ H (fun x H1 => te L W b σ H1 fun y H2 => KwTwo L (biD f) [x] [y] H2 Q) := by
  obtain ⟨ro, G, fr, I, S, h⟩ := h
  have e : ev L.cn L.cf (.blt f (.cons a (.cons b .nil))) ro fr I = (ev L.cn L.cf a ro fr I).bind fun p I => (ev L.cn L.cf b (ro || isInst p.2) fr I).bind fun q I => biD f [p, q] I := by
    simp only [ev, evK]
    cases ev L.cn L.cf a ro fr I with
    | ok p I1 =>
      simp only [R.bind]
      cases ev L.cn L.cf b (ro || isInst p.2) fr I1 <;> rfl
    | exc x I1 => rfl
    | bad => rfl
  rw [e] at h
  refine te.imp (te_two (f := fun p q I => biD f [p, q] I) S h) fun x H1 q => te.imp q fun y H2 q2 => ?_
  obtain ⟨W', ro', G', H', σ', fr', p, q, I2, G2, ex, S2, hx, hy, h2⟩ := q2
  exact ⟨W', ro', G', H', σ', fr', p, q, I2, G2, x, y, rfl, rfl, ex, S2, hx, hy, h2⟩
end
end Air
/-! Air: a term's run (9): the main theorem. -/
namespace Air
open PySem PySem.Spec PyProof.Rows L2
variable [Kf]
def tyS (k : Str) : String := bif decide (k = "int") then "int" else bif decide (k = "bool") then "bool" else bif decide (k = "str") then "str" else bif decide (k = "tuple") then "tuple" else "list"
structure Main (L : Lg) (t : Tm) : Prop where
  e : ∀ {X : Cx} {W : WX} {e : Expr}, Good L X W → chk L.kn t X.env.scope X.N e = true → PE X e (te L W t) ∧ PT X e (tt L W t) ∧ (∀ {op es pos}, e = .BoolOp op es pos → PW X e (tt L W t))
  a : ∀ {X : Cx} {W : WX} {es : List Expr}, Good L X W → chkK L.kn t X.env.scope X.N es = true → PA X es (ta L W t)
  p : ∀ {X : Cx} {W : WX} {o : Option Expr}, Good L X W → chkP L.kn t X.env.scope X.N o = true → PO X o (tp L W t)
  c : ∀ {X : Cx} {W : WX} {es : List Expr}, Good L X W → chkC L.kn t X.env.scope X.N es = true → PTs X es (tc L W t)
  i : ∀ {X : Cx} {W : WX} {tg e : Expr}, Good L X W → chkI L.kn t X.env.scope X.N tg e = true → PI X tg e (ti L W t)
section
variable {L : Lg} {ro ro' : Bool} {G G1 G2 : Gh} {H H1 H2 : Hp} {σ : St} {fr : Fr} {I I1 : Is}
theorem Main.plain {t : Tm} (h : ∀ {X : Cx} {W : WX} {e : Expr}, Good L X W → chk L.kn t X.env.scope X.N e = true → PE X e (te L W t) ∧ PT X e (tt L W t) ∧ (∀ {op es pos}, e = .BoolOp op es pos → PW X e (tt L W t)))
    (ha : ∀ sc N es, chkK L.kn t sc N es = false := by intros; rfl) (hp : ∀ sc N es, chkP L.kn t sc N es = false := by intros; rfl) (hc : ∀ sc N es, chkC L.kn t sc N es = false := by intros; rfl) (hi : ∀ sc N tg es, chkI L.kn t sc N tg es = false := by intros; rfl) : Main L t :=
  ⟨h, fun _ h => (by rw [ha] at h; cases h), fun _ h => (by rw [hp] at h; cases h), fun _ h => (by rw [hc] at h; cases h), fun _ h => (by rw [hi] at h; cases h)⟩
theorem Main.walk {t : Tm} (h : ∀ {X : Cx} {W : WX} {tg e : Expr}, Good L X W → chkI L.kn t X.env.scope X.N tg e = true → PI X tg e (ti L W t))
    (he : ∀ sc N es, chk L.kn t sc N es = false := by intros; rfl) (ha : ∀ sc N es, chkK L.kn t sc N es = false := by intros; rfl) (hp : ∀ sc N es, chkP L.kn t sc N es = false := by intros; rfl) (hc : ∀ sc N es, chkC L.kn t sc N es = false := by intros; rfl) : Main L t :=
  ⟨fun _ h => (by rw [he] at h; cases h), fun _ h => (by rw [ha] at h; cases h), fun _ h => (by rw [hp] at h; cases h), fun _ h => (by rw [hc] at h; cases h), h⟩
theorem pe3 {X : Cx} {W : WX} {e : Expr} {t : Tm} (h : PE X e (te L W t)) (he : ∀ whole, isTrue e X.env whole = (do let v ← whole; standAt e.pos; holding [v] (truthy v)) := by intro _; rfl) (hb : ∀ {op es pos}, e ≠ .BoolOp op es pos := by intros; exact fun z => nomatch z) : PE X e (te L W t) ∧ PT X e (tt L W t) ∧ (∀ {op es pos}, e = .BoolOp op es pos → PW X e (tt L W t)) :=
  ⟨h, pt_of h he, fun z => absurd z hb⟩
/-- a comparison -/
theorem pe4 {X : Cx} {W : WX} {e : Expr} {t : Tm} (h : PE X e (te L W t)) (h2 : PT X e (tTest (te L W t))) (hb : ∀ {op es pos}, e ≠ .BoolOp op es pos := by intros; exact fun z => nomatch z) : PE X e (te L W t) ∧ PT X e (tt L W t) ∧ (∀ {op es pos}, e = .BoolOp op es pos → PW X e (tt L W t)) :=
  ⟨h, PT.imp h2 fun σ H Q q => tt_te q, fun z => absurd z hb⟩
theorem main_cns (c : Cs) : Main L (.cns c) := .plain fun {X W e} g h => by
  unfold chk at h
  split at h <;> first | (rename_i heq; cases heq; done) | (cases h; done) | skip
  rename_i heq; cases heq
  exact pe3 (pe_cnsA h)
theorem main_loc (i : Nat) : Main L (.loc i) := .plain fun {X W e} g h => by
  unfold chk at h
  split at h <;> first | (rename_i heq; cases heq; done) | (cases h; done) | skip
  rename_i heq; cases heq
  simp only [Bool.and_eq_true, decide_eq_true_eq, Bool.not_eq_true'] at h
  exact pe3 (PE.imp (pe_var h.1.1.1 (vis_of h.1.1.2) h.1.2 h.2) fun σ H Q q => loc_run q)
theorem main_gk (x : Str) : Main L (.gk x) := .plain fun {X W e} g h => by
  unfold chk at h
  split at h <;> first | (rename_i heq; cases heq; done) | (cases h; done) | skip
  rename_i heq; cases heq
  simp only [Bool.and_eq_true, decide_eq_true_eq] at h
  obtain ⟨⟨rfl, h2⟩, h3⟩ := h
  exact pe3 (pe_gkA g (gl_of h2).1 (gl_of h2).2 h3)
theorem main_nil : Main L .nil where
  e := fun g h => by
    unfold chk at h
    cases h
  a := fun {X W es} g h => by
    cases es with
    | nil => exact PA.imp pa_nil fun σ H Q ⟨ro, G, fr, I, S, q⟩ => q _ G H .refl S ⟨.nil, .nil⟩
    | cons x xs => cases h
  p := fun {X W o} g h => by
    cases o with
    | none => exact PO.imp po_none fun σ H Q ⟨ro, G, fr, I, S, q⟩ => q _ G H .refl S rfl
    | some x => cases h
  c := fun {X W es} g h => by
    cases es with
    | nil => exact PTs.imp pts_nil fun σ H Q ⟨ro, G, fr, I, S, q⟩ => q _ G H .refl S rfl
    | cons x xs => cases h
  i := fun g h => by cases h
theorem main_cons {a b : Tm} (iha : Main L a) (ihb : Main L b) : Main L (.cons a b) where
  e := fun g h => by
    unfold chk at h
    cases h
  a := fun {X W es} g h => by
    cases es with
    | nil => cases h
    | cons x xs =>
      simp only [chkK, Bool.and_eq_true] at h
      exact PA.imp (pa_cons (iha.e g h.1.1).1 (ihb.a g h.2) (star_of h.1.2 xs X.env)) fun σ H Q q => ta_cons q
  p := fun {X W o} g h => by
    cases b <;> cases o <;> try (cases h; done)
    simp only [chkP] at h
    refine PO.imp (po_some (iha.e g h).1) fun σ H Q q => ?_
    obtain ⟨ro, G, fr, I, S, q⟩ := q
    simp only [evP] at q
    refine ⟨ro, G, fr, I, S, PR.imp (PR.bind (rel := RkR L H) q) (fun _ _ _ _ r => r) ?_⟩
    rintro v H1 ⟨⟨d, k⟩, I1, G1, _, x, S1, r1, h1⟩
    cases d with
    | int i => exact ⟨i, r1.int, h1 _ G1 H1 x S1 rfl⟩
    | _ => exact absurd h1 id
  c := fun {X W es} g h => by
    cases b <;> try (cases h; done)
    rcases es with _ | ⟨x, _ | ⟨y, ys⟩⟩ <;> try (cases h; done)
    simp only [chkC] at h
    exact PTs.imp (pts_one (iha.e g h).2.1) fun σ H Q q => q
  i := fun {X W tg e} g h => by
    cases b <;> try (cases h; done)
    have h : chk L.kn a X.env.scope X.N e = true := h
    exact PI.imp (pi_any (iha.e g h).1) fun σ H Q q => ti_any g.K q
theorem main_bin {o : Bo} {a b : Tm} (iha : Main L a) (ihb : Main L b) : Main L (.bin o a b) := .plain fun {X W e} g h => by
  unfold chk at h
  split at h <;> first | (rename_i heq; cases heq; done) | (cases h; done) | skip
  rename_i heq; cases heq
  simp only [Bool.and_eq_true, decide_eq_true_eq] at h
  obtain ⟨⟨rfl, h1⟩, h2⟩ := h
  refine pe3 (PE.imp (pe_op (op_bin g.K o) (iha.e g h1).1 (ihb.e g h2).1) fun σ H Q q => ?_)
  obtain ⟨ro, G, fr, I, S, q⟩ := q
  simp only [ev] at q
  exact te_two S q
theorem main_neg {a : Tm} (iha : Main L a) : Main L (.neg a) := .plain fun {X W e} g h => by
  unfold chk at h
  split at h <;> first | (rename_i heq; cases heq; done) | (cases h; done) | skip
  rename_i heq; cases heq
  exact pe3 (PE.imp (pe_un un_neg (iha.e g h).1) fun σ H Q q => te_neg q)
theorem main_cmp {o : Co} {a b : Tm} (iha : Main L a) (ihb : Main L b) : Main L (.cmp o a b) := .plain fun {X W e} g h => by
  unfold chk at h
  split at h <;> first | (rename_i heq; cases heq; done) | (cases h; done) | skip
  rename_i heq; cases heq
  simp only [Bool.and_eq_true, decide_eq_true_eq] at h
  obtain ⟨⟨⟨rfl, h1⟩, h2⟩, h3⟩ := h
  have i : ∀ σ H Q, te L W (.cmp o a b) σ H Q → tOp (Two L fun p q I => cmpD o p.1 q.1 I) (te L W a) (te L W b) σ H Q := fun σ H Q q => by
    obtain ⟨ro, G, fr, I, S, q⟩ := q
    simp only [ev] at q
    exact te_two S q
  exact pe4 (PE.imp (pe_cmpR (op_cmp g.K g.hu o) (iha.e g h1).1 (ihb.e g h2).1 (mark_of h3)) i) (PT.imp (pt_cmpR (op_cmp g.K g.hu o) (iha.e g h1).1 (ihb.e g h2).1 (mark_of h3)) fun σ H Q q => i _ _ _ q)
theorem main_isn {ng : Bool} {a : Tm} (iha : Main L a) : Main L (.isn ng a) := .plain fun {X W e} g h => by
  unfold chk at h
  split at h <;> first | (rename_i heq; cases heq; done) | (cases h; done) | skip
  rename_i heq; cases heq
  simp only [Bool.and_eq_true, decide_eq_true_eq] at h
  obtain ⟨rfl, h1⟩ := h
  cases ng with
  | false =>
    have i : ∀ σ H Q, te L W (.isn false a) σ H Q → tOp (fun x y H Q => y = .non ∧ Q (.bl (decide (x = .non))) H) (te L W a) (tC .non) σ H Q := fun σ H Q q => te.imp (te_isn q) fun v H' z => ⟨rfl, by simpa using z⟩
    exact pe4 (PE.imp (pe_cmpR op_isN (iha.e g h1).1 pe_non rfl) i) (PT.imp (pt_cmpR op_isN (iha.e g h1).1 pe_non rfl) fun σ H Q q => i _ _ _ q)
  | true =>
    have i : ∀ σ H Q, te L W (.isn true a) σ H Q → tOp (fun x y H Q => y = .non ∧ Q (.bl (!decide (x = .non))) H) (te L W a) (tC .non) σ H Q := fun σ H Q q => te.imp (te_isn q) fun v H' z => ⟨rfl, by simpa using z⟩
    exact pe4 (PE.imp (pe_cmpR op_notN (iha.e g h1).1 pe_non rfl) i) (PT.imp (pt_cmpR op_notN (iha.e g h1).1 pe_non rfl) fun σ H Q q => i _ _ _ q)
theorem main_isb {ng k : Bool} {a : Tm} (iha : Main L a) : Main L (.isb ng k a) := .plain fun {X W e} g h => by
  unfold chk at h
  split at h <;> first | (rename_i heq; cases heq; done) | (cases h; done) | skip
  rename_i heq; cases heq
  simp only [Bool.and_eq_true, decide_eq_true_eq] at h
  obtain ⟨⟨rfl, hk⟩, h1⟩ := h
  have hk := hk.symm
  subst hk
  cases ng with
  | false =>
    have i : ∀ σ H Q, te L W (.isb false k a) σ H Q → tOp rIsB (te L W a) (tC (.bl k)) σ H Q := fun σ H Q q => te.imp (te_isb q) fun v H' ⟨b, e, z⟩ => ⟨b, k, e, rfl, by simpa using z⟩
    exact pe4 (PE.imp (pe_cmpR op_isBl (iha.e g h1).1 pe_bl rfl) i) (PT.imp (pt_cmpR op_isBl (iha.e g h1).1 pe_bl rfl) fun σ H Q q => i _ _ _ q)
  | true =>
    have i : ∀ σ H Q, te L W (.isb true k a) σ H Q → tOp rNotB (te L W a) (tC (.bl k)) σ H Q := fun σ H Q q => te.imp (te_isb q) fun v H' ⟨b, e, z⟩ => ⟨b, k, e, rfl, by simpa using z⟩
    exact pe4 (PE.imp (pe_cmpR op_notBl (iha.e g h1).1 pe_bl rfl) i) (PT.imp (pt_cmpR op_notBl (iha.e g h1).1 pe_bl rfl) fun σ H Q q => i _ _ _ q)
theorem main_ch2 {o1 o2 : Co} {a b c : Tm} (iha : Main L a) (ihb : Main L b) (ihc : Main L c) : Main L (.ch2 o1 o2 a b c) := .plain fun {X W e} g h => by
  unfold chk at h
  split at h <;> first | (rename_i heq; cases heq; done) | (cases h; done) | skip
  rename_i heq; cases heq
  simp only [Bool.and_eq_true, decide_eq_true_eq] at h
  obtain ⟨⟨⟨⟨⟨rfl, rfl⟩, h1⟩, h2⟩, h3⟩, h4⟩ := h
  exact pe4 (PE.imp (pe_chain (op_cmpB (L := L) g.K g.hu o1) (op_cmpB (L := L) g.K g.hu o2) (iha.e g h1).1 (ihb.e g h2).1 (ihc.e g h3).1 (mark_of h4)) fun σ H Q q => te_ch2 q)
    (PT.imp (pt_chain (op_cmpB (L := L) g.K g.hu o1) (op_cmpB (L := L) g.K g.hu o2) (iha.e g h1).1 (ihb.e g h2).1 (ihc.e g h3).1 (mark_of h4)) fun σ H Q q => te_ch2 q)
theorem main_ch3 {o1 o2 o3 : Co} {a b c d : Tm} (iha : Main L a) (ihb : Main L b) (ihc : Main L c) (ihd : Main L d) : Main L (.ch3 o1 o2 o3 a b c d) := .plain fun {X W e} g h => by
  unfold chk at h
  split at h <;> first | (rename_i heq; cases heq; done) | (cases h; done) | skip
  rename_i heq; cases heq
  simp only [Bool.and_eq_true, decide_eq_true_eq] at h
  obtain ⟨⟨⟨⟨⟨⟨⟨rfl, rfl⟩, rfl⟩, h1⟩, h2⟩, h3⟩, h4⟩, h5⟩ := h
  exact pe4 (PE.imp (pe_chain3 (op_cmpB (L := L) g.K g.hu o1) (op_cmpB (L := L) g.K g.hu o2) (op_cmpB (L := L) g.K g.hu o3) (iha.e g h1).1 (ihb.e g h2).1 (ihc.e g h3).1 (ihd.e g h4).1 (mark_of h5)) fun σ H Q q => te_ch3 q)
    (PT.imp (pt_chain3 (op_cmpB (L := L) g.K g.hu o1) (op_cmpB (L := L) g.K g.hu o2) (op_cmpB (L := L) g.K g.hu o3) (iha.e g h1).1 (ihb.e g h2).1 (ihc.e g h3).1 (ihd.e g h4).1 (mark_of h5)) fun σ H Q q => te_ch3 q)
theorem main_and {a b : Tm} (iha : Main L a) (ihb : Main L b) : Main L (.and a b) := .plain fun {X W e} g h => by
  unfold chk at h
  split at h <;> first | (rename_i heq; cases heq; done) | (cases h; done) | skip
  rename_i heq; cases heq
  rename_i x y r pos
  rw [Bool.and_eq_true] at h
  obtain ⟨h1, h2⟩ := h
  cases r with
  | nil =>
    have pw := PW.imp (pw_and (pos := pos) (iha.e g h1).2.1 (pw_and1 (ihb.e g h2).2.1)) fun σ H Q (q : tt L W (.and a b) σ H Q) => tt_and q
    exact ⟨PE.imp (pe_and (iha.e g h1).1 (pe_one (ihb.e g h2).1)) fun σ H Q q => te.imp (te_and q) fun v H' ⟨c, e, z⟩ => ⟨c, e, by
      cases c with
      | false => exact z
      | true => rw [if_pos rfl] at z ⊢; exact te.imp z fun v H' ⟨d, e, q⟩ => e ▸ q⟩, pw.pt, fun _ => pw⟩
  | cons z r =>
    have pw := PW.imp (pw_and (pos := pos) (iha.e g h1).2.1 ((ihb.e g h2).2.2 rfl)) fun σ H Q (q : tt L W (.and a b) σ H Q) => tt_and q
    exact ⟨PE.imp (pe_and (iha.e g h1).1 (ihb.e g h2).1) fun σ H Q q => te.imp (te_and q) fun v H' ⟨c, e, z⟩ => ⟨c, e, by
      cases c with
      | false => exact z
      | true => rw [if_pos rfl] at z ⊢; exact te.imp z fun v H' ⟨d, e, q⟩ => e ▸ q⟩, pw.pt, fun _ => pw⟩
theorem main_or {a b : Tm} (iha : Main L a) (ihb : Main L b) : Main L (.or a b) := .plain fun {X W e} g h => by
  unfold chk at h
  split at h <;> first | (rename_i heq; cases heq; done) | (cases h; done) | skip
  rename_i heq; cases heq
  rename_i x y r pos
  rw [Bool.and_eq_true] at h
  obtain ⟨h1, h2⟩ := h
  cases r with
  | nil =>
    have pw := PW.imp (pw_or (pos := pos) (iha.e g h1).2.1 (pw_or1 (ihb.e g h2).2.1)) fun σ H Q (q : tt L W (.or a b) σ H Q) => tt_or q
    exact ⟨PE.imp (pe_or (iha.e g h1).1 (pe_one (ihb.e g h2).1)) fun σ H Q q => te.imp (te_or q) fun v H' ⟨c, e, z⟩ => ⟨c, e, by
      cases c with
      | true => exact z
      | false => rw [if_neg Bool.false_ne_true] at z ⊢; exact te.imp z fun v H' ⟨d, e, q⟩ => e ▸ q⟩, pw.pt, fun _ => pw⟩
  | cons z r =>
    have pw := PW.imp (pw_or (pos := pos) (iha.e g h1).2.1 ((ihb.e g h2).2.2 rfl)) fun σ H Q (q : tt L W (.or a b) σ H Q) => tt_or q
    exact ⟨PE.imp (pe_or (iha.e g h1).1 (ihb.e g h2).1) fun σ H Q q => te.imp (te_or q) fun v H' ⟨c, e, z⟩ => ⟨c, e, by
      cases c with
      | true => exact z
      | false => rw [if_neg Bool.false_ne_true] at z ⊢; exact te.imp z fun v H' ⟨d, e, q⟩ => e ▸ q⟩, pw.pt, fun _ => pw⟩
theorem main_not {a : Tm} (iha : Main L a) : Main L (.not a) := .plain fun {X W e} g h => by
  unfold chk at h
  split at h <;> first | (rename_i heq; cases heq; done) | (cases h; done) | skip
  rename_i heq; cases heq
  exact ⟨PE.imp (pe_not (iha.e g h).1) fun σ H Q q => te_not q, PT.imp (pt_not (iha.e g h).2.1) fun σ H Q q => tt_not q, fun z => nomatch z⟩
theorem tt_ite {W : WX} {c a b : Tm} {Q : Bool → Hp → Prop} (h : tt L W (.ite c a b) σ H Q) : tt L W c σ H (fun t H1 => if t = true then tt L W a σ H1 Q else tt L W b σ H1 Q) := by
  obtain ⟨ro, G, fr, I, S, h⟩ := h
  simp only [ev] at h
  rw [tst_bind (α := Unit)] at h
  refine tt.imp (tt_next S h) fun t H1 => ?_
  rintro ⟨I1, G1, x, S1, h1⟩
  cases t with
  | true => rw [if_pos rfl]; exact ⟨ro, G1, fr, I1, S1, PR.on x S1 (fun _ _ _ _ r => r) h1⟩
  | false => rw [if_neg Bool.false_ne_true]; exact ⟨ro, G1, fr, I1, S1, PR.on x S1 (fun _ _ _ _ r => r) h1⟩
def tIfT (t ta tb : TT) : TT := fun σ H Q => t σ H fun c H1 => if c = true then ta σ H1 Q else tb σ H1 Q
theorem pt_ifExp {X : Cx} {c a b : Expr} {tc ta tb : TT} {pos : Pos} (hc : PT X c tc) (ha : PT X a ta) (hb : PT X b tb) : PT X (.IfExp c a b pos) (tIfT tc ta tb) := by
  refine ⟨fun pins s σ H Q I h => ?_⟩
  refine isTrue_IfExp (thn (hc.run pins s σ H _ I h) fun d s1 ⟨H1, I1, q1⟩ => ?_)
  cases d with
  | true => exact ha.run pins s1 σ H1 Q I1 q1
  | false => exact hb.run pins s1 σ H1 Q I1 q1
theorem main_ite {c a b : Tm} (ihc : Main L c) (iha : Main L a) (ihb : Main L b) : Main L (.ite c a b) := .plain fun {X W e} g h => by
  unfold chk at h
  split at h <;> first | (rename_i heq; cases heq; done) | (cases h; done) | skip
  rename_i heq; cases heq
  simp only [Bool.and_eq_true] at h
  obtain ⟨⟨h1, h2⟩, h3⟩ := h
  exact ⟨PE.imp (pe_ifExp (ihc.e g h1).2.1 (iha.e g h2).1 (ihb.e g h3).1) fun σ H Q q => te_ite q, PT.imp (pt_ifExp (ihc.e g h1).2.1 (iha.e g h2).2.1 (ihb.e g h3).2.1) fun σ H Q q => tt_ite q, fun z => nomatch z⟩
theorem main_tup {es : Tm} (ih : Main L es) : Main L (.tup es) := .plain fun {X W e} g h => by
  unfold chk at h
  split at h <;> first | (rename_i heq; cases heq; done) | (cases h; done) | skip
  rename_i heq; cases heq
  exact pe3 (PE.imp (pe_tup (ih.a g h)) fun σ H Q q => te_tup q)
theorem main_lst {es : Tm} (ih : Main L es) : Main L (.lst es) := .plain fun {X W e} g h => by
  unfold chk at h
  split at h <;> first | (rename_i heq; cases heq; done) | (cases h; done) | skip
  rename_i heq; cases heq
  exact pe3 (PE.imp (pe_lst (ih.a g h)) fun σ H Q q => te_lst q)
theorem main_sub {a i : Tm} (iha : Main L a) (ihi : Main L i) : Main L (.sub a i) := .plain fun {X W e} g h => by
  unfold chk at h
  split at h <;> first | (rename_i heq; cases heq; done) | (cases h; done) | skip
  rename_i heq; cases heq
  simp only [Bool.and_eq_true] at h
  obtain ⟨⟨h1, h2⟩, h3⟩ := h
  refine pe3 (PE.imp (pe_ix (ix_run g.K) (iha.e g h1).1 (ihi.e g h2).1 (plain_ix h3)) fun σ H Q q => ?_)
  obtain ⟨ro, G, fr, I, S, q⟩ := q
  simp only [ev] at q
  exact te_two S q
theorem main_slc {a lo hi : Tm} (iha : Main L a) (ihl : Main L lo) (ihh : Main L hi) : Main L (.slc a lo hi) := .plain fun {X W e} g h => by
  unfold chk at h
  split at h <;> first | (rename_i heq; cases heq; done) | (cases h; done) | skip
  rename_i heq; cases heq
  simp only [Bool.and_eq_true] at h
  obtain ⟨⟨h1, h2⟩, h3⟩ := h
  exact pe3 (PE.imp (pe_slice (slc_run g.K) (iha.e g h1).1 (ihl.p g h2) (ihh.p g h3)) fun σ H Q q => te_slc q)
theorem main_rev {a : Tm} (iha : Main L a) : Main L (.rev a) := .plain fun {X W e} g h => by
  unfold chk at h
  split at h <;> first | (rename_i heq; cases heq; done) | (cases h; done) | skip
  rename_i heq; cases heq
  exact pe3 (PE.imp (pe_revL (iha.e g h).1) fun σ H Q q => te_rev g.K q)
theorem main_call {x : Str} {es : Tm} (ih : Main L es) : Main L (.call x es) := .plain fun {X W e} g h => by
  unfold chk at h
  split at h <;> first | (rename_i heq; cases heq; done) | (cases h; done) | skip
  rename_i heq; cases heq
  rename_i f e1 xs p1 pos
  simp only [Bool.and_eq_true, decide_eq_true_eq] at h
  obtain ⟨⟨⟨rfl, h1⟩, h2⟩, h3⟩ := h
  cases hk : L.kn f with
  | none => rw [hk] at h3; cases h3
  | some q =>
    obtain ⟨np, nd⟩ := q
    rw [hk] at h3
    simp only [Bool.and_eq_true, decide_eq_true_eq] at h3
    exact pe3 (pe_callA g (ih.a g h2) (gl_of h1).1 (gl_of h1).2 h2 hk h3.1.1 h3.1.2 h3.2)
/-- the terms of a row -/
def Parts (L : Lg) : Tm → Prop
  | .cons a b => Main L a ∧ Parts L b
  | _ => True
theorem main_blt {f : Bi} {es : Tm} (ih : Main L es) (pt : Parts L es) : Main L (.blt f es) := .plain fun {X W e} g h => by
  unfold chk at h
  split at h <;> first | (rename_i heq; cases heq; done) | (cases h; done) | skip
  · rename_i heq; cases heq
    rw [Bool.or_eq_true] at h
    rcases h with h | h
    · simp only [Bool.and_eq_true, decide_eq_true_eq] at h
      obtain ⟨⟨⟨rfl, h1⟩, h2⟩, h3⟩ := h
      exact pe3 (pe_bltA g (ih.a g h2) (gl_of h1).1 (chkK_star h2) (by simpa using h3))
    · simp only [Bool.and_eq_true, decide_eq_true_eq] at h
      obtain ⟨⟨⟨rfl, rfl⟩, h1⟩, h2⟩ := h
      unfold ssB at h2
      split at h2 <;> first | (cases h2; done) | skip
      cases es <;> first | (exfalso; simp [chkK] at h2; done) | skip
      rename_i a b
      cases b <;> first | (exfalso; simp [chkK] at h2; done) | skip
      simp only [chkK, Bool.and_eq_true, and_true, decide_eq_true_eq] at h2
      obtain ⟨⟨rfl, h4⟩, h5, h6⟩ := h2
      exact pe3 (PE.imp (pe_sset g.calm (gl_of h1).1 (g.mg ▸ g.bi _ (by decide +kernel)) (gl_of h4).1 (g.mg ▸ g.bi _ (by decide +kernel)) (pt.1.e g h5).1 (star_of h6 [] X.env)) fun σ H Q q => te_sset g.K q)
  · rename_i heq; cases heq
    rename_i x p e k v kp pos
    simp only [Bool.and_eq_true, decide_eq_true_eq] at h
    obtain ⟨⟨⟨rfl, h1⟩, rfl⟩, h2⟩ := h
    cases es <;> first | (exfalso; simp [chkK] at h2; done) | skip
    rename_i a b
    cases b <;> first | (exfalso; simp [chkK] at h2; done) | skip
    rename_i d r
    cases r <;> first | (exfalso; simp [chkK] at h2; done) | skip
    simp only [chkK, Bool.and_eq_true, and_true] at h2
    obtain ⟨⟨h3, h4⟩, h5, h6⟩ := h2
    exact pe3 (PE.imp (pe_callBK (minD_run (L := L) g.calm g.hu) (gl_of h1).1 (g.mg ▸ g.bi _ (by decide +kernel)) (by decide +kernel) (pa_cons (pt.1.e g h3).1 pa_nil (star_of h4 _ X.env)) (pk_cons (pt.2.1.e g h5).1 pk_nil) (by decide) (by decide) (by rw [star_of h4]; rfl) (by rw [star_of h4]; rfl)) fun σ H Q q => te_two_row q)
/-! ### isinstance -/
def tyD : D → String
  | .non => "NoneType"
  | .bl _ => "bool"
  | .int _ => "int"
  | .str _ => "str"
  | .tup _ => "tuple"
  | .lst _ => "list"
  | .scr _ => "list"
  | _ => "dict"
def Five (k : Str) : Prop := k = "int" ∨ k = "bool" ∨ k = "str" ∨ k = "tuple" ∨ k = "list"
theorem isi_kit {K : PySem.W.Frag} {d : D} {k : Str} {b : Bool} (h : isiD d k = some b) (hk : Five k) : PySem.W.kitOne K (.type (tyD d)) (.type (tyS k)) = some b := by
  rcases hk with rfl | rfl | rfl | rfl | rfl <;> cases d <;> first
    | (have h : none = some b := h; cases h; done)
    | (have h : some true = some b := h; cases h; exact kit_ty (by rfl))
    | (have h : some false = some b := h; cases h; exact kit_ty (by rfl))
theorem isi_no {d : D} {k : Str} {b : Bool} (h : isiD d k = some b) : (∀ n, d ≠ .ins n) ∧ ∀ ks vs, d ≠ .dT ks vs := by
  constructor
  · rintro n rfl; cases h
  · rintro ks vs rfl; cases h
theorem ty_of {k : Kd} {d : D} {v : V} {H0 : Hp} {lk : Bool} (S : Sx L.c lk G fr I σ H) (r : Rk L H0 G H (d, k) v) (h : (∀ n, d ≠ .ins n) ∧ ∀ ks vs, d ≠ .dT ks vs) : TyX L.K H v (.type (tyD d)) := by
  cases d with
  | non => rw [r.non]; exact .base .non
  | bl b => rw [r.bl]; exact .base (.bl b)
  | int i => rw [r.int]; exact .base (.int i)
  | str z => rw [r.str.1]; exact .base (.str z)
  | tup ds =>
    obtain ⟨a, vs, rfl, hs, _⟩ := r.tupK S
    rcases hs with (hs | ⟨o, hs⟩) | ⟨o, its, n, e, c, _⟩
    · exact .base (.tup hs)
    · exact .fTuple hs
    · exact .kTuple e c
  | lst ds =>
    obtain ⟨a, vs, rfl, hs, _⟩ := r.lst S
    exact .base (.lst hs)
  | scr ns =>
    obtain ⟨a, rfl, hs⟩ := r.scr S
    rcases hs with (hs | ⟨o, hs⟩) | ⟨o, its, n, e, c, _⟩
    · exact .base (.lst hs)
    · exact .base (.frz hs)
    · exact .kList e c
  | dK ks vs =>
    obtain ⟨a, us, rfl, hs | ⟨o, hs⟩, _⟩ := r.dK S
    · exact .base (.dK hs)
    · exact .fDict hs
  | dT ks vs => exact absurd rfl (h.2 ks vs)
  | ins n => exact absurd rfl (h.1 n)
theorem five_boot {k : Str} (h : Five k) : bootBuiltins k = some (.type (tyS k)) ∧ k ≠ "__name__" ∧ (k == ("__debug__" : Str)) = false ∧ k ∈ (["len", "all", "any", "sorted", "list", "tuple", "min", "max", "int", "str", "divmod", "dict", "sum", "isinstance", "range", "enumerate", "zip", "set", "bool"] : List Str) := by
  rcases h with rfl | rfl | rfl | rfl | rfl <;> decide +kernel
theorem isB_of {sc : Scope} {ks : List Str} {e : Expr} (h : isB sc ks e = true) : ∃ k pos, ks = [k] ∧ e = .Name k pos ∧ glB sc k = true ∧ Five k := by
  unfold isB at h
  split at h
  · rename_i k x pos
    simp only [Bool.and_eq_true, Bool.or_eq_true, decide_eq_true_eq] at h
    obtain ⟨⟨rfl, h1⟩, h2⟩ := h
    refine ⟨x, pos, rfl, rfl, h1, ?_⟩
    rcases h2 with ((((h | h) | h) | h) | h)
    · exact .inl h
    · exact .inr (.inl h)
    · exact .inr (.inr (.inl h))
    · exact .inr (.inr (.inr (.inl h)))
    · exact .inr (.inr (.inr (.inr h)))
  · cases h
theorem main_isi {a : Tm} {ks : List Str} (iha : Main L a) : Main L (.isi a ks) := .plain fun {X W e} g h => by
  unfold chk at h
  split at h <;> first | (rename_i heq; cases heq; done) | (cases h; done) | skip
  rename_i heq; cases heq
  rename_i x e1 t p1 pos
  simp only [Bool.and_eq_true, decide_eq_true_eq] at h
  obtain ⟨⟨⟨⟨rfl, h1⟩, h2⟩, h3⟩, h4⟩ := h
  obtain ⟨k, kp, rfl, rfl, h5, h6⟩ := isB_of h3
  obtain ⟨f1, f2, f3, f4⟩ := five_boot h6
  have pn : PE X (.Name k kp) (tC (.ty (tyS k))) := ⟨fun _ _ _ H _ I h => ld_blt I (gl_of h5).1 (g.mg ▸ g.bi k f4) f1 ⟨.ty _, H, I, rfl, h⟩ f2 f3⟩
  refine pe3 (PE.imp (pe_callB call_isi (gl_of h1).1 (g.mg ▸ g.bi _ (by decide +kernel)) (by decide +kernel) (pa_cons (iha.e g h2).1 (pa_cons pn pa_nil (by rfl)) (star_of h4 _ X.env)) (by decide) (by decide) (star_of h4 _ X.env) (by rfl)) fun σ H Q q => ?_)
  obtain ⟨ro, G, fr, I, S, q⟩ := q
  simp only [ev] at q
  refine ⟨ro, G, fr, I, S, PR.imp (PR.bind (rel := RkR L H) q) (fun _ _ _ _ r => r) ?_⟩
  rintro v H1 ⟨⟨d, kd⟩, I1, G1, _, e1, S1, r1, q1⟩
  have q1 : PR L W ro G H σ fr (match isiD d k with | some b => b2 b I1 | none => .bad) (RkR L H) Q := q1
  cases e2 : isiD d k with
  | none => rw [e2] at q1; exact absurd q1 id
  | some b =>
    rw [e2] at q1
    exact ⟨v, .ty (tyS k), .type (tyD d), .type (tyS k), b, rfl, .ty _, g.K ▸ ty_of S1 r1 (isi_no e2), isi_kit e2 h6, fin_bl q1 e1 S1⟩
theorem main_lc {own : List (Str × Nat)} {elt it cond : Tm} {tg : Tg} (ihe : Main L.nl elt) (ihi : Main L it) (ihc : Main L.nl cond) : Main L (.lc own elt tg it cond) := .plain fun {X W e} g h => by
  unfold chk at h
  split at h <;> first | (rename_i heq; cases heq; done) | (cases h; done) | skip
  rename_i heq; cases heq
  simp only [Bool.and_eq_true] at h
  obtain ⟨⟨⟨⟨⟨⟨h1, h2⟩, h3⟩, h4⟩, h5⟩, h6⟩, h7⟩ := h
  have h4 := List.all_eq_true.mp h4
  exact pe3 (pe_lcA g h1 h3 (fun j hj => of_decide_eq_true (h4 j hj)) h7 (ihi.i g h2) (fun X' g' e1 e2 => ihc.c g' (by rw [e1, e2]; exact h5)) fun X' g' e1 e2 => PE.imp (ihe.e g' (by rw [e1, e2]; exact h6)).1 fun σ H Q q => te_kn q)
theorem main_rng1 {a : Tm} (iha : Main L a) : Main L (.rng1 a) := .walk fun {X W tg e} g h => by
  unfold chkI at h
  split at h <;> first | (rename_i heq; cases heq; done) | (cases h; done) | skip
  rename_i heq; cases heq
  simp only [Bool.and_eq_true, decide_eq_true_eq] at h
  obtain ⟨⟨⟨rfl, h1⟩, h2⟩, h3⟩ := h
  exact PI.imp (pi_range1 (gl_of h1).1 (g.mg ▸ g.bi _ (by decide +kernel)) (pa_cons (iha.e g h2).1 pa_nil (star_of h3 _ X.env)) (star_of h3 _ X.env)) fun σ H Q q => ti_rng1 q
theorem main_rng2 {a b : Tm} (iha : Main L a) (ihb : Main L b) : Main L (.rng2 a b) := .walk fun {X W tg e} g h => by
  unfold chkI at h
  split at h <;> first | (rename_i heq; cases heq; done) | (cases h; done) | skip
  rename_i heq; cases heq
  simp only [Bool.and_eq_true, decide_eq_true_eq] at h
  obtain ⟨⟨⟨⟨⟨rfl, h1⟩, h2⟩, h3⟩, h4⟩, h5⟩ := h
  exact PI.imp (pi_range2 (gl_of h1).1 (g.mg ▸ g.bi _ (by decide +kernel)) (pa_cons (iha.e g h2).1 (pa_cons (ihb.e g h4).1 pa_nil (star_of h5 _ X.env)) (star_of h3 _ X.env)) (by rw [star_of h3, star_of h5]; rfl) (star_of h5 _ X.env)) fun σ H Q q => ti_rng2 q
theorem main_enm {a : Tm} (iha : Main L a) : Main L (.enm a) := .walk fun {X W tg e} g h => by
  unfold chkI at h
  split at h <;> first | (rename_i heq; cases heq; done) | (cases h; done) | skip
  rename_i heq; cases heq
  simp only [Bool.and_eq_true, decide_eq_true_eq] at h
  obtain ⟨⟨⟨rfl, h1⟩, h2⟩, h3⟩ := h
  exact PI.imp (pi_enum (gl_of h1).1 (g.mg ▸ g.bi _ (by decide +kernel)) (pa_cons (iha.e g h2).1 pa_nil (star_of h3 _ X.env)) (star_of h3 _ X.env)) fun σ H Q q => ti_enm g.K q
theorem main_zp {a b : Tm} (iha : Main L a) (ihb : Main L b) : Main L (.zp a b) := .walk fun {X W tg e} g h => by
  unfold chkI at h
  split at h <;> first | (rename_i heq; cases heq; done) | (cases h; done) | skip
  rename_i heq; cases heq
  simp only [Bool.and_eq_true, decide_eq_true_eq] at h
  obtain ⟨⟨⟨⟨⟨rfl, h1⟩, h2⟩, h3⟩, h4⟩, h5⟩ := h
  exact PI.imp (pi_zip (gl_of h1).1 (g.mg ▸ g.bi _ (by decide +kernel)) (pa_cons (iha.e g h2).1 (pa_cons (ihb.e g h4).1 pa_nil (star_of h5 _ X.env)) (star_of h3 _ X.env)) (star_of h3 _ X.env) (by rw [star_of h5]; rfl)) fun σ H Q q => ti_zp g.K q
theorem argsB_of {a : Arguments} (h : argsB a = true) : a = ⟨[], [], none, [], [], none, []⟩ := by
  unfold argsB at h
  split at h
  · rfl
  · cases h
/-- all that came since is kept -/
theorem Ext.gro (ro : Bool) (x : LamX.Tabs L.c.Tb H) (g : Gro H H1) : Ext ro G H G H1 := ⟨fun a o e _ t => g.keep a o e t, g.dom, fun _ _ e => e, fun _ _ e => .inl e, rfl, fun _ h => .inl h, List.prefix_refl _, fun _ => ⟨rfl, rfl⟩⟩
theorem Sx.gro (S : Sx L.c ro G fr I σ H) (g : Gro H H1) (t : LamX.Tabs L.c.Tb H1) : Sx L.c ro G fr I σ H1 := S.over (Ext.gro true S.tb g) (fun a u e => by
    rcases S.sub a u e with z | ⟨z, o, z2⟩
    · refine .inl (g.keep _ _ z fun ps q => ?_)
      have := S.fine a u e
      rw [q] at this; exact this
    · exact .inr ⟨z, o, g.keep _ _ z2 fun ps q => by cases q⟩) S.fine t
theorem main_told {t : Tm} (ih : Main L.nl t) : Main L (.told t) := .plain fun {X W e} g h => by
  unfold chk at h
  split at h <;> first | (rename_i heq; cases heq; done) | (cases h; done) | skip
  rename_i heq; cases heq
  rename_i x p ar body scope lpos pos
  simp only [Bool.and_eq_true, decide_eq_true_eq] at h
  obtain ⟨⟨⟨⟨⟨⟨rfl, h1⟩, h2⟩, h3⟩, h4⟩, h5⟩, h6⟩ := h
  obtain rfl := argsB_of h4
  obtain ⟨k, _, hr, hfn⟩ := g.k
  have ls := LamX.lamS_by h5
  refine pe3 (PE.imp (pe_told (T := L.c.Tb) (k := k) (t := fun E => te L.nl (fun cls d _ H => E cls d H) t) (g.tel h3) (gl_of h1).1 (g.lam h2) (hr h2) ls rfl (fun _ _ _ _ _ => rfl) (fun A outer s H E f c' hk => ?_) (gl_of h1).2) fun σ H Q q => ?_)
  · have G' : Good L.nl (LamX.lamCx X A outer s H E scope f c') (fun cls d _ H => E cls d H) :=
      ⟨g.K, g.mg, rfl, g.nd, hk.units, takes_N (L2.takes_of rfl rfl rfl rfl), passes_of rfl, g.bi, fun x h => g.cn x (nl_kn h), fun c h => g.xc c (nl_kn h), fun h => absurd h (nl_no _), fun h => g.tel (nl_kn h), k, hk, fun h => absurd h (nl_no _), fun x np nd h hd => by
        obtain ⟨f, fd, ps, dvs, dfl, gg, e1, e2, F⟩ := hfn x np nd (nl_kn h) hd
        exact ⟨f, fd, ps, dvs, dfl, gg, e1, e2, F.kn⟩⟩
    exact (ih.e G' h6).1
  · obtain ⟨ro, G, fr, I, S, q⟩ := q
    simp only [ev] at q
    refine ⟨S.tb, fun H1 gr T1 => ⟨ro, G, fr, I, S.gro gr T1, ?_⟩⟩
    have x1 : Ext ro G H G H1 := Ext.gro ro S.tb gr
    cases e : ev L.cn L.cf t ro fr I with
    | ok p I' =>
      have e2 : ev L.nl.cn L.nl.cf t ro fr I = .ok p I' := e
      rw [e] at q
      rw [e2]
      exact fun v G' H' y S' r => q v G' H' (x1.trans y) S' (r.lg.from gr.dom)
    | exc z I' =>
      have e2 : ev L.nl.cn L.nl.cf t ro fr I = .exc z I' := e
      rw [e] at q
      rw [e2]
      obtain ⟨hz, q⟩ := PR.cond (show PR L W ro G H σ fr (bif decide (z.cls ∈ tellN) then .ok (D.tup [.str "refused", .str z.cls], Kd.fro) I' else .bad) (RkR L H) Q from q)
      intro cls d G' H' y S' xr
      refine ⟨z.cls, of_decide_eq_true hz, g.mg.symm ▸ xr.1, ?_, fun H2 p k2 e2 hp => ?_⟩
      · rcases xr.2 with ⟨_, z⟩ | ⟨a, vs, z, z2, _⟩
        · exact .inl z
        · exact .inr ⟨a, _, z, z2⟩
      · have S2 := S'.more k2
        have dom : ∀ a, H2 a = none → H' a = none := fun a e => by
          cases z : H' a with
          | none => rfl
          | some o => rw [k2 a o z] at e; cases e
        have y2 : Ext ro G' H' G' H2 := ⟨fun a o e _ _ => k2 a o e, dom, fun _ _ e => e, fun _ _ e => .inl e, rfl, fun _ h => .inl h, List.prefix_refl _, fun _ => ⟨rfl, rfl⟩⟩
        have nF := S'.notF hp
        have S3 := S2.freeze (a := p) (u := .tup [.str "refused", .str z.cls]) trivial (.inl e2) (S'.notFr hp) (S'.notIs hp) nF
        have ok : PyData.strOk z.cls = true := by
          have : ∀ y ∈ tellN, PyData.strOk y = true := by decide +kernel
          exact this _ (of_decide_eq_true hz)
        refine q (.ref p) (G'.put p _) H2 ((x1.trans y).trans (y2.put hp nF)) S3 (.fro (.tup (vs := [.str "refused", .str z.cls]) upd_same (.cons (.str _ (by decide +kernel)) (.cons (.str _ ok) .nil))))
    | bad => rw [e] at q; exact absurd q id
theorem main_all2 : ∀ (t : Tm) (L : Lg), Main L t ∧ Parts L t := by
  intro t
  induction t with
  | cns c => intro L; exact ⟨main_cns c, trivial⟩
  | loc i => intro L; exact ⟨main_loc i, trivial⟩
  | gk x => intro L; exact ⟨main_gk x, trivial⟩
  | nil => intro L; exact ⟨main_nil, trivial⟩
  | cons a b iha ihb => intro L; exact ⟨main_cons (iha L).1 (ihb L).1, (iha L).1, (ihb L).2⟩
  | bin o a b iha ihb => intro L; exact ⟨main_bin (iha L).1 (ihb L).1, trivial⟩
  | neg a iha => intro L; exact ⟨main_neg (iha L).1, trivial⟩
  | cmp o a b iha ihb => intro L; exact ⟨main_cmp (iha L).1 (ihb L).1, trivial⟩
  | isn ng a iha => intro L; exact ⟨main_isn (iha L).1, trivial⟩
  | isb ng k a iha => intro L; exact ⟨main_isb (iha L).1, trivial⟩
  | ch2 o1 o2 a b c iha ihb ihc => intro L; exact ⟨main_ch2 (iha L).1 (ihb L).1 (ihc L).1, trivial⟩
  | ch3 o1 o2 o3 a b c d iha ihb ihc ihd => intro L; exact ⟨main_ch3 (iha L).1 (ihb L).1 (ihc L).1 (ihd L).1, trivial⟩
  | and a b iha ihb => intro L; exact ⟨main_and (iha L).1 (ihb L).1, trivial⟩
  | or a b iha ihb => intro L; exact ⟨main_or (iha L).1 (ihb L).1, trivial⟩
  | not a iha => intro L; exact ⟨main_not (iha L).1, trivial⟩
  | ite c a b ihc iha ihb => intro L; exact ⟨main_ite (ihc L).1 (iha L).1 (ihb L).1, trivial⟩
  | tup es ih => intro L; exact ⟨main_tup (ih L).1, trivial⟩
  | lst es ih => intro L; exact ⟨main_lst (ih L).1, trivial⟩
  | sub a i iha ihi => intro L; exact ⟨main_sub (iha L).1 (ihi L).1, trivial⟩
  | slc a lo hi iha ihl ihh => intro L; exact ⟨main_slc (iha L).1 (ihl L).1 (ihh L).1, trivial⟩
  | rev a iha => intro L; exact ⟨main_rev (iha L).1, trivial⟩
  | call x es ih => intro L; exact ⟨main_call (ih L).1, trivial⟩
  | blt f es ih => intro L; exact ⟨main_blt (ih L).1 (ih L).2, trivial⟩
  | isi a ks iha => intro L; exact ⟨main_isi (iha L).1, trivial⟩
  | lc own elt tg it cond ihe ihi ihc => intro L; exact ⟨main_lc (ihe L.nl).1 (ihi L).1 (ihc L.nl).1, trivial⟩
  | told t ih => intro L; exact ⟨main_told (ih L.nl).1, trivial⟩
  | rng1 a iha => intro L; exact ⟨main_rng1 (iha L).1, trivial⟩
  | rng2 a b iha ihb => intro L; exact ⟨main_rng2 (iha L).1 (ihb L).1, trivial⟩
  | enm a iha => intro L; exact ⟨main_enm (iha L).1, trivial⟩
  | zp a b iha ihb => intro L; exact ⟨main_zp (iha L).1 (ihb L).1, trivial⟩
theorem main_all (t : Tm) : Main L t := (main_all2 t L).1
end
end Air
/-! Air: statements (1): what a block is, what a run of it says. -/
namespace Air
open PySem PySem.Spec PyProof.Rows L2
variable [Kf]
/-! ### a block is what written statements say -/
def notComp : Expr → Bool
  | .ListComp _ _ _ _ => false
  | .SetComp _ _ _ _ => false
  | .DictComp _ _ _ _ _ => false
  | _ => true
def notTup : Expr → Bool
  | .Tuple _ _ _ => false
  | _ => true
def fnKind (sc : Scope) : Bool := match sc.kind with
  | .function => true
  | _ => false
def nmB (fb : Str → Bool) (sc : Scope) (N : List Str) (i : Nat) (x : Str) : Bool := decide (N[i]? = some x) && stoB fb sc x
def swB (sc : Scope) (x : Str) (px : Pos) : Expr → Bool
  | .ListComp _ [_] scope pos => decide (sc.names.lookup x = some .local) && (px.line == pos.line) && !(scope.names.any fun (n, k) => n == x && (k == .local || k == .cell))
  | e => notComp e
def lcS (e : Expr) : Option Scope := match e with
  | .ListComp _ _ s _ => some s
  | _ => none
def vnB (sc : Scope) (N : List Str) (i : Nat) (x : Str) : Bool := decide (N[i]? = some x) && visB sc x && !(x == ("__debug__" : Str)) && !(x == ("__classdict__" : Str))
/-- a, b = x, y, stored from the right -/
def parB (sc : Scope) (N : List Str) : List (Nat × Bool) → List Expr → List Expr → Bool
  | [(i, _), (j, _)], [.Name x px, .Name y py], [a, b] => decide (N[i]? = some x) && decide (N[j]? = some y) && decide (i ≠ j) && decide (sc.names.lookup x = some .local) && decide (sc.names.lookup y = some .local) && (py.line == px.line) && !(x == y) && !(foldedForSure 8 a && foldedForSure 8 b) && !(constantsAlone 8 a && constantsAlone 8 b)
  | [(i, _), (j, _), (k, _)], [.Name x px, .Name y py, .Name z pz], [a, b, c] => decide (N[i]? = some x) && decide (N[j]? = some y) && decide (N[k]? = some z) && decide (i ≠ j) && decide (i ≠ k) && decide (j ≠ k) && decide (sc.names.lookup x = some .local) && decide (sc.names.lookup y = some .local) && decide (sc.names.lookup z = some .local) && (py.line == px.line) && (pz.line == px.line) && !(x == y) && !(x == z) && !(y == z) && !(foldedForSure 8 a && foldedForSure 8 b && foldedForSure 8 c) && !(constantsAlone 8 a && constantsAlone 8 b && constantsAlone 8 c)
  | _, _, _ => false
/-- a name that is no local one -/
def celT (sc : Scope) : Expr → Bool
  | .Name x _ => !(sc.names.lookup x == some .local)
  | _ => true
/-- .. or by a tuple -/
def parT (fb : Str → Bool) (sc : Scope) (N : List Str) (tg : List (Nat × Bool)) (ts vs : List Expr) : Bool :=
  tgB fb sc N (.tp (tg.map (·.1))) (.Tuple ts 0 ⟨0, 0, 0, 0⟩) && decide (ts.length < 100) && (decide (3 < ts.length) || (decide (vs.length = ts.length) && vs.all (foldedForSure 8)) || ts.any (celT sc)) && vs.all notStar
mutual
def chkS (kn : Str → Option (Nat × Nat)) (fb : Str → Bool) : Sm → Scope → List Str → Stmt → Bool
  | .pass, _, _, .Pass _ => true
  | .pass, _, _, .Expr (.Constant (.str _) _ _) _ => true
  | .asg i e, sc, N, .Assign [.Name x px] v _ => nmB fb sc N i x && chk kn e sc N v && swB sc x px v && fnKind sc
  | .own i e, sc, N, .Assign [.Name x px] v _ => nmB fb sc N i x && chk kn e sc N v && swB sc x px v && fnKind sc
  | .par tg es, sc, N, .Assign [.Tuple ts _ _] (.Tuple vs _ _) _ => chkK kn es sc N vs && fnKind sc && (parB sc N tg ts vs || parT fb sc N tg ts vs)
  | .unp tg e, sc, N, .Assign [.Tuple ts k p] v _ => tgB fb sc N (.tp tg) (.Tuple ts k p) && chk kn e sc N v && notComp v && notTup v
  | .app i e, sc, N, .Expr (.Call (.Attribute (.Name x _) m apos) [a] [] cpos) _ => decide (m = "append") && vnB sc N i x && chk kn e sc N a && notStar a && (apos.endLine == cpos.line)
  | .rem i e, sc, N, .Expr (.Call (.Attribute (.Name x _) m apos) [a] [] cpos) _ => decide (m = "remove") && vnB sc N i x && chk kn e sc N a && notStar a && (apos.endLine == cpos.line)
  | .ext i e, sc, N, .Expr (.Call (.Attribute (.Name x _) m apos) [a] [] cpos) _ => decide (m = "extend") && vnB sc N i x && chk kn e sc N a && notStar a && (apos.endLine == cpos.line)
  | .expr e, sc, N, .Expr v _ => chk kn e sc N v && notComp v
  | .iff c a b, sc, N, .If t p q _ => chk kn c sc N t && chkB kn fb a sc N p && chkB kn fb b sc N q
  | .for tg it body, sc, N, .For t i p [] _ => chkI kn it sc N t i && tgB fb sc N tg t && notSet i && chkB kn fb body sc N p
  | .forR tg it c r, sc, N, .For t i [.If q [.Return (some v) _] [] _] [] _ => chkI kn it sc N t i && tgB fb sc N tg t && notSet i && chk kn c sc N q && chk kn (.cns r) sc N v
  | .whl _ c body, sc, N, .While t p [] _ => chk kn c sc N t && chkB kn fb body sc N p
  | .ret (.cns .non), _, _, .Return none _ => true
  | .ret e, sc, N, .Return (some v) _ => chk kn e sc N v
  | .retOwn i, sc, N, .Return (some (.Name x _)) _ => vnB sc N i x
  | .rais c, sc, _, .Raise (some (.Call (.Name x _) [.Constant (.str _) _ _] [] _)) none _ => decide (x = c) && glB sc x && decide (kn c = some (0, 3))
  | .bk, _, _, .Break _ => true
  | .ct, _, _, .Continue _ => true
  | _, _, _, _ => false
def chkB (kn : Str → Option (Nat × Nat)) (fb : Str → Bool) : Sm → Scope → List Str → List Stmt → Bool
  | .nil, _, _, [] => true
  | .cons (.frz _) r, sc, N, sts => chkB kn fb r sc N sts
  | .cons s r, sc, N, st :: sts => chkS kn fb s sc N st && chkB kn fb r sc N sts
  | _, _, _, _ => false
end
/-! ### in ro mode the table stays -/
def Xr.keeps (r : Xr) (I : Is) : Prop := match r with
  | .nx _ I' => I' = I
  | .bk _ I' => I' = I
  | .ct _ I' => I' = I
  | .rt _ I' => I' = I
  | .exc _ _ I' => I' = I
  | .bad => True
section
variable {cn : Str → Option D} {cf : Str → Bool → List D → Is → R Sl}
theorem keeps_stm {α : Type} {r : R α} {fr : Fr} {f : α → Is → Xr} {I : Is} (h : r.keeps I) (hf : ∀ a, (f a I).keeps I) : (r.stm fr f).keeps I := by
  cases r with
  | ok a I' => obtain rfl : I' = I := h; exact hf a
  | exc x I' => exact h
  | bad => trivial
theorem keeps_condX {b : Bool} {x y : Xr} {I : Is} (hx : x.keeps I) (hy : y.keeps I) : (bif b then x else y).keeps I := by cases b <;> assumption
theorem keeps_forL {body : Fr → Is → Xr} {tg : Tg} {I : Is} (h : ∀ fr, (body fr I).keeps I) : ∀ xs fr, (forL body tg xs fr I).keeps I
  | [], fr => rfl
  | x :: xs, fr => by
    unfold forL
    split
    · trivial
    · rename_i fr' _
      have hb := h fr'
      split
      · rename_i e; rw [e] at hb; obtain rfl := hb; exact keeps_forL h xs _
      · rename_i e; rw [e] at hb; obtain rfl := hb; exact keeps_forL h xs _
      · rename_i e; rw [e] at hb; exact hb
      · exact hb
theorem keeps_frL {test : Fr → Is → R Bool} {r : D} {tg : Tg} {I : Is} (ht : ∀ fr, (test fr I).keeps I) : ∀ xs fr, (frL test r tg xs fr I).keeps I
  | [], fr => rfl
  | x :: xs, fr => by
    unfold frL
    split
    · trivial
    · exact keeps_stm (ht _) fun t => keeps_condX rfl (keeps_frL ht xs _)
theorem keeps_whlL {test : Fr → Is → R Bool} {body : Fr → Is → Xr} {I : Is} (ht : ∀ fr, (test fr I).keeps I) (h : ∀ fr, (body fr I).keeps I) : ∀ n fr, (whlL test body n fr I).keeps I
  | 0, fr => trivial
  | n + 1, fr => by
    unfold whlL
    refine keeps_stm (ht fr) fun t => keeps_condX ?_ rfl
    have hb := h fr
    split
    · rename_i e; rw [e] at hb; obtain rfl := hb; exact keeps_whlL ht h n _
    · rename_i e; rw [e] at hb; obtain rfl := hb; exact keeps_whlL ht h n _
    · rename_i e; rw [e] at hb; exact hb
    · exact hb
theorem keeps_tst {r : R (D × Kd)} {I : Is} (h : r.keeps I) : (r.tst fun t I => .ok t I).keeps I := keeps_bind h fun p => by split <;> first | trivial | rfl
theorem exec_keeps : ∀ (s : Sm) fr I, (exec cn cf s true fr I).keeps I := by
  intro s
  induction s with
  | nil => intro fr I; rfl
  | cons s r ihs ihr =>
    intro fr I
    simp only [exec]
    have h := ihs fr I
    cases e : exec cn cf s true fr I with
    | nx fr' I' => rw [e] at h; obtain rfl : I' = I := h; exact ihr _ _
    | _ => rw [e] at h; exact h
  | pass => intro fr I; rfl
  | asg i e => intro fr I; simp only [exec]; exact keeps_stm ((ev_keeps e).1 _ _) fun p => by split <;> first | trivial | rfl
  | own i e => intro fr I; simp only [exec]; exact keeps_stm ((ev_keeps e).1 _ _) fun p => by split <;> first | trivial | rfl
  | par tg es => intro fr I; simp only [exec]; exact keeps_stm ((ev_keeps es).2.1 _ _) fun p => by split <;> first | trivial | rfl
  | unp tg e => intro fr I; simp only [exec]; exact keeps_stm ((ev_keeps e).1 _ _) fun p => by (split <;> first | trivial | (split <;> first | trivial | rfl))
  | app i e => intro fr I; simp only [exec]; split <;> first | trivial | exact keeps_stm ((ev_keeps e).1 _ _) fun p => by (split <;> first | trivial | exact keeps_condX rfl trivial)
  | ext i e => intro fr I; simp only [exec]; split <;> first | trivial | exact keeps_stm ((ev_keeps e).1 _ _) fun p => by (split <;> first | trivial | exact keeps_condX rfl trivial)
  | rem i e => intro fr I; simp only [exec]; split <;> first | trivial | exact keeps_stm ((ev_keeps e).1 _ _) fun p => by (split <;> first | trivial | exact keeps_condX rfl trivial)
  | expr e => intro fr I; simp only [exec]; exact keeps_stm ((ev_keeps e).1 _ _) fun p => rfl
  | iff c a b iha ihb => intro fr I; simp only [exec]; exact keeps_stm (keeps_tst ((ev_keeps c).1 _ _)) fun t => keeps_condX (iha _ _) (ihb _ _)
  | «for» tg it body ih => intro fr I; simp only [exec, Bool.true_or]; exact keeps_stm ((ev_keeps it).2.2.2.2 _ _) fun p => keeps_condX trivial (keeps_forL (fun fr => ih _ _) _ _)
  | forR tg it c r => intro fr I; simp only [exec, Bool.true_or]; exact keeps_stm ((ev_keeps it).2.2.2.2 _ _) fun p => keeps_frL (fun fr => keeps_tst ((ev_keeps c).1 _ _)) _ _
  | whl n c body ih => intro fr I; simp only [exec]; exact keeps_whlL (fun fr => keeps_tst ((ev_keeps c).1 _ _)) (fun fr => ih _ _) _ _
  | ret e => intro fr I; simp only [exec]; exact keeps_stm ((ev_keeps e).1 _ _) fun p => by split <;> first | trivial | rfl
  | retOwn i => intro fr I; simp only [exec]; split <;> first | trivial | (split <;> first | trivial | rfl)
  | rais c => intro fr I; rfl
  | bk => intro fr I; rfl
  | ct => intro fr I; rfl
  | frz i => intro fr I; simp only [exec]; split <;> first | rfl | (split <;> rfl)
end
/-! ### what a run of a block says -/
def RtR (G : Gh) (H : Hp) (G' : Gh) (H' : Hp) (s : Sl) (v : V) : Prop := match s with
  | .no => False
  | .val d => RV G'.F G'.M v d
  | s => ∃ a, v = .ref a ∧ SlAt false G'.F G'.M H' a s ∧ G'.F a = none ∧ a ∉ G'.aI ∧ (a ∈ G.aF ∨ H a = none)
def XRel (L : Lg) (W : WX) (ro : Bool) (G : Gh) (H : Hp) (D : Ends) (r : Xr) : Prop := match r with
  | .nx fr' I' => ∀ σ' G' H', ExtS ro G H G' H' → Sx L.c ro G' fr' I' σ' H' → D.nx σ' H'
  | .bk fr' I' => ∀ σ' G' H', ExtS ro G H G' H' → Sx L.c ro G' fr' I' σ' H' → D.bk σ' H'
  | .ct fr' I' => ∀ σ' G' H', ExtS ro G H G' H' → Sx L.c ro G' fr' I' σ' H' → D.ct σ' H'
  | .rt s I' => ∀ v fr' σ' G' H', ExtS ro G H G' H' → Sx L.c ro G' fr' I' σ' H' → RtR G H G' H' s v → D.rt v H'
  | .exc x fr' I' => ∀ cls d σ' G' H', ExtS ro G H G' H' → Sx L.c ro G' fr' I' σ' H' → XR L G' H' x cls d → W cls d σ' H'
  | .bad => False
def tS (L : Lg) (W : WX) (s : Sm) : TS := fun D σ H => ∃ ro G fr I, Sx L.c ro G fr I σ H ∧ XRel L W ro G H D (exec L.cn L.cf s ro fr I)
section
variable {L : Lg} {W : WX} {X : Cx} {ro ro' : Bool} {G G1 G2 : Gh} {H H1 H2 : Hp} {σ σ1 : St} {fr fr1 : Fr} {I I1 : Is} {E E' : Ends}
theorem SlV.notOwn {F : Hp} {M : List (Addr × Addr)} {ov : Option V} {s : Sl} {as : List Addr} (h : SlV false F M H ov s as) : ∀ a ∈ as, ∀ p, H a ≠ some (.own p) := by
  cases s with
  | no => have e : as = [] := h; subst e; simp
  | val d => obtain ⟨rfl, _⟩ := h; simp
  | lst xs =>
    obtain ⟨a, rfl, _, vs, e, _⟩ := h
    intro b hb p z
    rw [List.mem_singleton.mp hb, e] at z; cases z
  | dK ks xs =>
    obtain ⟨a, rfl, _, vs, e | ⟨q, _⟩, _⟩ := h
    · intro b hb p z
      rw [List.mem_singleton.mp hb, e] at z; cases z
    · cases q
  | dT ks xs =>
    obtain ⟨a, rfl, _, vs, e | ⟨q, _⟩, _⟩ := h
    · intro b hb p z
      rw [List.mem_singleton.mp hb, e] at z; cases z
    · cases q
theorem FrR.notOwn {F : Hp} {M : List (Addr × Addr)} {as : List Addr} (h : FrR F M H σ fr as) : ∀ a ∈ as, ∀ p, H a ≠ some (.own p) := by
  induction h with
  | nil => simp
  | cons hs _ ih => intro a ha; exact (List.mem_append.mp ha).elim (hs.notOwn a) (ih a)
theorem RtR.on {s : Sl} {v : V} (x : ExtS ro G H G1 H1) (h : RtR G1 H1 G2 H2 s v) : RtR G H G2 H2 s v := by
  have c : ∀ a : Addr, (a ∈ G1.aF ∨ H1 a = none) → a ∈ G.aF ∨ H a = none := fun a z => z.elim (x.aF a) fun z => .inr (x.dom a z)
  cases s with
  | no => exact h
  | val d => exact h
  | _ => obtain ⟨a, h1, h2, h3, h4, h5⟩ := h; exact ⟨a, h1, h2, h3, h4, c a h5⟩
theorem XRel.on {r : Xr} (x : ExtS ro G H G1 H1) (h : XRel L W ro G H E r) : XRel L W ro G1 H1 E r := by
  cases r with
  | nx fr' I' => exact fun σ' G' H' y S => h σ' G' H' (x.trans y) S
  | bk fr' I' => exact fun σ' G' H' y S => h σ' G' H' (x.trans y) S
  | ct fr' I' => exact fun σ' G' H' y S => h σ' G' H' (x.trans y) S
  | rt s I' => exact fun v fr' σ' G' H' y S q => h v fr' σ' G' H' (x.trans y) S (q.on x)
  | exc e fr' I' => exact fun cls d σ' G' H' y S q => h cls d σ' G' H' (x.trans y) S q
  | bad => exact h
theorem ExtS.weak (a : ExtS true G H G1 H1) (ro : Bool) : ExtS ro G H G1 H1 := ⟨fun x o e _ h t => a.keep x o e (.inl rfl) h t, a.dom, a.F, a.Fn, a.aF, a.aI, a.M, fun _ => a.ro rfl⟩
theorem Sx.strongS (S1 : Sx L.c ro G1 fr I1 σ H1) (x : ExtS true G1 H1 G2 H2) (S : Sx L.c true G2 fr1 I1 σ1 H2) : Sx L.c ro G2 fr1 I1 σ1 H2 := by
  cases ro with
  | true => exact S
  | false =>
    obtain ⟨e1, e2⟩ := x.ro rfl
    have ni : ∀ a ∈ G1.aI, a ∉ G1.aF := fun a h1 h2 => (List.nodup_append.mp S1.nd).2.2 a h2 a h1 rfl
    refine ⟨S.fr, ?_, S.nd, S.sep, S.sub, S.fine, S.tb⟩
    rw [e1]
    have q := S1.is.mono x.F x.M (fun a ha o e t => x.keep a o e (.inl rfl) (ni a ha) t) fun a p e => by
      by_cases h : a ∈ G1.aF
      · exact absurd e (S1.fr.notOwn a h p)
      · exact x.keep a _ e (.inl rfl) h fun ps z => by cases z
    rw [e2] at q ⊢
    exact q
end
end Air
/-! Air: statements (2): names take values. -/
namespace Air
open PySem PySem.Spec PyProof.Rows L2
variable [Kf]
section
variable {L : Lg} {W : WX} {X : Cx} {ro ro' : Bool} {G G1 G2 : Gh} {H H1 H2 : Hp} {σ σ1 : St} {fr fr1 : Fr} {I I1 : Is} {E E' : Ends}
/-- a term, then more of the statement -/
theorem stm_te {t : Tm} {f : D × Kd → Is → Xr} (S : Sx L.c ro G fr I σ H) (h : XRel L W ro G H E ((ev L.cn L.cf t ro fr I).stm fr f)) : te L W t σ H (fun v H1 => ∃ p I1 G1, Ext ro G H G1 H1 ∧ Sx L.c ro G1 fr I1 σ H1 ∧ Rk L H G1 H1 p v ∧ XRel L W ro G H E (f p I1)) := by
  refine ⟨ro, G, fr, I, S, ?_⟩
  cases e : ev L.cn L.cf t ro fr I with
  | ok a I' =>
    rw [e] at h
    exact fun v G' H' x S' r => ⟨a, I', G', x, S', r, h⟩
  | exc x I' =>
    rw [e] at h
    exact fun cls d G' H' y S' q => h cls d σ G' H' y.s S' q
  | bad => rw [e] at h; exact h
theorem stm_ta {t : Tm} {f : List (D × Kd) → Is → Xr} (S : Sx L.c ro G fr I σ H) (h : XRel L W ro G H E ((evK L.cn L.cf t ro fr I).stm fr f)) : ta L W t σ H (fun vs H1 => ∃ ps I1 G1, Ext ro G H G1 H1 ∧ Sx L.c ro G1 fr I1 σ H1 ∧ (Rks L H G1 H1 ps vs ∧ (nwA ps vs).Nodup) ∧ XRel L W ro G H E (f ps I1)) := by
  refine ⟨ro, G, fr, I, S, ?_⟩
  cases e : evK L.cn L.cf t ro fr I with
  | ok a I' =>
    rw [e] at h
    exact fun v G' H' x S' r => ⟨a, I', G', x, S', r, h⟩
  | exc x I' =>
    rw [e] at h
    exact fun cls d G' H' y S' q => h cls d σ G' H' y.s S' q
  | bad => rw [e] at h; exact h
theorem stm_tt {t : Tm} {f : Bool → Is → Xr} (S : Sx L.c ro G fr I σ H) (h : XRel L W ro G H E (((ev L.cn L.cf t ro fr I).tst fun t I => .ok t I).stm fr f)) : tt L W t σ H (fun b H1 => ∃ I1 G1, Ext ro G H G1 H1 ∧ Sx L.c ro G1 fr I1 σ H1 ∧ XRel L W ro G H E (f b I1)) := by
  refine ⟨ro, G, fr, I, S, ?_⟩
  cases e : (ev L.cn L.cf t ro fr I).tst fun b I => .ok b I with
  | ok a I' =>
    rw [e] at h
    intro v G' H' x S' r
    obtain rfl : v = a := r
    exact ⟨I', G', x, S', h⟩
  | exc x I' =>
    rw [e] at h
    exact fun cls d G' H' y S' q => h cls d σ G' H' y.s S' q
  | bad => rw [e] at h; exact h
theorem stm_ti {t : Tm} {f : List D × Kd → Is → Xr} (S : Sx L.c ro G fr I σ H) (h : XRel L W ro G H E ((evI L.cn L.cf t ro fr I).stm fr f)) : ti L W t σ H (fun J H1 => ∃ p I1 G1, Ext ro G H G1 H1 ∧ Sx L.c ro G1 fr I1 σ H1 ∧ WkR G1 H1 p J ∧ XRel L W ro G H E (f p I1) ∧ (∀ I', (evI L.cn L.cf t ro fr I) = .ok p I' → I' = I1)) := by
  refine ⟨ro, G, fr, I, S, ?_⟩
  cases e : evI L.cn L.cf t ro fr I with
  | ok a I' =>
    rw [e] at h
    exact fun v G' H' x S' r => ⟨a, I', G', x, S', r, h, fun I2 z => by cases z; rfl⟩
  | exc x I' =>
    rw [e] at h
    exact fun cls d G' H' y S' q => h cls d σ G' H' y.s S' q
  | bad => rw [e] at h; exact h
/-! ### a name takes a container -/
theorem SlV.of {F : Hp} {M : List (Addr × Addr)} {a : Addr} {s : Sl} {d : D} (e : Sl.inn d = some s) (h : SlAt false F M H a s) : SlV false F M H (some (.ref a)) s [a] := by
  cases d <;> simp only [Sl.inn, reduceCtorEq, Option.some.injEq] at e <;> subst e <;> exact ⟨a, rfl, rfl, h⟩
theorem FrR.putC {F : Hp} {M : List (Addr × Addr)} {as : List Addr} (h : FrR F M H σ fr as) (i : Nat) {a : Addr} {s : Sl} {d : D} (e : Sl.inn d = some s) (r : SlAt false F M H a s) : ∃ bs cs, FrR F M H (σ.set i (some (.ref a))) (fr.set i s) bs ∧ cs.Sublist as ∧ (bs = cs ∨ bs.Perm (a :: cs)) := by
  induction h generalizing i with
  | nil => exact ⟨[], [], .nil, .refl _, .inl rfl⟩
  | cons h0 h1 ih =>
    rename_i as1 bs1 σ1 fr1
    cases i with
    | zero => exact ⟨[a] ++ bs1, bs1, .cons (.of e r) h1, List.sublist_append_right _ _, .inr (.refl _)⟩
    | succ i =>
      obtain ⟨bs, cs, h2, h3, h4⟩ := ih i
      refine ⟨as1 ++ bs, as1 ++ cs, .cons h0 h2, (List.Sublist.refl _).append h3, ?_⟩
      rcases h4 with rfl | h4
      · exact .inl rfl
      · exact .inr ((h4.append_left as1).trans List.perm_middle)
theorem Sx.frameC {σ' : St} {fr' : Fr} {bs cs : List Addr} {a : Addr} (S : Sx L.c ro G fr I σ H) (h : FrR G.F G.M H σ' fr' bs) (hs : cs.Sublist G.aF) (hp : bs = cs ∨ bs.Perm (a :: cs)) (h1 : G.F a = none) (h2 : a ∉ G.aF) (h3 : a ∉ G.aI) : Sx L.c ro { G with aF := bs } fr' I σ' H := by
  rcases hp with rfl | hp
  · exact S.frame h hs
  · have nd := S.nd.sublist (hs.append (.refl _))
    refine ⟨h, S.is, ?_, fun b hb => ?_, S.sub, S.fine, S.tb⟩
    · have : (bs ++ G.aI).Perm (a :: (cs ++ G.aI)) := hp.append_right _
      refine this.nodup_iff.mpr (List.nodup_cons.mpr ⟨fun z => ?_, nd⟩)
      rcases List.mem_append.mp z with z | z
      · exact h2 (hs.subset z)
      · exact h3 z
    · rcases List.mem_append.mp hb with z | z
      · rcases List.mem_cons.mp (hp.mem_iff.mp z) with rfl | z
        · exact h1
        · exact S.sep b (List.mem_append_left _ (hs.subset z))
      · exact S.sep b (List.mem_append_right _ z)
theorem ExtS.frame {bs : List Addr} (x : ExtS ro G H G1 H1) (h : ∀ a ∈ bs, a ∈ G.aF ∨ H a = none) : ExtS ro G H { G1 with aF := bs } H1 := ⟨x.keep, x.dom, x.F, x.Fn, h, x.aI, x.M, x.ro⟩
theorem ExtS.put {a : Addr} {u : HO} (x : ExtS ro G H G1 H1) (h0 : H a = none ∨ a ∈ G.aF) (h4 : G1.F a = none) : ExtS ro G H (G1.put a u) H1 :=
  ⟨x.keep, x.dom, fun b w e => put_mono h4 b w (x.F b w e), fun b w e => by
    have e : upd G1.F a u b = some w := e
    by_cases hb : b = a
    · subst hb; exact .inr h0
    · rw [upd_ne hb] at e; exact x.Fn b w e, x.aF, x.aI, x.M, x.ro⟩
/-- a name takes a value that stands still -/
theorem set_val {i : Nat} {d : D} {v : V} (x : ExtS ro G H G1 H1) (S1 : Sx L.c ro G1 fr I1 σ H1) (r : RV G1.F G1.M v d) : ∃ G2, ExtS ro G H G2 H1 ∧ Sx L.c ro G2 (fr.set i (.val d)) I1 (σ.set i (some v)) H1 := by
  obtain ⟨bs, h1, h2⟩ := S1.fr.put i r
  exact ⟨{ G1 with aF := bs }, x.frame fun a ha => x.aF a (h2.subset ha), S1.frame h1 h2⟩
theorem frzS_one {p : D × Kd} {v : V} (x : ExtS ro G H G1 H1) (S : Sx L.c ro G1 fr I1 σ H1) (h : RkW H G1 H1 p v) : ∃ G2, Grow G1 G2 ∧ ExtS ro G H G2 H1 ∧ Sx L.c ro G2 fr I1 σ H1 ∧ RV G2.F G2.M v p.1 := by
  rcases h with ⟨_, h⟩ | ⟨_, a, s, rfl, e, h, h0, h2, h3⟩
  · exact ⟨G1, .refl, x, S, h⟩
  · obtain ⟨u, ha, fu, us, rr⟩ := inn_thing (lk := false) e h
    cases q : G1.F a with
    | some w =>
      have := us w (S.sub a w q)
      subst this
      exact ⟨G1, .refl, x, S, rr _ (fun _ _ e => e) q⟩
    | none => exact ⟨G1.put a u, ⟨put_mono q, rfl, rfl, rfl⟩, x.put (.inl h0) q, S.freeze fu (.inl ha) h2 h3 q, rr _ (put_mono q) upd_same⟩
/-! ### several names, one behind another -/
/-- what waits to be stored -/
inductive Wt (H0 : Hp) (G : Gh) (H : Hp) : List (D × Kd) → List V → Prop
  | nil : Wt H0 G H [] []
  | fro {p : D × Kd} {v : V} {ps : List (D × Kd)} {vs : List V} : p.2 = .fro → RV G.F G.M v p.1 → Wt H0 G H ps vs → Wt H0 G H (p :: ps) (v :: vs)
  | new {p : D × Kd} {a : Addr} {s : Sl} {ps : List (D × Kd)} {vs : List V} : p.2 = .new → Sl.inn p.1 = some s → SlAt false G.F G.M H a s → H0 a = none → G.F a = none → a ∉ G.aF → a ∉ G.aI → a ∉ nwA ps vs → Wt H0 G H ps vs → Wt H0 G H (p :: ps) (.ref a :: vs)
theorem Wt.of {H0 : Hp} : ∀ {tg : List (Nat × Bool)} {ps : List (D × Kd)} {vs : List V} {fr fr' : Fr}, Rks L H0 G H ps vs → (nwA ps vs).Nodup → stoAll tg ps fr = some fr' → Wt H0 G H ps vs
  | _, _, _, _, _, .nil, _, _ => .nil
  | [], _, _, _, _, .cons r rs, _, e => by simp [stoAll] at e
  | t :: ts, p :: ps, v :: vs, fr, fr', .cons r rs, n, e => by
    unfold stoAll at e
    cases e1 : stoK t.2 p with
    | none => rw [e1] at e; cases e
    | some s =>
      rw [e1] at e
      have n2 : (nwA ps vs).Nodup := (List.nodup_append.mp n).2.1
      cases r with
      | fro h => exact .fro rfl h (Wt.of rs n2 e)
      | own e2 h m => cases e1
      | inst e2 h m => cases e1
      | cst => cases e1
      | new e2 h h0 h1 h2 h3 =>
        refine .new rfl e2 h h0 h1 h2 h3 (fun z => ?_) (Wt.of rs n2 e)
        exact (List.nodup_append.mp n).2.2 _ (List.mem_singleton.mpr rfl) _ z rfl
theorem Wt.mem {H0 : Hp} {a : Addr} : ∀ {ps : List (D × Kd)} {vs : List V}, Wt H0 G H ps vs → (∀ p ∈ ps, True) → True := fun _ _ => trivial
theorem Wt.step {H0 : Hp} {a : Addr} {ps : List (D × Kd)} {vs : List V} (w : Wt H0 G H ps vs) (hF : ∀ b u, G.F b = some u → G1.F b = some u) (hM : G1.M = G.M) (hF2 : ∀ b, b ≠ a → G.F b = none → G1.F b = none) (hA : ∀ b ∈ G1.aF, b ∈ G.aF ∨ b = a) (hI : G1.aI = G.aI) (ha : a ∉ nwA ps vs) : Wt H0 G1 H ps vs := by
  have hM' : G.M <+: G1.M := hM ▸ List.prefix_refl _
  induction w with
  | nil => exact .nil
  | fro h r w ih =>
    rename_i p v ps vs
    exact .fro h (r.mono hF hM') (ih fun z => ha (List.mem_append_right _ z))
  | new h e r h0 h1 h2 h3 h4 w ih =>
    rename_i p b s ps vs
    have hb : b ≠ a := fun z => ha (by
      subst z
      refine List.mem_append_left _ ?_
      rw [h]; exact List.mem_singleton.mpr rfl)
    exact .new h e (r.mono hF hM' fun _ e _ => e) h0 (hF2 b hb h1) (fun z => (hA b z).elim h2 hb) (hI ▸ h3) h4 (ih fun z => ha (List.mem_append_right _ z))
theorem sto_all : ∀ {tg : List (Nat × Bool)} {ps : List (D × Kd)} {vs : List V} {fr fr' : Fr} {σ : St} {G1 : Gh}, ExtS ro G H G1 H1 → Sx L.c ro G1 fr I1 σ H1 → Wt H G1 H1 ps vs → stoAll tg ps fr = some fr' →
    ∃ G2, ExtS ro G H G2 H1 ∧ Sx L.c ro G2 fr' I1 ((tg.zip vs).foldl (fun σ q => σ.set q.1.1 (some q.2)) σ) H1 ∧ vs.length = tg.length
  | [], _, _, fr, fr', σ, G1, x, S, .nil, e => by cases e; exact ⟨G1, x, S, rfl⟩
  | _ :: _, _, _, fr, fr', σ, G1, x, S, .nil, e => by cases e
  | [], _, _, fr, fr', σ, G1, x, S, .fro _ _ _, e => by cases e
  | [], _, _, fr, fr', σ, G1, x, S, .new _ _ _ _ _ _ _ _ _, e => by cases e
  | t :: ts, p :: ps, v :: vs, fr, fr', σ, G1, x, S, .fro h r w, e => by
    obtain ⟨d, k⟩ := p
    obtain rfl : k = .fro := h
    unfold stoAll at e
    obtain ⟨bs, h1, h2⟩ := S.fr.put t.1 r
    have x2 := x.frame (bs := bs) fun a ha => x.aF a (h2.subset ha)
    have S2 := S.frame h1 h2
    have w2 : Wt H { G1 with aF := bs } H1 ps vs := by
      clear e
      have hA : ∀ b ∈ bs, b ∈ G1.aF := fun b hb => h2.subset hb
      induction w with
      | nil => exact .nil
      | fro h r w ih => exact .fro h r ih
      | new h e r h0 h1 h2 h3 h4 w ih => exact .new h e r h0 h1 (fun z => h2 (hA _ z)) h3 h4 ih
    obtain ⟨G3, x3, S3, l3⟩ := sto_all x2 S2 w2 e
    exact ⟨G3, x3, S3, by simp [l3]⟩
  | t :: ts, p :: ps, _ :: vs, fr, fr', σ, G1, x, S, .new (a := a) (s := s) h ei r h0 h1 h2 h3 h4 w, e => by
    obtain ⟨d, k⟩ := p
    obtain rfl : k = .new := h
    obtain ⟨i, own⟩ := t
    unfold stoAll at e
    cases own with
    | true =>
      have e1 : stoK true (d, .new) = some s := ei
      rw [e1] at e
      obtain ⟨bs, cs, g1, g2, g3⟩ := S.fr.putC i ei r
      have mem : ∀ b ∈ bs, b ∈ G1.aF ∨ b = a := fun b hb => by
        rcases g3 with rfl | g3
        · exact .inl (g2.subset hb)
        · rcases List.mem_cons.mp (g3.mem_iff.mp hb) with z | z
          · exact .inr z
          · exact .inl (g2.subset z)
      have x2 := x.frame (bs := bs) fun b hb => (mem b hb).elim (x.aF b) fun z => .inr (z ▸ h0)
      have S2 := S.frameC g1 g2 g3 h1 h2 h3
      obtain ⟨G3, x3, S3, l3⟩ := sto_all x2 S2 (w.step (G1 := { G1 with aF := bs }) (a := a) (fun _ _ e => e) rfl (fun _ _ e => e) mem rfl h4) e
      exact ⟨G3, x3, S3, by simp [l3]⟩
    | false =>
      have e1 : stoK false (d, .new) = some (.val d) := rfl
      rw [e1] at e
      obtain ⟨u, hu, fu, us, rr⟩ := inn_thing (lk := false) ei r
      have S2 := S.freeze fu (.inl hu) h2 h3 h1
      have x2 := x.put (u := u) (.inl h0) h1
      have rv : RV (G1.put a u).F (G1.put a u).M (.ref a) d := rr _ (put_mono h1) upd_same
      obtain ⟨bs, g1, g2⟩ := S2.fr.put i rv
      have x3 := x2.frame (bs := bs) fun b hb => x.aF b (g2.subset hb)
      have S3 := S2.frame g1 g2
      obtain ⟨G3, x4, S4, l4⟩ := sto_all x3 S3 (w.step (G1 := { G1.put a u with aF := bs }) (a := a) (put_mono h1) rfl (fun b hb z => by
        show upd G1.F a u b = none
        rw [upd_ne hb]; exact z) (fun b hb => .inl (g2.subset hb)) rfl h4) e
      exact ⟨G3, x4, S4, by simp [l4]⟩
/-- a name's own container stands still from now on -/
theorem FrR.rm {F : Hp} {M : List (Addr × Addr)} {as : List Addr} (h : FrR F M H σ fr as) (nd : as.Nodup) : ∀ {i : Nat} {s : Sl} {d : D}, fr[i]? = some s → Sl.inn d = some s → ∃ a bs, σ[i]? = some (some (.ref a)) ∧ SlAt false F M H a s ∧ a ∈ as ∧ a ∉ bs ∧ bs.Sublist as ∧
    ∀ F' : Hp, (∀ b u, F b = some u → F' b = some u) → RV F' M (.ref a) d → FrR F' M H σ (fr.set i (.val d)) bs := by
  induction h with
  | nil => intro i s d e; simp at e
  | cons h0 h1 ih =>
    rename_i ov s0 as1 bs1 σ1 fr1
    intro i s d e ei
    have nd1 := (List.nodup_append.mp nd)
    cases i with
    | zero =>
      simp only [List.getElem?_cons_zero, Option.some.injEq] at e
      subst e
      have h0' : ∃ a, as1 = [a] ∧ ov = some (.ref a) ∧ SlAt false F M H a s0 := by
        cases d <;> simp only [Sl.inn, reduceCtorEq, Option.some.injEq] at ei <;> subst ei <;> exact h0
      obtain ⟨a, rfl, rfl, r⟩ := h0'
      refine ⟨a, bs1, rfl, r, by simp, fun z => nd1.2.2 a (by simp) a z rfl, List.sublist_append_right _ _, fun F' hF rv => ?_⟩
      have h1' := h1.mono hF (List.prefix_refl M) (H' := H) fun _ _ _ e _ => e
      exact .cons (as := []) ⟨rfl, _, rfl, rv⟩ h1'
    | succ i =>
      obtain ⟨a, bs, g1, g2, g3, g4, g5, g6⟩ := ih nd1.2.1 (i := i) (by simpa using e) ei
      refine ⟨a, as1 ++ bs, by simpa using g1, g2, List.mem_append_right _ g3, fun z => ?_, (List.Sublist.refl _).append g5, fun F' hF rv => ?_⟩
      · rcases List.mem_append.mp z with z | z
        · exact nd1.2.2 a z a g3 rfl
        · exact g4 z
      · exact .cons (h0.mono hF (List.prefix_refl M) fun _ _ _ e _ => e) (g6 F' hF rv)
theorem frzS_inn {s : Sl} {d : D} (h : frzS s = some d) : s = .val d ∨ Sl.inn d = some s := by
  cases s <;> simp only [frzS, reduceCtorEq, Option.some.injEq] at h <;> subst h
  · exact .inl rfl
  · exact .inr rfl
  · exact .inr rfl
  · exact .inr rfl
theorem frz_slot {i : Nat} {s : Sl} {d : D} (S : Sx L.c ro G fr I σ H) (e : fr[i]? = some s) (ei : Sl.inn d = some s) : ∃ G1, ExtS ro G H G1 H ∧ Sx L.c ro G1 (fr.set i (.val d)) I σ H := by
  have ndF := (List.nodup_append.mp S.nd).1
  obtain ⟨a, bs, g1, g2, g3, g4, g5, g6⟩ := S.fr.rm ndF e ei
  obtain ⟨u, hu, fu, us, rr⟩ := inn_thing (lk := false) ei g2
  have h1 := S.sep a (List.mem_append_left _ g3)
  have h3 : a ∉ G.aI := fun z => (List.nodup_append.mp S.nd).2.2 a g3 a z rfl
  have rv : RV (upd G.F a u) G.M (.ref a) d := rr _ (put_mono (G := G) h1) upd_same
  have hfr := g6 (upd G.F a u) (put_mono (G := G) h1) rv
  refine ⟨{ G.put a u with aF := bs }, (ExtS.put (u := u) .refl (.inr g3) h1).frame fun b hb => .inl (g5.subset hb), ⟨hfr, S.is.mono (put_mono h1) (List.prefix_refl _) (fun _ _ _ e _ => e) fun _ _ e => e, S.nd.sublist (g5.append (.refl _)), fun b hb => ?_, fun b w e => ?_, fun b w e => ?_, S.tb⟩⟩
  · show upd G.F a u b = none
    have hb' := (g5.append (List.Sublist.refl G.aI)).subset hb
    rw [upd_ne]
    · exact S.sep b hb'
    · rintro rfl
      rcases List.mem_append.mp hb with z | z
      · exact g4 z
      · exact h3 z
  · have e : upd G.F a u b = some w := e
    by_cases hb : b = a
    · subst hb; rw [upd_same] at e; cases e; exact .inl hu
    · rw [upd_ne hb] at e; exact S.sub b w e
  · have e : upd G.F a u b = some w := e
    by_cases hb : b = a
    · subst hb; rw [upd_same] at e; cases e; exact fu
    · rw [upd_ne hb] at e; exact S.fine b w e
end
end Air
/-! Air: statements (3): one by one. -/
namespace Air
open PySem PySem.Spec PyProof.Rows L2
variable [Kf]
section
variable {L : Lg} {W : WX} {X : Cx} {ro ro' : Bool} {G G1 G2 : Gh} {H H1 H2 : Hp} {σ σ1 : St} {fr fr1 : Fr} {I I1 : Is} {E E' : Ends}
theorem PS.imp {st : Stmt} {t t' : TS} (h : PS X st t) (i : ∀ D σ H, t' D σ H → t D σ H) : PS X st t' := ⟨fun pins s σ H D I q => h.run pins s σ H D I (i _ _ _ q)⟩
theorem PSs.imp {st : List Stmt} {t t' : TS} (h : PSs X st t) (i : ∀ D σ H, t' D σ H → t D σ H) : PSs X st t' := ⟨fun pins s σ H D I q => h.run pins s σ H D I (i _ _ _ q)⟩
/-! ### assignments -/
theorem sw_no {v : Expr} {tg : Option Expr} {l : Nat} {env : Env} (h : notComp v = true) : swapsWith v tg l env = pure false := by
  cases v <;> first | rfl | cases h
theorem kind_of {sc : Scope} (h : fnKind sc = true) : sc.kind = .function := by
  unfold fnKind at h
  split at h
  · assumption
  · cases h
theorem ps_asgA (g : Good L X W) {fb : Str → Bool} (hf : ∀ x, fb x = true → X.fn x = true) {e : Tm} {v : Expr} {i : Nat} {x : Str} {px pos : Pos} (h1 : nmB fb X.env.scope X.N i x = true) (h2 : chk L.kn e X.env.scope X.N v = true) (h3 : swB X.env.scope x px v = true) (h4 : fnKind X.env.scope = true) :
    PS X (.Assign [.Name x px] v pos) (tAsg (te L W e) (gName i)) := by
  simp only [nmB, Bool.and_eq_true, decide_eq_true_eq] at h1
  obtain ⟨hi, hs⟩ := h1
  obtain ⟨s1, s2⟩ := sto_of hf hs
  have plain : notComp v = true → PS X (.Assign [.Name x px] v pos) (tAsg (te L W e) (gName i)) := fun hn =>
    ps_asg ((main_all e).e g h2).1 (pg_name g.nd hi s1 s2) (show swapsWith v (some (.Name x px)) pos.line X.env = pure false from sw_no hn) (by rfl) (by rfl)
  unfold swB at h3
  split at h3
  · rename_i elt gg scope lp
    simp only [Bool.and_eq_true, decide_eq_true_eq, Bool.not_eq_true'] at h3
    obtain ⟨⟨l1, l2⟩, l3⟩ := h3
    unfold chk at h2
    split at h2 <;> first | (rename_i heq; cases heq; done) | (cases h2; done) | skip
    rename_i heq; cases heq
    simp only [Bool.and_eq_true] at h2
    obtain ⟨⟨⟨⟨⟨⟨k1, k2⟩, k3⟩, k4⟩, k5⟩, k6⟩, k7⟩ := h2
    have k4 := List.all_eq_true.mp k4
    have hix := fun j hj => of_decide_eq_true (k4 j hj)
    refine PS.imp (ps_setLc (g := gA X.K _) g.calm g.nd hi l1 (sw_true (kind_of h4) l1 l2 l3) ((main_all _).i g k2) (blkOk_by k1)
      (fun s H C cl fp => pg_A (X := X.blk s H _ (compEnvC _ cl C X.env) fp) (fb := celB _) g.calm g.nd (fun x hx => by simpa [celB] using hx) k3)
      (fun s H C cl fp => (main_all (L := L.nl) _).c (g.blk s H _ _ fp) k5) (fun s H C cl fp => PE.imp (X := X.blk s H _ (compEnvC _ cl C X.env) fp) ((main_all (L := L.nl) _).e (g.blk s H _ (compEnvC _ cl C X.env) fp) k6).1 fun σ H Q q => te_kn q) (fold_of k7 _)) fun D σ H q => te_lc hix q
  · exact plain h3
theorem ts_asg {e : Tm} {i : Nat} (h : tS L W (.asg i e) E σ H) : tAsg (te L W e) (gName i) E σ H := by
  obtain ⟨ro, G, fr, I, S, h⟩ := h
  simp only [exec] at h
  refine te.imp (stm_te S h) ?_
  rintro v H1 ⟨p, I1, G1, x, S1, r1, h1⟩
  cases q : frzK p with
  | none => rw [q] at h1; exact absurd h1 id
  | some d =>
    rw [q] at h1
    obtain ⟨w, rfl⟩ := r1.w q
    obtain ⟨G2, _, x2, S2, rv⟩ := frzS_one x.s S1 w
    obtain ⟨G3, x3, S3⟩ := set_val x2 S2 rv
    exact h1 _ G3 H1 x3 S3
theorem ts_own {e : Tm} {i : Nat} (h : tS L W (.own i e) E σ H) : tAsg (te L W e) (gName i) E σ H := by
  obtain ⟨ro, G, fr, I, S, h⟩ := h
  simp only [exec] at h
  refine te.imp (stm_te S h) ?_
  rintro v H1 ⟨p, I1, G1, x, S1, r1, h1⟩
  cases q : stoK true p with
  | none => rw [q] at h1; exact absurd h1 id
  | some s =>
    rw [q] at h1
    have e1 : stoAll [(i, true)] [p] fr = some (fr.set i s) := by simp [stoAll, q]
    have hn : (nwA [p] [v]).Nodup := by
      show (_ ++ []).Nodup
      split <;> simp
    obtain ⟨G2, x2, S2, _⟩ := sto_all x.s S1 (Wt.of (.cons r1 .nil) hn e1) e1
    exact h1 _ G2 H1 x2 S2
/-! ### several at once -/
theorem fold_map : ∀ (tg : List (Nat × Bool)) (vs : List V) (σ : St), (tg.zip vs).foldl (fun σ q => σ.set q.1.1 (some q.2)) σ = ((tg.map (·.1)).zip vs).foldl (fun σ p => σ.set p.1 (some p.2)) σ
  | [], vs, σ => by simp
  | t :: tg, [], σ => by simp
  | t :: tg, v :: vs, σ => by simpa using fold_map tg vs _
theorem ts_par {tg : List (Nat × Bool)} {es : Tm} (h : tS L W (.par tg es) E σ H) : ta L W es σ H (fun vs H1 => vs.length = tg.length ∧ (∀ p u, H1 p = none → E.nx ((tg.zip vs).foldl (fun σ q => σ.set q.1.1 (some q.2)) σ) (upd H1 p u)) ∧ E.nx ((tg.zip vs).foldl (fun σ q => σ.set q.1.1 (some q.2)) σ) H1) := by
  obtain ⟨ro, G, fr, I, S, h⟩ := h
  simp only [exec] at h
  obtain ⟨ro2, G2, fr2, I2, S2, h2⟩ := stm_ta S h
  refine ⟨ro2, G2, fr2, I2, S2, h2.imp (fun _ _ _ _ r => r) ?_⟩
  rintro vs H1 ⟨ps, I1, G1, x, S1, ⟨r1, n1⟩, h1⟩
  cases q : stoAll tg ps fr with
  | none => rw [q] at h1; exact absurd h1 id
  | some fr' =>
    rw [q] at h1
    obtain ⟨G3, x3, S3, l3⟩ := sto_all x.s S1 (Wt.of r1 n1 q) q
    exact ⟨l3, fun p u hp => h1 _ G3 _ (x3.trans (Ext.new hp).s) (S3.new hp), h1 _ G3 H1 x3 S3⟩
theorem star_no {e : Expr} (h : notStar e = true) : (match e with | .Starred _ _ => true | _ => false) = false := by
  cases e <;> first | rfl | cases h
theorem str_ne {x y : Str} (h : (x == y) = false) : (y == x) = false := by
  cases q : y == x with
  | false => rfl
  | true => rw [eq_of_beq q, beq_self_eq_true] at h; cases h
theorem sw_par2 {env : Env} {x y : Str} {px py pt pt2 : Pos} {kt k2 : Nat} {a b : Expr} (hk : env.scope.kind = .function) (hx : env.scope.names.lookup x = some .local) (hy : env.scope.names.lookup y = some .local) (hl : (py.line == px.line) = true) (hxy : (x == y) = false)
    (ha : notStar a = true) (hb : notStar b = true) (hfo : (foldedForSure 8 a && foldedForSure 8 b) = false) (hco : (constantsAlone 8 a && constantsAlone 8 b) = false) :
    swappedStores [.Tuple [.Name x px, .Name y py] kt pt] (.Tuple [a, b] k2 pt2) env = pure (some [x, y]) := by
  have hb' : env.blockKind = .function := by unfold Env.blockKind; rw [hk]; rfl
  have e1 : env.kindOf x = some .local := hx
  have e2 : env.kindOf y = some .local := hy
  have hall1 : [a, b].all (foldedForSure 8) = false := by simpa using hfo
  have hall2 : [a, b].all (constantsAlone 8) = false := by simpa using hco
  have hd : [x, y].eraseDups = [x, y] := by simp [List.eraseDups_cons, str_ne hxy]
  unfold swappedStores
  simp only [hb', List.any_cons, List.any_nil, star_no ha, star_no hb, List.length_cons, List.length_nil, List.head?_cons, Option.map_some, Option.getD_some, List.filterMap_cons, List.filterMap_nil, e1, e2, Expr.pos, hl, hall1, hall2]
  simp [hd]
  rintro (h | h)
  · cases a <;> first | (cases h; done) | (cases ha; done)
  · cases b <;> first | (cases h; done) | (cases hb; done)
theorem sw_par3 {env : Env} {x y z : Str} {px py pz pt pt2 : Pos} {kt k2 : Nat} {a b c : Expr} (hk : env.scope.kind = .function) (hx : env.scope.names.lookup x = some .local) (hy : env.scope.names.lookup y = some .local) (hz : env.scope.names.lookup z = some .local) (hl : (py.line == px.line) = true) (hl2 : (pz.line == px.line) = true) (hxy : (x == y) = false) (hxz : (x == z) = false) (hyz : (y == z) = false)
    (ha : notStar a = true) (hb : notStar b = true) (hc : notStar c = true) (hfo : (foldedForSure 8 a && foldedForSure 8 b && foldedForSure 8 c) = false) (hco : (constantsAlone 8 a && constantsAlone 8 b && constantsAlone 8 c) = false) :
    swappedStores [.Tuple [.Name x px, .Name y py, .Name z pz] kt pt] (.Tuple [a, b, c] k2 pt2) env = pure (some [x, y, z]) := by
  have hb' : env.blockKind = .function := by unfold Env.blockKind; rw [hk]; rfl
  have e1 : env.kindOf x = some .local := hx
  have e2 : env.kindOf y = some .local := hy
  have e3 : env.kindOf z = some .local := hz
  have hall1 : [a, b, c].all (foldedForSure 8) = false := by simpa [Bool.and_assoc] using hfo
  have hall2 : [a, b, c].all (constantsAlone 8) = false := by simpa [Bool.and_assoc] using hco
  have hd : [x, y, z].eraseDups = [x, y, z] := by simp [List.eraseDups_cons, str_ne hxy, str_ne hxz, str_ne hyz]
  unfold swappedStores
  simp only [hb', List.any_cons, List.any_nil, star_no ha, star_no hb, star_no hc, List.length_cons, List.length_nil, List.head?_cons, Option.map_some, Option.getD_some, List.filterMap_cons, List.filterMap_nil, e1, e2, e3, Expr.pos, hl, hl2, hall1, hall2]
  simp [hd]
  rintro (h | h | h)
  · cases a <;> first | (cases h; done) | (cases ha; done)
  · cases b <;> first | (cases h; done) | (cases hb; done)
  · cases c <;> first | (cases h; done) | (cases hc; done)
theorem fm_len {α β : Type} {f : α → Option β} : ∀ {l : List α}, (l.filterMap f).length = l.length → ∀ x ∈ l, (f x).isSome = true
  | [], _, x, h => by simp at h
  | y :: l, e, x, h => by
    rw [List.filterMap_cons] at e
    have le := List.length_filterMap_le f l
    cases q : f y with
    | none => rw [q] at e; simp only [List.length_cons] at e; omega
    | some z =>
      rw [q] at e
      rcases List.mem_cons.mp h with rfl | h
      · rw [q]; rfl
      · exact fm_len (by simpa using e) x h
theorem sw_parT {env : Env} {ts vs : List Expr} {kt k2 : Nat} {pt pt2 : Pos} (h : 3 < ts.length ∨ vs.length = ts.length ∧ vs.all (foldedForSure 8) = true ∨ ts.any (celT env.scope) = true) : swappedStores [.Tuple ts kt pt] (.Tuple vs k2 pt2) env = pure none := by
  unfold swappedStores
  rcases h with h | ⟨h1, h2⟩ | h
  · have e2 : (ts.length == 2) = false := by simp; omega
    have e3 : (ts.length == 3) = false := by simp; omega
    simp [e2, e3]
  · simp only [h2]
    simp
    repeat' (first | (intro _) | rfl)
  · obtain ⟨x, hx, hc⟩ := List.any_eq_true.mp h
    split
    · rename_i heq
      cases heq
      split
      · rfl
      · split
        · rfl
        · refine if_pos ?_
          rw [Bool.or_eq_true]
          left
          rw [bne_iff_ne]
          intro e
          have := fm_len e x hx
          cases x <;> first | (cases this; done) | skip
          rename_i y p
          have k : (env.kindOf y == some .local) = false := by simpa [celT, Env.kindOf] using hc
          simp only [k, Bool.false_and] at this
          cases this
    · rename_i hn
      exact (hn ts vs rfl).elim
end
end Air
/-! Air: statements (4): the main theorem. -/
namespace Air
open PySem PySem.Spec PyProof.Rows L2
variable [Kf]
section
variable {L : Lg} {W : WX} {X : Cx} {ro ro' : Bool} {G G1 G2 : Gh} {H H1 H2 : Hp} {σ σ1 : St} {fr fr1 : Fr} {I I1 : Is} {E E' : Ends}
theorem tupPos {fb : Str → Bool} {sc : Scope} {N : List Str} {is : List Nat} {ts : List Expr} {k k2 : Nat} {p p2 : Pos} (h : tgB fb sc N (.tp is) (.Tuple ts k p) = true) : tgB fb sc N (.tp is) (.Tuple ts k2 p2) = true := h
theorem ps_parA (g : Good L X W) {fb : Str → Bool} (hf : ∀ x, fb x = true → X.fn x = true) {tg : List (Nat × Bool)} {es : Tm} {ts vs : List Expr} {k k2 : Nat} {p p2 pos : Pos} (h1 : chkK L.kn es X.env.scope X.N vs = true) (h2 : fnKind X.env.scope = true) (h3 : parB X.env.scope X.N tg ts vs = true ∨ parT fb X.env.scope X.N tg ts vs = true) :
    PS X (.Assign [.Tuple ts k p] (.Tuple vs k2 p2) pos) (tS L W (.par tg es)) := by
  have hst := chkK_star h1
  have pa := (main_all es).a g h1
  rcases h3 with h3 | h3
  · unfold parB at h3
    split at h3
    · rename_i i _ j _ x px y py a b
      simp only [Bool.and_eq_true, decide_eq_true_eq, Bool.not_eq_true'] at h3
      obtain ⟨⟨⟨⟨⟨⟨⟨⟨a1, a2⟩, a3⟩, a4⟩, a5⟩, a6⟩, a7⟩, a8⟩, a9⟩ := h3
      refine PS.imp (ps_par g.calm g.nd a1 a2 a3 a4 a5 pa (sw_par2 (kind_of h2) a4 a5 a6 a7 (hst a (by simp)) (hst b (by simp)) a8 a9) (by rfl)) fun D σ H q => ?_
      obtain ⟨ro, G, fr, I, S, q⟩ := ts_par q
      refine ⟨ro, G, fr, I, S, q.imp (fun _ _ _ _ r => r) ?_⟩
      rintro ws H1 ⟨l, _, h⟩
      match ws, l with
      | [v, w], _ => exact ⟨v, w, rfl, h⟩
    · rename_i i _ j _ l _ x px y py z pz a b c
      simp only [Bool.and_eq_true, decide_eq_true_eq, Bool.not_eq_true'] at h3
      obtain ⟨⟨⟨⟨⟨⟨⟨⟨⟨⟨⟨⟨⟨⟨⟨a1, a2⟩, a3⟩, a4⟩, a5⟩, a6⟩, a7⟩, a8⟩, a9⟩, b1⟩, b2⟩, b3⟩, b4⟩, b5⟩, b6⟩, b7⟩ := h3
      refine PS.imp (ps_par3 g.calm g.nd a1 a2 a3 a4 a5 a6 a7 a8 a9 pa (sw_par3 (kind_of h2) a7 a8 a9 b1 b2 b3 b4 b5 (hst a (by simp)) (hst b (by simp)) (hst c (by simp)) b6 b7) (by rfl)) fun D σ H q => ?_
      obtain ⟨ro, G, fr, I, S, q⟩ := ts_par q
      refine ⟨ro, G, fr, I, S, q.imp (fun _ _ _ _ r => r) ?_⟩
      rintro ws H1 ⟨l, _, h⟩
      match ws, l with
      | [v, w, u], _ => exact ⟨v, w, u, rfl, h⟩
    · cases h3
  · simp only [parT, Bool.and_eq_true, Bool.or_eq_true, decide_eq_true_eq] at h3
    obtain ⟨⟨⟨a1, a2⟩, a3⟩, a4⟩ := h3
    have hlen : tg.length = ts.length := by
      simp only [tgB, Bool.and_eq_true, decide_eq_true_eq, List.length_map] at a1
      exact a1.1
    refine PS.imp (ps_asg (pe_tup pa) (pg_A g.calm g.nd hf (tupPos a1)) (by rfl) (sw_parT (a3.elim (fun z => z.elim .inl fun z => .inr (.inl z)) fun z => .inr (.inr z))) (by rfl)) fun D σ H q => ?_
    obtain ⟨ro, G, fr, I, S, q⟩ := ts_par q
    refine ⟨ro, G, fr, I, S, q.imp (fun _ _ _ _ r => r) ?_⟩
    rintro ws H1 ⟨l, h, _⟩
    refine ⟨?_, fun p hp => ⟨p, ws, rfl, .of upd_same, by rw [List.length_map]; exact l, ?_⟩⟩
    · rw [l, hlen]
      have : (100 : Nat) ≤ sizeLine := by decide
      omega
    · rw [← fold_map]
      exact h p _ hp
theorem notTup_sw {ts : List Expr} {k : Nat} {p : Pos} {v : Expr} {env : Env} (h : notTup v = true) : swappedStores [.Tuple ts k p] v env = pure none := by
  cases v <;> first | rfl | cases h
theorem ps_unpA (g : Good L X W) {fb : Str → Bool} (hf : ∀ x, fb x = true → X.fn x = true) {tg : List Nat} {e : Tm} {ts : List Expr} {v : Expr} {k : Nat} {p pos : Pos} (h1 : tgB fb X.env.scope X.N (.tp tg) (.Tuple ts k p) = true) (h2 : chk L.kn e X.env.scope X.N v = true) (h3 : notComp v = true) (h4 : notTup v = true) :
    PS X (.Assign [.Tuple ts k p] v pos) (tS L W (.unp tg e)) := by
  refine PS.imp (ps_asg ((main_all e).e g h2).1 (pg_A g.calm g.nd hf h1) (show swapsWith v (some (.Tuple ts k p)) pos.line X.env = pure false from sw_no h3) (notTup_sw h4) (by rfl)) fun D σ H q => ?_
  obtain ⟨ro, G, fr, I, S, h⟩ := q
  simp only [exec] at h
  refine te.imp (stm_te S h) ?_
  rintro w H1 ⟨q, I1, G1, x, S1, r1, h1⟩
  cases e1 : frzK q with
  | none => rw [e1] at h1; exact absurd h1 id
  | some d =>
    rw [e1] at h1
    obtain ⟨w', rfl⟩ := r1.w e1
    obtain ⟨G2, _, x2, S2, rv⟩ := frzS_one x.s S1 w'
    cases e2 : asgT (.tp tg) q.1 fr with
    | none => simp only [e2] at h1; exact absurd h1 id
    | some fr' =>
      simp only [e2] at h1
      exact gA_run S2 rv e2 fun σ' bs fb' sb _ => h1 σ' { G2 with aF := bs } H1 (x2.frame fun a ha => x2.aF a (sb.subset ha)) (S2.frame fb' sb)
/-! ### append, extend -/
theorem vn_of {i : Nat} {x : Str} {pos : Pos} (h : vnB X.env.scope X.N i x = true) : PE X (.Name x pos) (tVar i) := by
  simp only [vnB, Bool.and_eq_true, decide_eq_true_eq, Bool.not_eq_true'] at h
  exact pe_var h.1.1.1 (vis_of h.1.1.2) h.1.2 h.2
theorem lst_at {i : Nat} {xs : List D} (S : Sx L.c ro G fr I σ H) (e : fr[i]? = some (.lst xs)) : ∃ a vs, σ[i]? = some (some (.ref a)) ∧ H a = some (.lst vs) ∧ RVs G.F G.M vs xs ∧ a ∈ G.aF := by
  obtain ⟨ov, bs, h1, h2, h3⟩ := S.fr.at_ e
  obtain ⟨a, rfl, rfl, vs, e1, r⟩ := h2
  exact ⟨a, vs, h1, e1, r, h3 a (by simp)⟩
/-- a name's own list has other items -/
theorem FrR.put2 {F : Hp} {M : List (Addr × Addr)} {as : List Addr} (h : FrR F M H σ fr as) (nd : as.Nodup) : ∀ {i : Nat} {xs ys : List D} {a : Addr} {ws : List V}, fr[i]? = some (.lst xs) → σ[i]? = some (some (.ref a)) → RVs F M ws ys → FrR F M (upd H a (.lst ws)) σ (fr.set i (.lst ys)) as := by
  have kp : ∀ {b a : Addr} {ws : List V}, b ≠ a → Kp H (upd H a (.lst ws)) b := fun hb o e _ => by rw [upd_ne hb]; exact e
  induction h with
  | nil => intro i xs ys a ws e; simp at e
  | cons h0 h1 ih =>
    rename_i ov s as1 bs1 σ1 fr1
    intro i xs ys a ws e e2 r
    have nd1 := List.nodup_append.mp nd
    cases i with
    | zero =>
      simp only [List.getElem?_cons_zero, Option.some.injEq] at e e2
      subst e
      obtain ⟨b, rfl, hb, vs, hv, rv⟩ := h0
      rw [e2] at hb
      have hb : a = b := by
        have := Option.some.inj hb
        exact V.ref.inj this
      subst hb
      refine .cons ⟨a, rfl, e2, ws, upd_same, r⟩ (h1.mono (fun _ _ e => e) (List.prefix_refl _) fun c hc => kp fun z => nd1.2.2 a (by simp) a (z ▸ hc) rfl)
    | succ i =>
      have e' : fr1[i]? = some (.lst xs) := by simpa using e
      have e2' : σ1[i]? = some (some (.ref a)) := by simpa using e2
      obtain ⟨ov', cs, g1, g2, g3⟩ := h1.at_ e'
      obtain ⟨b, rfl, hb, _⟩ := g2
      rw [e2'] at g1
      have hb2 : a = b := by
        rw [← Option.some.inj g1] at hb
        exact V.ref.inj (Option.some.inj hb)
      subst hb2
      have ha : a ∈ bs1 := g3 a (by simp)
      exact .cons (h0.mono (fun _ _ e => e) (List.prefix_refl _) fun c hc => kp fun z => nd1.2.2 c hc a ha z) (ih nd1.2.1 e' e2' r)
theorem set_lst {i : Nat} {xs ys : List D} {a : Addr} {vs ws : List V} (x : ExtS ro G H G1 H1) (S : Sx L.c ro G1 fr I1 σ H1) (e : fr[i]? = some (.lst xs)) (e2 : σ[i]? = some (some (.ref a))) (ha : a ∈ G1.aF) (hv : H1 a = some (.lst vs)) (r : RVs G1.F G1.M ws ys) :
    ExtS ro G H G1 (upd H1 a (.lst ws)) ∧ Sx L.c ro G1 (fr.set i (.lst ys)) I1 σ (upd H1 a (.lst ws)) := by
  have kp : ∀ {b : Addr}, b ≠ a → Kp H1 (upd H1 a (.lst ws)) b := fun hb o e _ => by rw [upd_ne hb]; exact e
  have nd := List.nodup_append.mp S.nd
  have aF := x.aF a ha
  refine ⟨⟨fun b o hb h1 h2 t => ?_, fun b hb => ?_, x.F, x.Fn, x.aF, x.aI, x.M, x.ro⟩, ⟨S.fr.put2 nd.1 e e2 r, S.is.mono (fun _ _ e => e) (List.prefix_refl _) (fun b hb => kp fun z => nd.2.2 a ha a (z ▸ hb) rfl) (fun b p hb => ?_), S.nd, S.sep, fun b u hb => ?_, S.fine, ?_⟩⟩
  · have : b ≠ a := fun z => by
      subst z
      exact aF.elim h2 fun z => by rw [z] at hb; cases hb
    rw [upd_ne this]
    exact x.keep b o hb h1 h2 t
  · by_cases h : b = a
    · subst h; rw [upd_same] at hb; cases hb
    · rw [upd_ne h] at hb; exact x.dom b hb
  · rw [upd_ne]
    · exact hb
    · rintro rfl; rw [hv] at hb; cases hb
  · refine (S.sub b u hb).mono fun o q => ?_
    rw [upd_ne]
    · exact q
    · rintro rfl
      rw [S.sep b (List.mem_append_left _ ha)] at hb; cases hb
  · intro q hq
    obtain ⟨ps, h1, h2, h3⟩ := S.tb q hq
    refine ⟨ps, ?_, h2, fun pos cv hc => ?_⟩
    · rw [upd_ne]
      · exact h1
      · rintro z; rw [z, hv] at h1; cases h1
    · obtain ⟨c, e1, e9⟩ := h3 pos cv hc
      refine ⟨c, e1, ?_⟩
      rw [upd_ne]
      · exact e9
      · rintro rfl
        rw [hv] at e9
        unfold LamX.CodeO at e9
        cases e9
theorem few_ok {cpos : Pos} {a : Expr} {env : Env} (h : notStar a = true) : ((backTo cpos (starEach [a] env)).all (fun x => !x.1) && (backToKw cpos (keywordEach [] env)).all (fun x => x.1.isSome)
      && decide ([a].length + ([] : List Keyword).length + (if ([] : List Keyword).isEmpty then 0 else 1) < 30)) = true := by
  rw [star_of h]; rfl
theorem ps_appA (g : Good L X W) {e : Tm} {i : Nat} {x : Str} {a : Expr} {p apos cpos pos : Pos} (h1 : vnB X.env.scope X.N i x = true) (h2 : chk L.kn e X.env.scope X.N a = true) (h3 : notStar a = true) (h4 : (apos.endLine == cpos.line) = true) :
    PS X (.Expr (.Call (.Attribute (.Name x p) "append" apos) [a] [] cpos) pos) (tS L W (.app i e)) := by
  refine PS.imp (ps_expr (pe_bm PySem.F.plainAttrs_list PySem.F.slot_list_append PySem.F.type_list_append mt_append (vn_of h1) (pa_cons ((main_all e).e g h2).1 pa_nil (star_of h3 _ X.env)) (by rfl) (few_ok h3) h4 (star_of h3 _ X.env) (by rfl)) (by rfl)) fun D σ H q => ?_
  obtain ⟨ro, G, fr, I, S, h⟩ := q
  simp only [exec] at h
  cases e1 : fr[i]? with
  | none => rw [e1] at h; exact absurd h id
  | some s =>
    rw [e1] at h
    cases s with
    | lst xs =>
      obtain ⟨b, vs, g1, g2, g3, g4⟩ := lst_at S e1
      refine ⟨_, g1, .inl ⟨rfl, _, .of g2⟩, ?_⟩
      refine te.imp (stm_te S h) ?_
      rintro v H1 ⟨q, I1, G1, y, S1, r1, hh⟩
      cases e2 : frzK q with
      | none => rw [e2] at hh; exact absurd hh id
      | some d =>
        rw [e2] at hh
        obtain ⟨w', rfl⟩ := r1.w e2
        obtain ⟨G2, gr, x2, S2, rv⟩ := frzS_one y.s S1 w'
        obtain ⟨b', vs', k1, k2, k3, k4⟩ := lst_at S2 e1
        have : b = b' := by rw [g1] at k1; exact V.ref.inj (Option.some.inj (Option.some.inj k1))
        subst this
        cases hl : decide (xs.length < lim) with
        | false => simp only [hl] at hh; exact absurd hh id
        | true =>
          simp only [hl] at hh
          obtain ⟨x3, S3⟩ := set_lst x2 S2 e1 g1 k4 k2 (k3.append (.cons rv .nil))
          refine ⟨b, vs', v, rfl, rfl, k2, ?_, hh _ G2 _ x3 S3⟩
          rw [k3.length, ← lim_eq]; exact of_decide_eq_true hl
    | _ => exact absurd h id
def rRemS : V → List V → Hp → VK → Prop := fun x xs H Q => ∃ (l : Addr) (zs : List Str) (z : Str), x = .ref l ∧ xs = [.str z] ∧ H l = some (.lst (zs.map V.str)) ∧ z ∈ zs ∧ Q .non (upd H l (.lst ((zs.eraseIdx (zs.idxOf z)).map V.str)))
theorem eraseIdx_mapS : ∀ (l : List Str) (j : Nat), (l.map V.str).eraseIdx j = (l.eraseIdx j).map V.str
  | [], j => by simp
  | a :: r, 0 => by simp
  | a :: r, j + 1 => by simp [eraseIdx_mapS r j]
theorem strsAt : ∀ {us : List Value} {zs : List Str}, StrsAre us zs → ∀ (i : Nat) (h : i < us.length) (z : Str), isStrOf z us[i] = true ↔ zs[i]? = some z
  | _, _, .nil, i, h, _ => absurd h (by simp)
  | _, _, .cons n t hr, 0, _, z => by
    show (n == z) = true ↔ some n = some z
    rw [beq_iff_eq, Option.some_inj]
  | _, _, .cons n t hr, i + 1, h, z => strsAt hr i (Nat.lt_of_succ_lt_succ h) z
theorem idxOf_first {zs : List Str} {z : Str} (h : z ∈ zs) : zs.idxOf z < zs.length ∧ zs[zs.idxOf z]? = some z ∧ ∀ i, i < zs.idxOf z → zs[i]? ≠ some z := by
  have hl := List.idxOf_lt_length_of_mem h
  refine ⟨hl, by rw [List.getElem?_eq_getElem hl, List.getElem_idxOf], fun i hi e => ?_⟩
  have hil : i < zs.length := by omega
  rw [List.getElem?_eq_getElem hil] at e
  have := List.not_of_lt_findIdx (xs := zs) (p := (· == z)) hi
  simp at this
  exact this (Option.some.inj e)
theorem mt_removeS : MtM X "list.remove" rRemS := by
  intro pins s σ H x xs v us Q I rx rxs h
  obtain ⟨l, zs, z, rfl, rfl, hH, hz, q⟩ := h
  cases rx
  obtain ⟨u, rfl, ru⟩ := rxs.one
  obtain ⟨t, rfl⟩ := ru
  obtain ⟨zz, its, n, r, hl, e⟩ := I.lstM hH
  have hi : StrsAre its zs := strs_of_vals r
  rw [List.length_map] at hl zz
  obtain ⟨j1, j2, j3⟩ := idxOf_first hz
  have hjl : zs.idxOf z < its.toArray.size := by rw [List.size_toArray]; omega
  have hsz : its.toArray.size ≤ sizeLine := by rw [List.size_toArray, ← hl]; exact zz
  refine call_meets PySem.F.slot_list_remove ⟨_, e, rfl⟩ PySem.F.entry_list_remove (PySem.F.args_list_remove_2 _ _)
    (MeetsSeq.list_remove l its.toArray n (.str z t) (isStrOf z) (fun y hy => eq_isStrOf z t hi y (by simpa using hy)) (zs.idxOf z) hjl ?_ ?_ hsz) ⟨e, ?_⟩
  · have hj : zs.idxOf z < its.length := by omega
    show isStrOf z its[zs.idxOf z] = true
    exact (strsAt hi _ hj z).mpr j2
  · intro m hm hmj
    have hml : m < its.length := by rw [List.size_toArray] at hm; exact hm
    show isStrOf z its[m] = false
    rw [Bool.eq_false_iff]
    intro w
    exact j3 m hmj ((strsAt hi m hml z).mp w)
  · have rr := r.eraseIdx (zs.idxOf z)
    rw [eraseIdx_mapS] at rr
    refine ⟨.non, _, I.lset (its' := its.eraseIdx (zs.idxOf z)) (t' := s.toks) hH e ?_ rr ?_, rfl, q⟩
    · show its.toArray.eraseIdxIfInBounds (zs.idxOf z) = (its.eraseIdx (zs.idxOf z)).toArray
      rw [List.eraseIdxIfInBounds_toArray]
    · have z2 := List.length_eraseIdx_le zs (zs.idxOf z)
      rw [List.length_map]
      omega
theorem RVs.eraseIdx {F : Addr → Option HO} {M : List (Addr × Addr)} : ∀ {vs : List V} {ds : List D} (j : Nat), RVs F M vs ds → RVs F M (vs.eraseIdx j) (ds.eraseIdx j)
  | _, _, j, .nil => by simpa using RVs.nil
  | _, _, 0, .cons r rs => rs
  | _, _, j + 1, .cons r rs => .cons r (RVs.eraseIdx j rs)
theorem ps_remA (g : Good L X W) {e : Tm} {i : Nat} {x : Str} {a : Expr} {p apos cpos pos : Pos} (h1 : vnB X.env.scope X.N i x = true) (h2 : chk L.kn e X.env.scope X.N a = true) (h3 : notStar a = true) (h4 : (apos.endLine == cpos.line) = true) :
    PS X (.Expr (.Call (.Attribute (.Name x p) "remove" apos) [a] [] cpos) pos) (tS L W (.rem i e)) := by
  refine PS.imp (ps_expr (pe_bm PySem.F.plainAttrs_list PySem.F.slot_list_remove PySem.F.type_list_remove mt_removeS (vn_of h1) (pa_cons ((main_all e).e g h2).1 pa_nil (star_of h3 _ X.env)) (by rfl) (few_ok h3) h4 (star_of h3 _ X.env) (by rfl)) (by rfl)) fun D σ H q => ?_
  obtain ⟨ro, G, fr, I, S, h⟩ := q
  simp only [exec] at h
  cases e1 : fr[i]? with
  | none => rw [e1] at h; exact absurd h id
  | some s =>
    rw [e1] at h
    cases s with
    | lst xs =>
      obtain ⟨b, vs, g1, g2, g3, g4⟩ := lst_at S e1
      refine ⟨_, g1, .inl ⟨rfl, _, .of g2⟩, ?_⟩
      refine te.imp (stm_te S h) ?_
      rintro v H1 ⟨⟨d, k⟩, I1, G1, y, S1, r1, hh⟩
      cases d with
      | str z =>
        cases e3 : strsD xs with
        | none => simp only [e3] at hh; exact absurd hh id
        | some zs =>
          cases hz : decide (z ∈ zs) with
          | false => simp only [e3, hz] at hh; exact absurd hh id
          | true =>
            simp only [e3, hz] at hh
            obtain ⟨rfl, _⟩ := r1.str
            obtain ⟨b', vs', k1, k2, k3, k4⟩ := lst_at S1 e1
            have : b = b' := by rw [g1] at k1; exact V.ref.inj (Option.some.inj (Option.some.inj k1))
            subst this
            have hv := k3.strsD e3
            subst hv
            have k5 := RVs.eraseIdx (zs.idxOf z) k3
            rw [eraseIdx_mapS] at k5
            obtain ⟨x3, S3⟩ := set_lst y.s S1 e1 g1 k4 k2 k5
            exact ⟨b, zs, z, rfl, rfl, k2, of_decide_eq_true hz, hh _ G1 _ x3 S3⟩
      | _ => exact absurd hh id
    | _ => exact absurd h id
theorem ps_extA (g : Good L X W) {e : Tm} {i : Nat} {x : Str} {a : Expr} {p apos cpos pos : Pos} (h1 : vnB X.env.scope X.N i x = true) (h2 : chk L.kn e X.env.scope X.N a = true) (h3 : notStar a = true) (h4 : (apos.endLine == cpos.line) = true) :
    PS X (.Expr (.Call (.Attribute (.Name x p) "extend" apos) [a] [] cpos) pos) (tS L W (.ext i e)) := by
  refine PS.imp (ps_expr (pe_bm PySem.F.plainAttrs_list PySem.F.slot_list_extend PySem.F.type_list_extend mt_extend (vn_of h1) (pa_cons ((main_all e).e g h2).1 pa_nil (star_of h3 _ X.env)) (by rfl) (few_ok h3) h4 (star_of h3 _ X.env) (by rfl)) (by rfl)) fun D σ H q => ?_
  obtain ⟨ro, G, fr, I, S, h⟩ := q
  simp only [exec] at h
  cases e1 : fr[i]? with
  | none => rw [e1] at h; exact absurd h id
  | some s =>
    rw [e1] at h
    cases s with
    | lst xs =>
      obtain ⟨b, vs, g1, g2, g3, g4⟩ := lst_at S e1
      refine ⟨_, g1, .inl ⟨rfl, _, .of g2⟩, ?_⟩
      refine te.imp (stm_te S h) ?_
      rintro v H1 ⟨⟨d, k⟩, I1, G1, y, S1, r1, hh⟩
      cases d with
      | lst ys =>
        obtain ⟨c, us, rfl, u1, u2⟩ := r1.lst S1
        obtain ⟨b', vs', k1, k2, k3, k4⟩ := lst_at S1 e1
        have : b = b' := by rw [g1] at k1; exact V.ref.inj (Option.some.inj (Option.some.inj k1))
        subst this
        cases hl : decide (xs.length + ys.length ≤ lim) with
        | false => simp only [hl] at hh; exact absurd hh id
        | true =>
          simp only [hl] at hh
          obtain ⟨x3, S3⟩ := set_lst y.s S1 e1 g1 k4 k2 (k3.append u2)
          refine ⟨b, c, vs', us, rfl, rfl, k2, u1, ?_, hh _ G1 _ x3 S3⟩
          rw [k3.length, u2.length, ← lim_eq]; exact of_decide_eq_true hl
      | _ => exact absurd hh id
    | _ => exact absurd h id
/-! ### loops -/
theorem XRel.at {r : Xr} (x : Ext ro G H G1 H1) (S1 : Sx L.c ro G1 fr I1 σ H1) (hr : ro' = ro ∨ ro' = true ∧ r.keeps I1) (h : XRel L W ro G H E r) : XRel L W ro' G1 H1 E r := by
  rcases hr with rfl | ⟨rfl, hk⟩
  · exact h.on x.s
  · have h := h.on x.s
    cases r with
    | nx fr' I' => obtain rfl : I' = I1 := hk; exact fun σ' G' H' y S => h σ' G' H' (y.weak ro) (S1.strongS y S)
    | bk fr' I' => obtain rfl : I' = I1 := hk; exact fun σ' G' H' y S => h σ' G' H' (y.weak ro) (S1.strongS y S)
    | ct fr' I' => obtain rfl : I' = I1 := hk; exact fun σ' G' H' y S => h σ' G' H' (y.weak ro) (S1.strongS y S)
    | rt s I' => obtain rfl : I' = I1 := hk; exact fun v fr' σ' G' H' y S q => h v fr' σ' G' H' (y.weak ro) (S1.strongS y S) q
    | exc e fr' I' => obtain rfl : I' = I1 := hk; exact fun cls d σ' G' H' y S q => h cls d σ' G' H' (y.weak ro) (S1.strongS y S) q
    | bad => exact h
theorem ts_for {tg : Tg} {it : Tm} {body : Sm} {K : PySem.W.Frag} (h : tS L W (.for tg it body) E σ H) : tFor (ti L W it) (gA K tg) (tS L W body) E σ H := by
  obtain ⟨ro, G, fr, I, S, h⟩ := h
  simp only [exec] at h
  obtain ⟨ro2, G2, fr2, I2, S2, h2⟩ := stm_ti S h
  refine ⟨ro2, G2, fr2, I2, S2, h2.imp (fun _ _ _ _ r => r) ?_⟩
  rintro J H1 ⟨p, I1, G1, x, S1, wk, h1, _⟩
  cases ho : decide (p.2 = .own) with
  | true => rw [ho] at h1; exact absurd h1 id
  | false =>
  rw [ho, cond_false] at h1
  have ho := of_decide_eq_false ho
  obtain ⟨src, Gd, Y, w, w1, w2, w3⟩ := wk
  generalize hro : (ro || isInst p.2) = ro' at h1
  have S1' : Sx L.c ro' G1 fr I1 σ H1 := by
    cases ro' with
    | false => simp only [Bool.or_eq_false_iff] at hro; rw [hro.1] at S1; exact S1
    | true => cases ro with
      | true => exact S1
      | false => exact S1.weak true
  have h1 : XRel L W ro' G1 H1 E (forL (fun fr I => exec L.cn L.cf body ro' fr I) tg p.1 fr I1) := by
    refine XRel.at x S1 ?_ h1
    cases ro' with
    | true => exact .inr ⟨rfl, keeps_forL (fun fr => exec_keeps body fr I1) _ _⟩
    | false =>
      simp only [Bool.or_eq_false_iff] at hro
      exact .inl hro.1.symm
  have srcK : ∀ {Gc : Gh} {Hc : Hp}, ExtS ro' G1 H1 Gc Hc → ∀ a ∈ src, Kp H1 Hc a := fun y a ha o e t => y.keep a o e (by
    rcases (w1 a ha).2.1 with z | z
    · left; rw [← hro, z]; simp [isInst]
    · exact .inr z) ((w1 a ha).2.2.resolve_left ho) t
  refine for_it w (fun j σc Hc => ∃ (Gc : Gh) (frc : Fr) (Ic : Is), ExtS ro' G1 H1 Gc Hc ∧ Sx L.c ro' Gc frc Ic σc Hc ∧ XRel L W ro' G1 H1 E (forL (fun fr I => exec L.cn L.cf body ro' fr I) tg (p.1.drop j) frc Ic)) ?_ ?_ ?_ ?_
  · exact ⟨G1, fr, I1, .refl, S1', h1⟩
  · rintro j σc Hc _ ⟨Gc, frc, Ic, y, _, _⟩
    exact w2 Gc Hc y.F y.M (srcK y)
  · rintro j v σc Hc H' hj ⟨Gc, frc, Ic, y, Sc, hr⟩ hy
    obtain ⟨d, hd, yl⟩ := w3 j v Hc H' Gc hj y.F y.M (srcK y) hy
    obtain ⟨G3, y3, S3, r3⟩ : ∃ G3, ExtS ro' G1 H1 G3 H' ∧ Sx L.c ro' G3 frc Ic σc H' ∧ RV G3.F G3.M v d := by
      rcases yl with ⟨rfl, r⟩ | ⟨T, ws, es, rfl, hT, rfl, rfl, r⟩
      · exact ⟨Gc, y, Sc, r⟩
      · exact ⟨Gc.put T (.tup ws), (y.trans (Ext.new hT).s).put (.inl (y.dom _ hT)) (Sc.notF hT), (Sc.new hT).freeze trivial (.inl upd_same) (Sc.notFr hT) (Sc.notIs hT) (Sc.notF hT), .tup upd_same (r.mono (put_mono (Sc.notF hT)) (List.prefix_refl _))⟩
    have hdrop : p.1.drop j = d :: p.1.drop (j + 1) := by
      obtain ⟨hj2, e⟩ := List.getElem?_eq_some_iff.mp hd
      rw [List.drop_eq_getElem_cons hj2, e]
    rw [hdrop] at hr
    unfold forL at hr
    cases ea : asgT tg d frc with
    | none => rw [ea] at hr; exact absurd hr id
    | some fr' =>
      rw [ea] at hr
      simp only at hr
      refine gA_run S3 r3 ea fun σ' bs fb sb _ => ?_
      have S4 : Sx L.c ro' { G3 with aF := bs } fr' Ic σ' H' := S3.frame fb sb
      have y4 := y3.frame (bs := bs) fun a ha => y3.aF a (sb.subset ha)
      refine ⟨ro', _, fr', Ic, S4, ?_⟩
      cases eb : exec L.cn L.cf body ro' fr' Ic with
      | nx fr5 I5 => rw [eb] at hr; exact fun σ5 G5 H5 z S5 => ⟨G5, fr5, I5, y4.trans z, S5, hr⟩
      | ct fr5 I5 => rw [eb] at hr; exact fun σ5 G5 H5 z S5 => ⟨G5, fr5, I5, y4.trans z, S5, hr⟩
      | bk fr5 I5 => rw [eb] at hr; exact fun σ5 G5 H5 z S5 => hr σ5 G5 H5 (y4.trans z) S5
      | rt s I5 => rw [eb] at hr; exact fun v5 fr5 σ5 G5 H5 z S5 q => hr v5 fr5 σ5 G5 H5 (y4.trans z) S5 (q.on y4)
      | exc e5 fr5 I5 => rw [eb] at hr; exact fun cls d5 σ5 G5 H5 z S5 q => hr cls d5 σ5 G5 H5 (y4.trans z) S5 q
      | bad => rw [eb] at hr; exact hr
  · rintro σc Hc ⟨Gc, frc, Ic, y, Sc, hr⟩
    rw [List.drop_length] at hr
    exact hr σc Gc Hc y Sc
theorem ts_whl {n : Nat} {c : Tm} {body : Sm} (h : tS L W (.whl n c body) E σ H) : tWhile (tt L W c) (tS L W body) E σ H := by
  obtain ⟨ro, G, fr, I, S, h⟩ := h
  simp only [exec] at h
  refine ⟨fun m σ' H' => ∃ G' fr' I', Sx L.c ro G' fr' I' σ' H' ∧ XRel L W ro G' H' E (whlL (fun fr I => (ev L.cn L.cf c ro fr I).tst fun t I => .ok t I) (fun fr I => exec L.cn L.cf body ro fr I) m fr' I'), ⟨n, G, fr, I, S, h⟩, ?_⟩
  rintro m σ1 H1 ⟨G1, fr1, I1, S1, h1⟩
  cases m with
  | zero => exact absurd h1 id
  | succ m =>
    unfold whlL at h1
    refine tt.imp (stm_tt S1 h1) ?_
    rintro b H2 ⟨I2, G2, x, S2, h2⟩
    cases b with
    | false => rw [if_neg Bool.false_ne_true]; exact h2 _ G2 H2 x.s S2
    | true =>
      rw [if_pos rfl]
      rw [cond_true] at h2
      refine ⟨_, fun σ' H' w => ⟨m, Nat.lt_succ_self m, w⟩, ro, G2, fr1, I2, S2, ?_⟩
      have h2 := h2.on x.s
      cases eb : exec L.cn L.cf body ro fr1 I2 with
      | nx fr5 I5 => rw [eb] at h2; exact fun σ5 G5 H5 z S5 => ⟨G5, fr5, I5, S5, h2.on z⟩
      | ct fr5 I5 => rw [eb] at h2; exact fun σ5 G5 H5 z S5 => ⟨G5, fr5, I5, S5, h2.on z⟩
      | bk fr5 I5 => rw [eb] at h2; exact fun σ5 G5 H5 z S5 => h2 σ5 G5 H5 z S5
      | rt s I5 => rw [eb] at h2; exact fun v5 fr5 σ5 G5 H5 z S5 q => h2 v5 fr5 σ5 G5 H5 z S5 q
      | exc e5 fr5 I5 => rw [eb] at h2; exact fun cls d5 σ5 G5 H5 z S5 q => h2 cls d5 σ5 G5 H5 z S5 q
      | bad => rw [eb] at h2; exact h2
/-! ### the main theorem -/
theorem ts_seq {s r : Sm} (h : tS L W (.cons s r) E σ H) : tSeq (tS L W s) (tS L W r) E σ H := by
  obtain ⟨ro, G, fr, I, S, h⟩ := h
  simp only [exec] at h
  refine ⟨ro, G, fr, I, S, ?_⟩
  cases e : exec L.cn L.cf s ro fr I with
  | nx fr1 I1 =>
    rw [e] at h
    exact fun σ1 G1 H1 x S1 => ⟨ro, G1, fr1, I1, S1, XRel.on x h⟩
  | bk fr1 I1 => rw [e] at h; exact h
  | ct fr1 I1 => rw [e] at h; exact h
  | rt s I1 => rw [e] at h; exact h
  | exc x fr1 I1 => rw [e] at h; exact h
  | bad => rw [e] at h; exact h
theorem ts_frz {i : Nat} {r : Sm} (h : tS L W (.cons (.frz i) r) E σ H) : tS L W r E σ H := by
  obtain ⟨ro, G, fr, I, S, h⟩ := h
  simp only [exec] at h
  cases e : fr[i]? with
  | none => rw [e] at h; exact ⟨ro, G, fr, I, S, h⟩
  | some s =>
    rw [e] at h
    cases e2 : frzS s with
    | none => simp only [e2] at h; exact ⟨ro, G, fr, I, S, h⟩
    | some d =>
      simp only [e2] at h
      rcases frzS_inn e2 with z | z
      · subst z
        have : fr.set i (.val d) = fr := by
          obtain ⟨hl, e3⟩ := List.getElem?_eq_some_iff.mp e
          rw [← e3, List.set_getElem_self]
        rw [this] at h
        exact ⟨ro, G, fr, I, S, h⟩
      · obtain ⟨G1, x, S1⟩ := frz_slot S e z
        exact ⟨ro, G1, _, I, S1, XRel.on x h⟩
theorem out_inn {s : Sl} {p : D × Kd} (h : s.out = some p) : (∃ d, s = .val d) ∨ Sl.inn p.1 = some s := by
  cases s <;> simp only [Sl.out, reduceCtorEq, Option.some.injEq] at h <;> subst h
  · exact .inl ⟨_, rfl⟩
  · exact .inr rfl
  · exact .inr rfl
  · exact .inr rfl
theorem ts_retOwn {i : Nat} (h : tS L W (.retOwn i) E σ H) : tRet (tVar i) E σ H := by
  obtain ⟨ro, G, fr, I, S, h⟩ := h
  simp only [exec] at h
  cases e : fr[i]? with
  | none => rw [e] at h; exact absurd h id
  | some s =>
    rw [e] at h
    obtain ⟨ov, bs, h1, h2, h3⟩ := S.fr.at_ e
    cases s with
    | no => exact absurd h id
    | val d =>
      obtain ⟨_, v, rfl, r⟩ := h2
      exact ⟨v, h1, h v fr σ G H .refl S r⟩
    | lst xs =>
      obtain ⟨a, rfl, rfl, r⟩ := h2
      have ha := h3 a (by simp)
      exact ⟨_, h1, h _ fr σ G H .refl S ⟨a, rfl, r, S.sep a (List.mem_append_left _ ha), fun z => (List.nodup_append.mp S.nd).2.2 a ha a z rfl, .inl ha⟩⟩
    | dK ks xs =>
      obtain ⟨a, rfl, rfl, r⟩ := h2
      have ha := h3 a (by simp)
      exact ⟨_, h1, h _ fr σ G H .refl S ⟨a, rfl, r, S.sep a (List.mem_append_left _ ha), fun z => (List.nodup_append.mp S.nd).2.2 a ha a z rfl, .inl ha⟩⟩
    | dT ks xs =>
      obtain ⟨a, rfl, rfl, r⟩ := h2
      have ha := h3 a (by simp)
      exact ⟨_, h1, h _ fr σ G H .refl S ⟨a, rfl, r, S.sep a (List.mem_append_left _ ha), fun z => (List.nodup_append.mp S.nd).2.2 a ha a z rfl, .inl ha⟩⟩
theorem ts_ret {e : Tm} (h : tS L W (.ret e) E σ H) : tRet (te L W e) E σ H := by
  obtain ⟨ro, G, fr, I, S, h⟩ := h
  simp only [exec] at h
  refine te.imp (stm_te S h) ?_
  rintro v H1 ⟨p, I1, G1, x, S1, r1, hx⟩
  cases q : stoK true p with
  | none => rw [q] at hx; exact absurd hx id
  | some s =>
    rw [q] at hx
    refine hx v fr σ G1 H1 x.s S1 ?_
    cases r1 with
    | fro r => cases q; exact r
    | own e1 h m => cases q
    | inst e1 h m => cases q
    | cst => cases q
    | new e1 hs h0 k1 k2 k3 =>
      rename_i d s' a
      have e2 : Sl.inn d = some s := q
      rw [e1] at e2
      cases e2
      cases d <;> simp only [Sl.inn, reduceCtorEq, Option.some.injEq] at e1 <;> subst e1 <;> exact ⟨a, rfl, hs, k1, k3, .inr h0⟩
theorem ts_forR {tg : Tg} {it c : Tm} {r : Cs} {K : PySem.W.Frag} (h : tS L W (.forR tg it c r) E σ H) : tFor (ti L W it) (gA K tg) (tIfS (tt L W c) (tRet (te L W (.cns r))) tNext) E σ H := by
  obtain ⟨ro, G, fr, I, S, h⟩ := h
  simp only [exec] at h
  obtain ⟨ro2, G2, fr2, I2, S2, h2⟩ := stm_ti S h
  refine ⟨ro2, G2, fr2, I2, S2, h2.imp (fun _ _ _ _ r => r) ?_⟩
  rintro J H1 ⟨p, I1, G1, x, S1, wk, h1, _⟩
  obtain ⟨src, Gd, Y, w, w1, w2, w3⟩ := wk
  generalize hro : (ro || isInst p.2) = ro' at h1
  have S1' : Sx L.c ro' G1 fr I1 σ H1 := by
    cases ro' with
    | false => simp only [Bool.or_eq_false_iff] at hro; rw [hro.1] at S1; exact S1
    | true => cases ro with
      | true => exact S1
      | false => exact S1.weak true
  have h1 : XRel L W ro' G1 H1 E (frL (fun fr I => (ev L.cn L.cf c ro' fr I).tst fun t I => .ok t I) r.d tg p.1 fr I1) := by
    refine XRel.at x S1 ?_ h1
    cases ro' with
    | true => exact .inr ⟨rfl, keeps_frL (fun fr => keeps_tst ((ev_keeps c).1 _ _)) _ _⟩
    | false =>
      simp only [Bool.or_eq_false_iff] at hro
      exact .inl hro.1.symm
  have notI : ∀ {Gc : Gh} {Hc : Hp}, ExtS ro' G1 H1 Gc Hc → ∀ a ∈ src, ro' = true ∨ a ∉ Gc.aI := fun y a ha => by
    rcases (w1 a ha).2.1 with z | z
    · left; rw [← hro, z]; simp [isInst]
    · refine .inr fun q => ?_
      rcases y.aI a q with q | q
      · exact z q
      · exact (w1 a ha).1 q
  refine for_it w (fun j σc Hc => ∃ (Gc : Gh) (frc : Fr) (Ic : Is), ExtS ro' G1 H1 Gc Hc ∧ (∀ a ∈ src, Kp H1 Hc a) ∧ Sx L.c ro' Gc frc Ic σc Hc ∧ XRel L W ro' Gc Hc E (frL (fun fr I => (ev L.cn L.cf c ro' fr I).tst fun t I => .ok t I) r.d tg (p.1.drop j) frc Ic)) ?_ ?_ ?_ ?_
  · exact ⟨G1, fr, I1, .refl, fun a _ o e _ => e, S1', h1⟩
  · rintro j σc Hc _ ⟨Gc, frc, Ic, y, kp, _, _⟩
    exact w2 Gc Hc y.F y.M kp
  · rintro j v σc Hc H' hj ⟨Gc, frc, Ic, y, kp, Sc, hr⟩ hy
    obtain ⟨d, hd, yl⟩ := w3 j v Hc H' Gc hj y.F y.M kp hy
    obtain ⟨G3, y3, zc, S3, r3, kp3⟩ : ∃ G3, ExtS ro' G1 H1 G3 H' ∧ ExtS ro' Gc Hc G3 H' ∧ Sx L.c ro' G3 frc Ic σc H' ∧ RV G3.F G3.M v d ∧ (∀ a ∈ src, Kp H1 H' a) := by
      rcases yl with ⟨rfl, r⟩ | ⟨T, ws, es, rfl, hT, rfl, rfl, r⟩
      · exact ⟨Gc, y, .refl, Sc, r, kp⟩
      · refine ⟨Gc.put T (.tup ws), (y.trans (Ext.new hT).s).put (.inl (y.dom _ hT)) (Sc.notF hT), ((Ext.new hT).s).put (.inl hT) (Sc.notF hT), (Sc.new hT).freeze trivial (.inl upd_same) (Sc.notFr hT) (Sc.notIs hT) (Sc.notF hT), .tup upd_same (r.mono (put_mono (Sc.notF hT)) (List.prefix_refl _)), fun a ha o e t => ?_⟩
        have q := kp a ha o e t
        rw [upd_ne (by rintro rfl; rw [hT] at q; cases q)]
        exact q
    have hdrop : p.1.drop j = d :: p.1.drop (j + 1) := by
      obtain ⟨hj2, e⟩ := List.getElem?_eq_some_iff.mp hd
      rw [List.drop_eq_getElem_cons hj2, e]
    rw [hdrop] at hr
    unfold frL at hr
    cases ea : asgT tg d frc with
    | none => rw [ea] at hr; exact absurd hr id
    | some fr' =>
      rw [ea] at hr
      simp only at hr
      refine gA_run S3 r3 ea fun σ' bs fb sb _ => ?_
      have S4 : Sx L.c ro' { G3 with aF := bs } fr' Ic σ' H' := S3.frame fb sb
      have y4 := y3.frame (bs := bs) fun a ha => y3.aF a (sb.subset ha)
      have z4 := zc.frame (bs := bs) fun a ha => zc.aF a (sb.subset ha)
      refine tt.imp (stm_tt S4 (hr.on z4)) ?_
      rintro t H2 ⟨I2, G5, x5, S5, h5⟩
      have y5 := y4.trans x5.s
      cases t with
      | true =>
        rw [if_pos rfl]
        rw [cond_true] at h5
        exact ts_ret ⟨ro', G5, fr', I2, S5, fun v6 fr6 σ6 G6 H6 z S6 q => h5 v6 fr6 σ6 G6 H6 (x5.s.trans z) S6 (q.on x5.s)⟩
      | false =>
        rw [if_neg Bool.false_ne_true]
        rw [cond_false] at h5
        refine ⟨G5, fr', I2, y5, fun a ha o e t => x5.keep a o (kp3 a ha o e t) (notI y4 a ha) t, S5, ?_⟩
        exact h5.on x5.s
  · rintro σc Hc ⟨Gc, frc, Ic, y, kp, Sc, hr⟩
    rw [List.drop_length] at hr
    exact hr σc Gc Hc .refl Sc
structure MainS (L : Lg) (s : Sm) : Prop where
  st : ∀ {X : Cx} {W : WX} {fb : Str → Bool} {st : Stmt}, Good L X W → (∀ x, fb x = true → X.fn x = true) → chkS L.kn fb s X.env.scope X.N st = true → PS X st (tS L W s)
  b : ∀ {X : Cx} {W : WX} {fb : Str → Bool} {sts : List Stmt}, Good L X W → (∀ x, fb x = true → X.fn x = true) → chkB L.kn fb s X.env.scope X.N sts = true → PSs X sts (tS L W s)
theorem MainS.one {s : Sm} (h : ∀ {X : Cx} {W : WX} {fb : Str → Bool} {st : Stmt}, Good L X W → (∀ x, fb x = true → X.fn x = true) → chkS L.kn fb s X.env.scope X.N st = true → PS X st (tS L W s)) (hb : ∀ fb sc N sts, chkB L.kn fb s sc N sts = false := by intros; rfl) : MainS L s :=
  ⟨h, fun _ _ h => (by rw [hb] at h; cases h)⟩
theorem stm_all : ∀ s : Sm, MainS L s := by
  intro s
  induction s with
  | nil =>
    refine ⟨fun g hf h => (by cases h), fun {X W fb sts} g hf h => ?_⟩
    cases sts with
    | nil => exact PSs.imp pss_nil fun D σ H ⟨ro, G, fr, I, S, h⟩ => h σ G H .refl S
    | cons st sts => cases h
  | cons s r ihs ihr =>
    refine ⟨fun g hf h => (by cases h), fun {X W fb sts} g hf h => ?_⟩
    unfold chkB at h
    split at h <;> first | (rename_i heq; cases heq; done) | (cases h; done) | skip
    · rename_i heq; cases heq
      exact PSs.imp (ihr.b g hf h) fun D σ H q => ts_frz q
    · rename_i heq; cases heq
      rw [Bool.and_eq_true] at h
      exact PSs.imp (pss_cons (ihs.st g hf h.1) (ihr.b g hf h.2)) fun D σ H q => ts_seq q
  | pass =>
    refine .one fun {X W fb st} g hf h => ?_
    unfold chkS at h
    split at h <;> first | (rename_i heq; cases heq; done) | (cases h; done) | skip
    · exact PS.imp ps_pass fun D σ H ⟨ro, G, fr, I, S, h⟩ => h σ G H .refl S
    · exact PS.imp ps_doc fun D σ H ⟨ro, G, fr, I, S, h⟩ => h σ G H .refl S
  | asg i e =>
    refine .one fun {X W fb st} g hf h => ?_
    unfold chkS at h
    split at h <;> first | (rename_i heq; cases heq; done) | (cases h; done) | skip
    rename_i heq; cases heq
    simp only [Bool.and_eq_true] at h
    exact PS.imp (ps_asgA g hf h.1.1.1 h.1.1.2 h.1.2 h.2) fun D σ H q => ts_asg q
  | own i e =>
    refine .one fun {X W fb st} g hf h => ?_
    unfold chkS at h
    split at h <;> first | (rename_i heq; cases heq; done) | (cases h; done) | skip
    rename_i heq; cases heq
    simp only [Bool.and_eq_true] at h
    exact PS.imp (ps_asgA g hf h.1.1.1 h.1.1.2 h.1.2 h.2) fun D σ H q => ts_own q
  | par tg es =>
    refine .one fun {X W fb st} g hf h => ?_
    unfold chkS at h
    split at h <;> first | (rename_i heq; cases heq; done) | (cases h; done) | skip
    rename_i heq; cases heq
    simp only [Bool.and_eq_true, Bool.or_eq_true] at h
    exact ps_parA g hf h.1.1 h.1.2 h.2
  | unp tg e =>
    refine .one fun {X W fb st} g hf h => ?_
    unfold chkS at h
    split at h <;> first | (rename_i heq; cases heq; done) | (cases h; done) | skip
    rename_i heq; cases heq
    simp only [Bool.and_eq_true] at h
    exact ps_unpA g hf h.1.1.1 h.1.1.2 h.1.2 h.2
  | app i e =>
    refine .one fun {X W fb st} g hf h => ?_
    unfold chkS at h
    split at h <;> first | (rename_i heq; cases heq; done) | (cases h; done) | skip
    rename_i heq; cases heq
    simp only [Bool.and_eq_true, decide_eq_true_eq] at h
    obtain ⟨⟨⟨⟨rfl, h1⟩, h2⟩, h3⟩, h4⟩ := h
    exact ps_appA g h1 h2 h3 h4
  | ext i e =>
    refine .one fun {X W fb st} g hf h => ?_
    unfold chkS at h
    split at h <;> first | (rename_i heq; cases heq; done) | (cases h; done) | skip
    rename_i heq; cases heq
    simp only [Bool.and_eq_true, decide_eq_true_eq] at h
    obtain ⟨⟨⟨⟨rfl, h1⟩, h2⟩, h3⟩, h4⟩ := h
    exact ps_extA g h1 h2 h3 h4
  | rem i e =>
    refine .one fun {X W fb st} g hf h => ?_
    unfold chkS at h
    split at h <;> first | (rename_i heq; cases heq; done) | (cases h; done) | skip
    rename_i heq; cases heq
    simp only [Bool.and_eq_true, decide_eq_true_eq] at h
    obtain ⟨⟨⟨⟨rfl, h1⟩, h2⟩, h3⟩, h4⟩ := h
    exact ps_remA g h1 h2 h3 h4
  | expr e =>
    refine .one fun {X W fb st} g hf h => ?_
    unfold chkS at h
    split at h <;> first | (rename_i heq; cases heq; done) | (cases h; done) | skip
    rename_i heq; cases heq
    rw [Bool.and_eq_true] at h
    refine PS.imp (ps_expr ((main_all e).e g h.1).1 (sw_no h.2)) fun D σ H q => ?_
    obtain ⟨ro, G, fr, I, S, q⟩ := q
    simp only [exec] at q
    refine te.imp (stm_te S q) ?_
    rintro v H1 ⟨p, I1, G1, x, S1, r1, h1⟩
    exact h1 σ G1 H1 x.s S1
  | iff c a b iha ihb =>
    refine .one fun {X W fb st} g hf h => ?_
    unfold chkS at h
    split at h <;> first | (rename_i heq; cases heq; done) | (cases h; done) | skip
    rename_i heq; cases heq
    simp only [Bool.and_eq_true] at h
    refine PS.imp (ps_if ((main_all c).e g h.1.1).2.1 (iha.b g hf h.1.2) (ihb.b g hf h.2)) fun D σ H q => ?_
    obtain ⟨ro, G, fr, I, S, q⟩ := q
    simp only [exec] at q
    refine tt.imp (stm_tt S q) ?_
    rintro t H1 ⟨I1, G1, x, S1, h1⟩
    cases t with
    | true => rw [if_pos rfl]; exact ⟨ro, G1, fr, I1, S1, XRel.on x.s h1⟩
    | false => rw [if_neg Bool.false_ne_true]; exact ⟨ro, G1, fr, I1, S1, XRel.on x.s h1⟩
  | «for» tg it body ih =>
    refine .one fun {X W fb st} g hf h => ?_
    unfold chkS at h
    split at h <;> first | (rename_i heq; cases heq; done) | (cases h; done) | skip
    rename_i heq; cases heq
    simp only [Bool.and_eq_true] at h
    exact PS.imp (ps_for g.po g.calm ((main_all it).i g h.1.1.1) (pg_A g.calm g.nd hf h.1.1.2) (ih.b g hf h.2) (fold_of h.1.2 _)) fun D σ H q => ts_for q
  | forR tg it c r =>
    refine .one fun {X W fb st} g hf h => ?_
    unfold chkS at h
    split at h <;> first | (rename_i heq; cases heq; done) | (cases h; done) | skip
    rename_i heq; cases heq
    simp only [Bool.and_eq_true] at h
    exact PS.imp (ps_for g.po g.calm ((main_all it).i g h.1.1.1.1) (pg_A g.calm g.nd hf h.1.1.1.2) (pss_one (ps_if ((main_all c).e g h.1.2).2.1 (pss_one (ps_ret ((main_all (.cns r)).e g h.2).1)) pss_nil)) (fold_of h.1.1.2 _)) fun D σ H q => ts_forR q
  | whl n c body ih =>
    refine .one fun {X W fb st} g hf h => ?_
    unfold chkS at h
    split at h <;> first | (rename_i heq; cases heq; done) | (cases h; done) | skip
    rename_i heq; cases heq
    rw [Bool.and_eq_true] at h
    exact PS.imp (ps_while g.po ((main_all c).e g h.1).2.1 (ih.b g hf h.2)) fun D σ H q => ts_whl q
  | ret e =>
    refine .one fun {X W fb st} g hf h => ?_
    unfold chkS at h
    split at h <;> first | (rename_i heq; cases heq; done) | (cases h; done) | skip
    · rename_i heq; cases heq
      exact PS.imp ps_retN fun D σ H ⟨ro, G, fr, I, S, h⟩ => h .non fr σ G H .refl S .non
    · rename_i heq; cases heq
      exact PS.imp (ps_ret ((main_all _).e g h).1) fun D σ H q => ts_ret q
  | retOwn i =>
    refine .one fun {X W fb st} g hf h => ?_
    unfold chkS at h
    split at h <;> first | (rename_i heq; cases heq; done) | (cases h; done) | skip
    rename_i heq; cases heq
    exact PS.imp (ps_ret (vn_of h)) fun D σ H q => ts_retOwn q
  | rais c =>
    refine .one fun {X W fb st} g hf h => ?_
    unfold chkS at h
    split at h <;> first | (rename_i heq; cases heq; done) | (cases h; done) | skip
    rename_i heq; cases heq
    simp only [Bool.and_eq_true, decide_eq_true_eq] at h
    obtain ⟨⟨rfl, h1⟩, h2⟩ := h
    obtain ⟨C, e1, e2, e3, e4⟩ := g.xc _ h2
    refine PS.imp (L2N.ps_raise g.calm g.tk (L2N.pmk_own (bmB := He.veBase) PySem.F.excBase_ValueError (g.K ▸ e2) (g.mg ▸ e1) (g.K ▸ e3) e4 (gl_of h1).1 (gl_of h1).2)) fun D σ H q => ?_
    obtain ⟨ro, G, fr, I, S, q⟩ := q
    exact q _ _ σ G H .refl S ⟨e1, .inl ⟨rfl, rfl⟩⟩
  | bk =>
    refine .one fun {X W fb st} g hf h => ?_
    unfold chkS at h
    split at h <;> first | (rename_i heq; cases heq; done) | (cases h; done) | skip
    exact PS.imp ps_break fun D σ H ⟨ro, G, fr, I, S, h⟩ => h σ G H .refl S
  | ct =>
    refine .one fun {X W fb st} g hf h => ?_
    unfold chkS at h
    split at h <;> first | (rename_i heq; cases heq; done) | (cases h; done) | skip
    exact PS.imp ps_continue fun D σ H ⟨ro, G, fr, I, S, h⟩ => h σ G H .refl S
  | frz i =>
    refine .one fun {X W fb st} g hf h => ?_
    unfold chkS at h
    cases h
end
end Air
/-! Air: defs, the law. -/
namespace Air
open PySem PySem.Spec PyProof.Rows L2
/-- a def of the row, as its own text says -/
def knB (lam : Bool) (kn : Str → Option (Nat × Nat)) : Str → Option (Nat × Nat) := bif lam then kn else knO kn
theorem knB_kn {lam : Bool} {kn : Str → Option (Nat × Nat)} {x : Str} {p : Nat × Nat} (h : knB lam kn x = some p) : kn x = some p := by
  cases lam with
  | true => exact h
  | false =>
    have h : (if x = "<lambda>" then none else kn x) = some p := h
    split at h
    · cases h
    · exact h
theorem knB_no {kn : Str → Option (Nat × Nat)} (p : Nat × Nat) : ¬ knB false kn "<lambda>" = some p := by
  intro h
  have h : (if ("<lambda>" : Str) = "<lambda>" then none else kn "<lambda>") = some p := h
  rw [if_pos rfl] at h; cases h
structure DefOk [Kf] (kn : Str → Option (Nat × Nat)) (mg : Str → Option Value) (cs : List (Addr × Addr)) (T : List (Addr × Str)) (x : Str) (f : Addr) (fdt : FuncData) (N ps : List Str) (dvs : List V) (dfl : List D) (fd : Fd) : Prop where
  at_ : mg x = some (.ref f)
  F : ∃ (nm qual : Str) (params : Arguments) (body : List Stmt) (sc : Scope) (fb : Str → Bool) (lam : Bool), FunD Kf.K nm qual params body sc dvs [] f fdt ∧ FnScope N ps sc ∧ chkB (knB lam kn) fb fd.body sc N body = true ∧
    (lam = true → ∃ cc P, fdt.code = .ref cc ∧ (cc, P) ∈ cs ∧ (P, qual ++ ".<locals>." ++ "<lambda>") ∈ T ∧ ∀ p ∈ T, p.1 = P → p.2 = qual ++ ".<locals>." ++ "<lambda>")
  nl : N.length = fd.nl
  np : ps.length = fd.np
  dv : RVs (fun _ => none) [] dvs dfl
  dl : dfl.length ≤ ps.length
  df : fd.dfl = dfl
  bd : ∀ m, m ≤ dvs.length → ∃ ds, Binds Kf.K fdt ps ds ∧ Vals (dvs.drop (dvs.length - m)) ds
section
variable [Kf] {L : Lg} {W : WX} {X : Cx} {ro ro' : Bool} {G G1 G2 : Gh} {H H1 H2 : Hp} {σ σ1 : St} {fr fr1 : Fr} {I I1 : Is}
theorem fr_none {F : Hp} {M : List (Addr × Addr)} : ∀ m, FrR F M H (List.replicate m none) (List.replicate m .no) []
  | 0 => .nil
  | m + 1 => .cons (as := []) (s := .no) rfl (fr_none m)
theorem fr_start {F : Hp} {M : List (Addr × Addr)} (m : Nat) : ∀ {vs : List V} {ds : List D}, RVs F M vs ds → FrR F M H (vs.map some ++ List.replicate m none) (ds.map Sl.val ++ List.replicate m .no) []
  | _, _, .nil => fr_none m
  | _, _, .cons r rs => .cons (as := []) ⟨rfl, _, rfl, r⟩ (fr_start m rs)
theorem ExtS.drop (h : G.aF = []) (x : ExtS ro G H G1 H1) : Ext ro G H { G1 with aF := [] } H1 :=
  ⟨fun a o e k t => x.keep a o e k (by rw [h]; simp) t, x.dom, x.F, fun a u e => (x.Fn a u e).imp id fun z => z.elim id fun z => by rw [h] at z; simp at z, h.symm, x.aI, x.M, x.ro⟩
theorem Sx.drop (S : Sx L.c ro G fr I σ H) : Sx L.c ro { G with aF := [] } [] I [] H := S.frame .nil (List.nil_sublist _)
/-- the language at a depth -/
def lgN (Γ : Gm) (kn : Str → Option (Nat × Nat)) (c : Cfg) (mg : Str → Option Value) (n : Nat) : Lg := ⟨Γ.cn, kn, callN Γ n, c, mg⟩
def bodyN (Γ : Gm) (n : Nat) (fd : Fd) : Bool → List D → Is → R Sl := fun ro vs I => runB (exec Γ.cn (callN Γ n) fd.body ro (vs.map Sl.val ++ List.replicate (fd.nl - fd.np) .no) I)
theorem rt_rk {s : Sl} {v : V} {p : D × Kd} (hF : G.aF = []) (h : RtR G H G1 H1 s v) (e : s.out = some p) : Rk L H { G1 with aF := [] } H1 p v := by
  cases s with
  | no => cases e
  | val d => cases e; exact .fro h
  | lst xs =>
    cases e
    obtain ⟨a, rfl, h1, h2, h3, h4⟩ := h
    exact .new (s := .lst xs) rfl h1 (h4.resolve_left (by rw [hF]; simp)) h2 (by simp) h3
  | dK ks xs =>
    cases e
    obtain ⟨a, rfl, h1, h2, h3, h4⟩ := h
    exact .new (s := .dK ks xs) rfl h1 (h4.resolve_left (by rw [hF]; simp)) h2 (by simp) h3
  | dT ks xs =>
    cases e
    obtain ⟨a, rfl, h1, h2, h3, h4⟩ := h
    exact .new (s := .dT ks xs) rfl h1 (h4.resolve_left (by rw [hF]; simp)) h2 (by simp) h3
/-- a body's run, from its promise -/
theorem run_body {n : Nat} {np : Nat} {s : Sm} {g : Bool → List D → Is → R Sl} {N : List Str} {nl : Nat} {vs : List V} {Q : VK} {E : XK} (hl : N.length = nl) (hg : ∀ ro ds I, g ro ds I = runB (exec L.cn L.cf s ro (ds.map Sl.val ++ List.replicate (nl - np) .no) I)) (h : spF L np g vs H Q E) :
    tS L (fun cls d _ H => E cls d H) s { nx := fun _ H' => Q .non H', rt := Q } (L2.start N vs) H := by
  obtain ⟨hlen, ro, G, I, ds, haF, S, rv, hm⟩ := h
  rw [hg] at hm
  have hst : L2.start N vs = vs.map some ++ List.replicate (nl - np) none := by unfold L2.start; rw [hl, hlen]
  have hfr : FrR G.F G.M H (L2.start N vs) (ds.map Sl.val ++ List.replicate (nl - np) .no) [] := by rw [hst]; exact fr_start _ rv
  have S1 : Sx L.c ro G (ds.map Sl.val ++ List.replicate (nl - np) .no) I (L2.start N vs) H := ⟨haF ▸ hfr, S.is, S.nd, S.sep, S.sub, S.fine, S.tb⟩
  refine ⟨ro, G, _, I, S1, ?_⟩
  have hk := fun (h : ro = true) => (show (exec L.cn L.cf s ro (ds.map Sl.val ++ List.replicate (nl - np) .no) I).keeps I by subst h; exact exec_keeps _ _ _)
  have keep : ∀ {I' : Is}, (ro = true → I' = I) → (bif ro then I else I') = I' := fun {I'} h => by
    cases ro with
    | false => rfl
    | true => exact (h rfl).symm
  cases e : exec L.cn L.cf s ro (ds.map Sl.val ++ List.replicate (nl - np) .no) I with
  | nx fr' I' =>
    rw [e] at hm hk
    exact fun σ' G' H' x S' => hm .non { G' with aF := [] } H' (x.drop haF) (by rw [keep hk]; exact S'.drop) fun p q => by cases q; exact .fro .non
  | rt r I' =>
    rw [e] at hm hk
    exact fun v fr' σ' G' H' x S' q => hm v { G' with aF := [] } H' (x.drop haF) (by rw [keep hk]; exact S'.drop) fun p e => rt_rk haF q e
  | exc x fr' I' =>
    rw [e] at hm hk
    exact fun cls d σ' G' H' y S' q => hm cls d { G' with aF := [] } H' (y.drop haF) (by rw [keep hk]; exact S'.drop) q
  | bk fr' I' => rw [e] at hm; exact absurd hm id
  | ct fr' I' => rw [e] at hm; exact absurd hm id
  | bad => rw [e] at hm; exact absurd hm id
variable {P : Program} {w : World} {base : Heap} {Γ : Gm} {kn : Str → Option (Nat × Nat)} {c : Cfg} {mg : Str → Option Value}
/-- what the module says of the names -/
structure ModOk (Γ : Gm) (kn : Str → Option (Nat × Nat)) (mg : Str → Option Value) (cs : List (Addr × Addr)) (T : List (Addr × Str)) : Prop where
  bi : ∀ x, x ∈ (["len", "all", "any", "sorted", "list", "tuple", "min", "max", "int", "str", "divmod", "dict", "sum", "isinstance", "range", "enumerate", "zip", "set", "bool"] : List Str) → mg x = none
  cn : ∀ x, kn x = some (0, 1) → ∃ d, Γ.cn x = some d ∧ (match d with
    | .int i => ∃ t, mg x = some (.int i t)
    | .str z => PyData.strOk z = true ∧ ∃ t, mg x = some (.str z t)
    | .tup ds => ∃ a vs, mg x = some (.ref a) ∧ (∀ H, SqT Kf.K H a vs) ∧ RVs (fun _ => none) [] vs ds
    | _ => False)
  xc : ∀ c, kn c = some (0, 3) → ∃ C, mg c = some (.ref C) ∧ PySem.W.excIn Kf.K C He.veBase "ValueError.__new__" = true ∧ PySem.W.keepIn Kf.K (.ref C) = true ∧ PySem.W.subIn Kf.K (.ref C) (.type "BaseException") = some true ∧ PySem.W.typeIn Kf.K (.ref C) = some (.type "type")
  tel : kn "_law_told" = some (0, 2) → TelD Kf.K mg "_law_told" (TTl mg tellN)
  fn : ∀ x np nd, kn x = some (np, nd) → nd ≤ np → ∃ fd f fdt N ps dvs dfl, Γ.fn x = some fd ∧ ps.length = np ∧ dfl.length = nd ∧ DefOk kn mg cs T x f fdt N ps dvs dfl fd
theorem call_if {n : Nat} {x : Str} {fd : Fd} {ps : List Str} {dfl : List D} (h : Γ.fn x = some fd) (hnp : ps.length = fd.np) (hdf : fd.dfl = dfl) (ro : Bool) (as : List D) (I : Is) :
    callN Γ (n + 1) x ro as I = if as.length ≤ ps.length ∧ ps.length ≤ as.length + dfl.length then bodyN Γ n fd ro (as ++ dfl.drop (as.length + dfl.length - ps.length)) I else .bad := by
  unfold callN
  rw [h]
  simp only [fillD, hdf, ← hnp]
  by_cases h1 : as.length ≤ ps.length ∧ ps.length ≤ as.length + dfl.length
  · rw [if_pos h1]
    simp only [decide_eq_true h1.1, decide_eq_true h1.2, Bool.and_self, cond_true]
    unfold bodyN
    rw [hnp]
  · rw [if_neg h1]
    have : (decide (as.length ≤ ps.length) && decide (ps.length ≤ as.length + dfl.length)) = false := by
      cases q : (decide (as.length ≤ ps.length) && decide (ps.length ≤ as.length + dfl.length)) with
      | false => rfl
      | true => simp only [Bool.and_eq_true, decide_eq_true_eq] at q; exact absurd q h1
    rw [this]; rfl
/-- what is known of all defs at a depth -/
def AllFn (Γ : Gm) (kn : Str → Option (Nat × Nat)) (c : Cfg) (mg : Str → Option Value) (P : Program) (w : World) (base : Heap) (n : Nat) : Prop :=
  ∀ x np nd, kn x = some (np, nd) → nd ≤ np → ∃ f fdt ps dvs dfl g, ps.length = np ∧ dfl.length = nd ∧ FnR (lgN Γ kn c mg n) P w base (4 * n) x f fdt ps dvs dfl g
theorem def_ok {cs : List (Addr × Addr)} (m : ModOk Γ kn mg cs c.Tb) (hT : ∀ p ∈ cs, LamX.TabB base mg p.1 p.2) {n : Nat} (ih : AllFn Γ kn c mg P w base n) {x : Str} {f : Addr} {fdt : FuncData} {N ps : List Str} {dvs : List V} {dfl : List D} {fd : Fd} (D : DefOk kn mg cs c.Tb x f fdt N ps dvs dfl fd) :
    FnOk P w Kf.K mg base (L2N.CX P w) (4 * (n + 1)) f fdt ps (spF (lgN Γ kn c mg (n + 1)) ps.length (bodyN Γ n fd)) := by
  obtain ⟨nm, qual, params, body, sc, fb, lam, F, S, ck, hl⟩ := D.F
  obtain ⟨oc, od, dV, kV, doc, pm, an, cdv, ct, osl, rfl, lk, hcd, _, _⟩ := F.ex
  refine fn_of (k := 4 * n + 3) lk hcd S (fun vs H Q E q => q.1) fun A outer s H vs Q E hr q => ⟨tS (lgN Γ (knB lam kn) c mg n) (fun cls d _ H => E cls d H) fd.body, ?_, ?_⟩
  · refine (stm_all fd.body).b ⟨rfl, rfl, rfl, S.nd, hr.units, L2N.takes_of rfl rfl rfl rfl, passes_of rfl, m.bi, fun x h => m.cn x (knB_kn h), fun c' h => ?_, fun h => ?_, fun h => m.tel (knB_kn h), 4 * n, hr.mono (by omega), fun _ => hr, fun x np nd h hd => ?_⟩ (fun _ _ => rfl) ck
    · obtain ⟨C, e1, e2, e3, e4, e5⟩ := m.xc c' (knB_kn h)
      exact ⟨C, e1, e2, e3, raises_own e4 e5⟩
    · cases lam with
      | false => exact absurd h (knB_no (kn := kn) _)
      | true =>
        obtain ⟨cc, Pt, e1, e2, e3, e4⟩ := hl rfl
        exact ⟨cc, Pt, hT _ e2, e1, e3, e4⟩
    · obtain ⟨f', fdt', ps', dvs', dfl', g', a1, a2, a3⟩ := ih x np nd (knB_kn h) hd
      exact ⟨f', fdt', ps', dvs', dfl', g', a1, a2, a3.kn (L := lgN Γ kn c mg n)⟩
  · have q := spF_lg (L := lgN Γ kn c mg (n + 1)) (L' := lgN Γ (knB lam kn) c mg n) rfl rfl q
    exact run_body (n := n) (nl := fd.nl) D.nl (fun ro ds I => by unfold bodyN; rw [D.np]; rfl) q
theorem fn_all {cs : List (Addr × Addr)} (m : ModOk Γ kn mg cs c.Tb) (hT : ∀ p ∈ cs, LamX.TabB base mg p.1 p.2) : ∀ n, AllFn Γ kn c mg P w base n
  | 0, x, np, nd, h, hd => by
    obtain ⟨fd, f, fdt, N, ps, dvs, dfl, e, h1, h2, D⟩ := m.fn x np nd h hd
    obtain ⟨nm, qual, params, body, sc, fb, lam, F, S, ck, _⟩ := id D.F
    refine ⟨f, fdt, ps, dvs, dfl, fun _ _ _ => .bad, h1, h2, ⟨D.at_, F.kp, ⟨fun vs H Q E q => q.1, fun A outer s H args us vs Q E hr e0 hb hv q => ?_⟩, D.dv, D.dl, D.bd, fun ro as I => ?_⟩⟩
    · obtain ⟨_, ro, G, I, ds, _, _, _, z⟩ := q
      exact absurd z id
    · show callN Γ 0 x ro as I = _
      simp only [callN]
      split <;> rfl
  | n + 1, x, np, nd, h, hd => by
    obtain ⟨fd, f, fdt, N, ps, dvs, dfl, e, h1, h2, D⟩ := m.fn x np nd h hd
    obtain ⟨nm, qual, params, body, sc, fb, lam, F, S, ck, _⟩ := id D.F
    exact ⟨f, fdt, ps, dvs, dfl, bodyN Γ n fd, h1, h2, ⟨D.at_, F.kp, def_ok m hT (fn_all m hT n) D, D.dv, D.dl, D.bd, call_if e D.np D.df⟩⟩
theorem law_ok {cs : List (Addr × Addr)} (m : ModOk Γ kn mg cs c.Tb) (hT : ∀ p ∈ cs, LamX.TabB base mg p.1 p.2) {n : Nat} {x : Str} {f : Addr} {fdt : FuncData} {N ps : List Str} {dvs : List V} {dfl : List D} {fd : Fd} (D : DefOk kn mg cs c.Tb x f fdt N ps dvs dfl fd) :
    FnOk P w Kf.K mg base CX0 (4 * (n + 1)) f fdt ps (fun vs H Q _ => spF (lgN Γ kn c mg (n + 1)) ps.length (bodyN Γ n fd) vs H Q fun _ _ _ => False) := by
  have F := def_ok (P := P) (w := w) (base := base) (c := c) m hT (fn_all m hT n) D
  refine ⟨fun vs H Q E q => q.1, fun A outer s H args us vs Q E hr e0 hb hv q => codeAny_mono (F.run A outer s H args us vs Q _ hr e0 hb hv q) fun r s' h => ?_⟩
  cases r with
  | ok v => cases v <;> exact h
  | error e =>
    obtain ⟨_, _, _, _, _, _, _, _, _, _, _, _, z⟩ := h
    exact z.elim
/-- the law: at its start the tables are empty -/
theorem law_sp {n : Nat} {fd : Fd} {H : Hp} {a : Addr} {ns : List Int} {J : Is} (hp : bodyN Γ n fd false [.scr ns] [] = .ok (.val (.bl true)) J) (hT : ∀ p ∈ c.Tb, H p.1 = some (.tbl #[])) (hS : SqL Kf.K H a (ns.map V.int)) :
    spF (lgN Γ kn c mg (n + 1)) 1 (bodyN Γ n fd) [.ref a] H (fun v _ => v = .bl true) (fun _ _ _ => False) := by
  have go : ∀ F : Hp, (∀ a u, F a = some u → Sub H a u) → (∀ a u, F a = some u → Fine u) → RV F [] (.ref a) (.scr ns) → spF (lgN Γ kn c mg (n + 1)) 1 (bodyN Γ n fd) [.ref a] H (fun v _ => v = .bl true) (fun _ _ _ => False) := fun F h1 h2 r => by
    refine ⟨rfl, false, ⟨F, [], [], []⟩, [], [.scr ns], rfl, ⟨.nil, .nil, by simp, fun a ha => by simp at ha, h1, h2, fun q hq => .nil (hT q hq)⟩, .cons r .nil, ?_⟩
    rw [hp]
    intro v G' H' x S q
    exact (q _ rfl).bl
  rcases hS with (hS | ⟨o, hS⟩) | hS
  · exact go (upd (fun _ => none) a (.lst (ns.map V.int))) (fun b u e => by
      by_cases hb : b = a
      · subst hb; rw [upd_same] at e; cases e; exact .inl hS
      · rw [upd_ne hb] at e; cases e) (fun b u e => by
      by_cases hb : b = a
      · subst hb; rw [upd_same] at e; cases e; trivial
      · rw [upd_ne hb] at e; cases e) (.scrL upd_same)
  · exact go (upd (fun _ => none) a (.frz o (.lst (ns.map V.int)))) (fun b u e => by
      by_cases hb : b = a
      · subst hb; rw [upd_same] at e; cases e; exact .inl hS
      · rw [upd_ne hb] at e; cases e) (fun b u e => by
      by_cases hb : b = a
      · subst hb; rw [upd_same] at e; cases e; trivial
      · rw [upd_ne hb] at e; cases e) (.scr upd_same)
  · exact go (fun _ => none) (fun b u e => by cases e) (fun b u e => by cases e) (.scrK fun H => .inr hS)
end
theorem cx_end {P : Program} {w : World} (H : Hp) (s : Shared) (e : Value) (s' : Shared) (h : L2N.CX P w [] H s (fun _ _ _ => False) e s') : False := by
  obtain ⟨_, _, _, _, _, _, _, _, _, _, _, _, z⟩ := h
  exact z.elim
end Air
/-! Air: an exception that is told (4): the walk of _law_class, bit by bit. -/
namespace Air
open PySem PySem.Spec PyProof.Rows L2 LamX L2H
section
variable {X : Cx} {p : Addr × Obj} {d : Option Addr} {nm : Str} {H0 : Hp}
/-- what is known of the context -/
structure CxC (X : Cx) (p : Addr × Obj) (d : Option Addr) (nm : Str) : Prop where
  xf : XcF X.K tellN nm
  pn : p ∈ X.pn
  hz : Zc (.ref (He.ga X.K nm)) d p.2
  hf : ∃ vs, p.2.data = .fields vs
  mg : ∀ y ∈ tellN, X.mg y = some (.ref (He.ga X.K y))
  bi : X.mg "isinstance" = none
  ve : X.mg "ValueError" = none
def Kt (a : Addr) (d : Option Addr) (H0 : Hp) (σ : L2.St) (H : Hp) (bs : List V) : Prop :=
  ∃ l, σ[0]? = some (some (.ref a)) ∧ σ[1]? = some (some (.ref l)) ∧ H l = some (.lst bs) ∧ DOk d H0 ∧ H0 l = none ∧ ∀ b o, H0 b = some o → H b = some o
theorem DOk.ext {H H' : Hp} (h : DOk d H) (k : ∀ b o, H b = some o → H' b = some o) : DOk d H' := h.imp id fun ⟨a, fs, e1, e2⟩ => ⟨a, fs, e1, k _ _ e2⟩
def bitV (nm : Str) (ys : List Str) : List V := ys.map fun z => V.bl (decide (z = nm))
/-- isinstance(e, y) -/
theorem pe_isP (C : CxC X p d nm) {e y : Str} {q q1 q2 pos : Pos} (hy : y ∈ tellN) (hg : Gl X "isinstance") (hgy : Gl X y) (hdb : (y == ("__debug__" : Str)) = false) (he : X.N[0]? = some e) (hv : Vis X.env.scope e) (h1 : (e == ("__debug__" : Str)) = false) (h2 : (e == ("__classdict__" : Str)) = false) :
    PE X (.Call (.Name "isinstance" q) [.Name e q1, .Name y q2] [] pos) (fun σ H Q => σ[0]? = some (some (.ref p.1)) ∧ DOk d H ∧ Q (.bl (decide (y = nm))) H) := by
  refine ⟨fun pins s σ H Q J h => ?_⟩
  exact (pe_callB (call_isP C.xf C.pn C.hz C.hf) hg C.bi (by decide +kernel) (pa_cons (pe_var he hv h1 h2) (pa_cons (pe_glob (v := .ref (He.ga X.K y)) hgy (C.mg y hy) rfl hdb) pa_nil))).run pins s σ H Q J ⟨_, h.1, _, _, _, rfl, fun u hu => hu, C.xf.is y hy, h.2.1, h.2.2⟩
/-- isinstance(e, ValueError) -/
theorem pe_isV (C : CxC X p d nm) {e : Str} {q q1 q2 pos : Pos} (hg : Gl X "isinstance") (hgy : Gl X "ValueError") (he : X.N[0]? = some e) (hv : Vis X.env.scope e) (h1 : (e == ("__debug__" : Str)) = false) (h2 : (e == ("__classdict__" : Str)) = false) :
    PE X (.Call (.Name "isinstance" q) [.Name e q1, .Name "ValueError" q2] [] pos) (fun σ H Q => σ[0]? = some (some (.ref p.1)) ∧ DOk d H ∧ Q (.bl true) H) := by
  refine ⟨fun pins s σ H Q J h => ?_⟩
  exact (pe_callB (call_isP C.xf C.pn C.hz C.hf) hg C.bi (by decide +kernel) (pa_cons (pe_var he hv h1 h2) (pa_cons (pe_bltn (v := .ty "ValueError") (u := .type "ValueError") hgy C.ve (by decide +kernel) rfl) pa_nil))).run pins s σ H Q J ⟨_, h.1, _, _, _, rfl, fun u hu => hu, C.xf.ve, h.2.1, h.2.2⟩
def taIs (a : Addr) (d : Option Addr) (nm : Str) (ys : List Str) : TA := fun σ H Q => σ[0]? = some (some (.ref a)) ∧ DOk d H ∧ Q (bitV nm ys) H
theorem pa_is_nil : PA X [] (taIs p.1 d nm []) := ⟨fun pos pins s σ H Q J h => (pa_nil (X := X)).run pos pins s σ H Q J h.2.2⟩
theorem pa_is_cons {e : Expr} {es : List Expr} {y : Str} {ys : List Str} (he : PE X e (fun σ H Q => σ[0]? = some (some (.ref p.1)) ∧ DOk d H ∧ Q (.bl (decide (y = nm))) H)) (hes : PA X es (taIs p.1 d nm ys)) (hst : starEach (e :: es) X.env = (false, eval e X.env) :: starEach es X.env) : PA X (e :: es) (taIs p.1 d nm (y :: ys)) :=
  ⟨fun pos pins s σ H Q J h => (pa_cons he hes hst).run pos pins s σ H Q J ⟨h.1, h.2.1, h.1, h.2.1, h.2.2⟩⟩
def taStr (ys : List Str) : TA := fun _ H Q => Q (ys.map V.str) H
theorem pa_str_nil : PA X [] (taStr []) := ⟨fun pos pins s σ H Q J h => (pa_nil (X := X)).run pos pins s σ H Q J h⟩
theorem pa_str_cons {e : Expr} {es : List Expr} {y : Str} {ys : List Str} (he : PE X e (tC (.str y))) (hes : PA X es (taStr ys)) (hst : starEach (e :: es) X.env = (false, eval e X.env) :: starEach es X.env) : PA X (e :: es) (taStr (y :: ys)) :=
  ⟨fun pos pins s σ H Q J h => (pa_cons he hes hst).run pos pins s σ H Q J h⟩
/-- kinds = [..] -/
theorem ps_kinds {es : List Expr} {ys : List Str} {k : Str} {px pos lp : Pos} (hes : PA X es (taIs p.1 d nm ys)) (nd : X.N.Nodup) (hk : X.N[1]? = some k) (hl : X.env.scope.names.lookup k = some .local) (hy : ys.length ≤ 1000) :
    PS X (.Assign [.Name k px] (.List es lp) pos) (fun D σ H => σ[0]? = some (some (.ref p.1)) ∧ DOk d H ∧ 1 < σ.length ∧ ∀ σ' H', σ'.length = σ.length → Kt p.1 d H σ' H' (bitV nm ys) → D.nx σ' H') := by
  refine ⟨fun pins s σ H D J h => ?_⟩
  obtain ⟨h1, h2, h3, h4⟩ := h
  refine (ps_set (i := 1) nd hk (.inl hl) (pe_lst hes) (hf := .inr hl)).run pins s σ H D J ⟨h1, h2, ?_, fun l hl => h4 _ _ (by rw [List.length_set]) ⟨l, ?_, ?_, upd_same, h2, hl, fun b o e => by rw [upd_ne (ne_of_none e hl)]; exact e⟩⟩
  · have : (1000 : Nat) ≤ sizeLine := by decide
    have : (bitV nm ys).length = ys.length := by simp [bitV]
    omega
  · rw [List.getElem?_set_ne (by decide)]; exact h1
  · rw [List.getElem?_set_self h3]
/-- kinds.extend([..]) -/
theorem ps_kext {es : List Expr} {ys : List Str} {k : Str} {p1 p2 p3 pos lp : Pos} (hes : PA X es (taIs p.1 d nm ys)) (hk : X.N[1]? = some k) (hv : Vis X.env.scope k) (h1 : (k == ("__debug__" : Str)) = false) (h2 : (k == ("__classdict__" : Str)) = false) (hy : ys.length ≤ 1000) (hline : (p2.endLine == p3.line) = true) :
    PS X (.Expr (.Call (.Attribute (.Name k p1) "extend" p2) [.List es lp] [] p3) pos) (fun D σ H => ∃ bs, Kt p.1 d H0 σ H bs ∧ bs.length ≤ 1000 ∧ ∀ H', Kt p.1 d H0 σ H' (bs ++ bitV nm ys) → D.nx σ H') := by
  refine ⟨fun pins s σ H D J h => ?_⟩
  obtain ⟨bs, ⟨l, e1, e2, e3, e4, e5, e6⟩, hb, q⟩ := h
  have sz : (3000 : Nat) ≤ sizeLine := by decide
  have ln : (bitV nm ys).length = ys.length := by simp [bitV]
  refine (ps_expr (pe_bm PySem.F.plainAttrs_list PySem.F.slot_list_extend PySem.F.type_list_extend mt_extend (pe_var hk hv h1 h2) (pa_cons (pe_lst hes) pa_nil) (by rfl) (by rfl) hline (by rfl) (by rfl)) (by rfl)).run pins s σ H D J ⟨_, e2, .inl ⟨rfl, _, .of e3⟩, e1, e4.ext e6, ⟨by omega, fun l2 hl2 => ⟨l, l2, bs, _, rfl, rfl, by rw [upd_ne (ne_of_none e3 hl2)]; exact e3, upd_same, by omega, q _ ⟨l, e1, e2, upd_same, e4, e5, fun b o e => ?_⟩⟩⟩⟩
  rw [upd_ne (ne_of_none e e5), upd_ne (ne_of_none (e6 b o e) hl2)]
  exact e6 b o e
/-- kinds.append(..) -/
theorem ps_kapp {a : Expr} {y : Str} {k : Str} {p1 p2 p3 pos : Pos} (he : PE X a (fun σ H Q => σ[0]? = some (some (.ref p.1)) ∧ DOk d H ∧ Q (.bl (decide (y = nm))) H)) (hk : X.N[1]? = some k) (hv : Vis X.env.scope k) (h1 : (k == ("__debug__" : Str)) = false) (h2 : (k == ("__classdict__" : Str)) = false) (hline : (p2.endLine == p3.line) = true)
    (hst : starEach [a] X.env = [(false, eval a X.env)]) (hfew : ((backTo p3 (starEach [a] X.env)).all (fun x => !x.1) && (backToKw p3 (keywordEach [] X.env)).all (fun x => x.1.isSome) && decide ([a].length + ([] : List Keyword).length + (if ([] : List Keyword).isEmpty then 0 else 1) < 30)) = true) :
    PS X (.Expr (.Call (.Attribute (.Name k p1) "append" p2) [a] [] p3) pos) (fun D σ H => ∃ bs, Kt p.1 d H0 σ H bs ∧ bs.length ≤ 1000 ∧ ∀ H', Kt p.1 d H0 σ H' (bs ++ bitV nm [y]) → D.nx σ H') := by
  refine ⟨fun pins s σ H D J h => ?_⟩
  obtain ⟨bs, ⟨l, e1, e2, e3, e4, e5, e6⟩, hb, q⟩ := h
  have sz : (3000 : Nat) ≤ sizeLine := by decide
  refine (ps_expr (pe_bm PySem.F.plainAttrs_list PySem.F.slot_list_append PySem.F.type_list_append mt_append (pe_var hk hv h1 h2) (pa_cons he pa_nil hst) (by rfl) hfew hline hst (by rfl)) (by rfl)).run pins s σ H D J ⟨_, e2, .inl ⟨rfl, _, .of e3⟩, e1, e4.ext e6, ⟨l, bs, _, rfl, rfl, e3, by omega, q _ ⟨l, e1, e2, upd_same, e4, e5, fun b o e => ?_⟩⟩⟩
  rw [upd_ne (ne_of_none e e5)]
  exact e6 b o e
/-- the list of names: what stands at place 2 -/
def Kn (σ : L2.St) (H : Hp) (zs : List V) (H1 : Hp) : Prop := ∃ l, σ[2]? = some (some (.ref l)) ∧ H l = some (.lst zs) ∧ H1 l = none ∧ ∀ b o, H1 b = some o → H b = some o
theorem ps_some {es : List Expr} {ys : List Str} {k : Str} {px pos lp : Pos} (hes : PA X es (taStr ys)) (nd : X.N.Nodup) (hk : X.N[2]? = some k) (hl : X.env.scope.names.lookup k = some .local) (hy : ys.length ≤ 1000) :
    PS X (.Assign [.Name k px] (.List es lp) pos) (fun D σ H => 2 < σ.length ∧ ∀ l H', (∀ b o, H b = some o → H' b = some o) → Kn (σ.set 2 (some (.ref l))) H' (ys.map V.str) H → D.nx (σ.set 2 (some (.ref l))) H') := by
  refine ⟨fun pins s σ H D J h => ?_⟩
  obtain ⟨h1, h2⟩ := h
  have kp : ∀ l : Addr, H l = none → ∀ b o, H b = some o → upd H l (.lst (ys.map V.str)) b = some o := fun l hl b o e => by rw [upd_ne (ne_of_none e hl)]; exact e
  refine (ps_set (i := 2) nd hk (.inl hl) (pe_lst hes) (hf := .inr hl)).run pins s σ H D J ⟨?_, fun l hl => h2 l _ (kp l hl) ⟨l, List.getElem?_set_self h1, upd_same, hl, kp l hl⟩⟩
  have : (1000 : Nat) ≤ sizeLine := by decide
  rw [List.length_map]; omega
theorem ps_sext {es : List Expr} {ys : List Str} {k : Str} {p1 p2 p3 pos lp : Pos} (hes : PA X es (taStr ys)) (hk : X.N[2]? = some k) (hv : Vis X.env.scope k) (h1 : (k == ("__debug__" : Str)) = false) (h2 : (k == ("__classdict__" : Str)) = false) (hy : ys.length ≤ 1000) (hline : (p2.endLine == p3.line) = true) :
    PS X (.Expr (.Call (.Attribute (.Name k p1) "extend" p2) [.List es lp] [] p3) pos) (fun D σ H => ∃ H0 zs, Kn σ H (zs.map V.str) H0 ∧ zs.length ≤ 1000 ∧ ∀ H', Kn σ H' ((zs ++ ys).map V.str) H0 → D.nx σ H') := by
  refine ⟨fun pins s σ H D J h => ?_⟩
  obtain ⟨H0, zs, ⟨l, e2, e3, e5, e6⟩, hb, q⟩ := h
  have sz : (3000 : Nat) ≤ sizeLine := by decide
  refine (ps_expr (pe_bm PySem.F.plainAttrs_list PySem.F.slot_list_extend PySem.F.type_list_extend mt_extend (pe_var hk hv h1 h2) (pa_cons (pe_lst hes) pa_nil) (by rfl) (by rfl) hline (by rfl) (by rfl)) (by rfl)).run pins s σ H D J ⟨_, e2, .inl ⟨rfl, _, .of e3⟩, ⟨by rw [List.length_map]; omega, fun l2 hl2 => ⟨l, l2, _, _, rfl, rfl, by rw [upd_ne (ne_of_none e3 hl2)]; exact e3, upd_same, by rw [List.length_map, List.length_map]; omega, q _ ⟨l, e2, by rw [List.map_append]; exact upd_same, e5, fun b o e => ?_⟩⟩⟩⟩
  rw [upd_ne (ne_of_none e e5), upd_ne (ne_of_none (e6 b o e) hl2)]
  exact e6 b o e
/-- if kinds.count(True) != 1 or not isinstance(e, ValueError): return .. -/
theorem ps_kif {ev : Expr} {k w : Str} {j1 j2 j3 : Nat} {p1 p2 p3 p4 p5 p6 p7 p8 p9 p10 pos : Pos} (hv : PE X ev (fun σ H Q => σ[0]? = some (some (.ref p.1)) ∧ DOk d H ∧ Q (.bl true) H)) (hvt : ∀ whole, isTrue ev X.env whole = (do let v ← whole; standAt ev.pos; holding [v] (truthy v))) (hk : X.N[1]? = some k) (hvk : Vis X.env.scope k) (h1 : (k == ("__debug__" : Str)) = false) (h2 : (k == ("__classdict__" : Str)) = false) (hline : (p2.endLine == p4.line) = true) (hnm : nm ∈ tellN) :
    PS X (.If (.BoolOp .Or [.Compare (.Call (.Attribute (.Name k p1) "count" p2) [.Constant (.bool true) j1 p3] [] p4) [.NotEq] [.Constant (.int 1) j2 p5] p6, .UnaryOp .Not ev p7] p8) [.Return (some (.Constant (.str w) j3 p9)) pos] [] p10) (fun D σ H => Kt p.1 d H0 σ H (bitV nm tellN) ∧ D.nx σ H) := by
  refine ⟨fun pins s σ H D J h => ?_⟩
  obtain ⟨⟨l, e1, e2, e3, e4, e5, e6⟩, q⟩ := h
  have cb := cls_bits hnm
  have fl : (bitV nm tellN).all flatV = true := by
    unfold bitV
    rw [List.all_map, List.all_eq_true]
    intro x _; rfl
  refine (ps_if (PW.pt (pw_or (pt_cmpR op_ne (pe_bm PySem.F.plainAttrs_list PySem.F.slot_list_count PySem.F.type_list_count mt_countV (pe_var hk hvk h1 h2) (pa_cons pe_bl pa_nil) (by rfl) (by rfl) hline (by rfl) (by rfl)) pe_int (nomark _)) (pw_or1 (pt_not (pt_val hv hvt))))) (pss_one (ps_ret pe_str)) pss_nil).run pins s σ H D J ?_
  refine ⟨_, e2, .inl ⟨rfl, _, .of e3⟩, l, _, .bl true, rfl, rfl, .of e3, rfl, fl, rfl, false, ?_, ?_⟩
  · have c1 : ((bitV nm tellN).countP fun z => eqV z (.bl true)) = 1 := cb.1
    rw [c1]; rfl
  · dsimp only
    rw [if_neg Bool.false_ne_true]
    exact ⟨e1, e4.ext e6, true, rfl, q⟩
/-- return some[kinds.index(True)] -/
theorem ps_kret {k m : Str} {j1 : Nat} {p1 p2 p3 p4 p5 p6 pos : Pos} (hk : X.N[1]? = some k) (hvk : Vis X.env.scope k) (h1 : (k == ("__debug__" : Str)) = false) (h2 : (k == ("__classdict__" : Str)) = false) (hm : X.N[2]? = some m) (hvm : Vis X.env.scope m) (g1 : (m == ("__debug__" : Str)) = false) (g2 : (m == ("__classdict__" : Str)) = false) (hline : (p2.endLine == p4.line) = true) (hnm : nm ∈ tellN) :
    PS X (.Return (some (.Subscript (.Name m p5) (.Call (.Attribute (.Name k p1) "index" p2) [.Constant (.bool true) j1 p3] [] p4) p6)) pos) (fun D σ H => Kt p.1 d H0 σ H (bitV nm tellN) ∧ (∃ H1, Kn σ H (tellN.map V.str) H1) ∧ D.rt (.str nm) H) := by
  refine ⟨fun pins s σ H D J h => ?_⟩
  obtain ⟨⟨l, e1, e2, e3, e4, e5, e6⟩, ⟨H1, l2, f1, f2, f3, f4⟩, q⟩ := h
  obtain ⟨c1, j, c2, c3, c4⟩ := cls_bits hnm
  have fl : (bitV nm tellN).all flatV = true := by
    unfold bitV
    rw [List.all_map, List.all_eq_true]
    intro x _; rfl
  exact (ps_ret (pe_ix ix_list (pe_var hm hvm g1 g2) (pe_bm PySem.F.plainAttrs_list PySem.F.slot_list_index PySem.F.type_list_index mt_index (pe_var hk hvk h1 h2) (pa_cons pe_bl pa_nil) (by rfl) (by rfl) hline (by rfl) (by rfl)) fun _ _ => rfl)).run pins s σ H D J
    ⟨_, f1, _, e2, .inl ⟨rfl, _, .of e3⟩, l, _, .bl true, j, .bl true, rfl, rfl, .of e3, rfl, fl, c2, rfl, c3, l2, _, _, _, rfl, rfl, .of f2, c4, q⟩
theorem Kt.on {a : Addr} {σ : L2.St} {H H' : Hp} {bs : List V} (k : Kt a d H0 σ H bs) (l2 : Addr) (g : ∀ b o, H b = some o → H' b = some o) : Kt a d H0 (σ.set 2 (some (.ref l2))) H' bs := by
  obtain ⟨l, e1, e2, e3, e4, e5, e6⟩ := k
  exact ⟨l, by rw [List.getElem?_set_ne (by decide)]; exact e1, by rw [List.getElem?_set_ne (by decide)]; exact e2, g _ _ e3, e4, e5, fun b o e => g b o (e6 b o e)⟩
theorem Kn.keep {σ : L2.St} {H H1 : Hp} {zs : List V} (k : Kn σ H zs H1) : ∀ b o, H1 b = some o → H b = some o := by
  obtain ⟨l, _, _, _, h⟩ := k
  exact h
theorem Kt.keep {a : Addr} {σ : L2.St} {H : Hp} {bs : List V} (k : Kt a d H0 σ H bs) : ∀ b o, H0 b = some o → H b = some o := by
  obtain ⟨l, _, _, _, _, _, h⟩ := k
  exact h
end
end Air
/-! Air: what the head's facts say. -/
namespace Air
open PySem PySem.Spec PyProof.Rows L2
theorem code_at {K : PySem.W.Frag} {p : He.Defn} {nm qual : Str} {params : Arguments} {body : List Stmt} {sc : Scope} {dvs : List V} {fdt : FuncData} (F : FunD K nm qual params body sc dvs [] (He.fAd K p) fdt) : fdt.code = .ref (He.codeOf K p) := by
  obtain ⟨oc, od, dV, kV, doc, pm, an, cdv, ct, osl, rfl, lk, hcd, _, _⟩ := F.ex
  obtain ⟨c, rfl⟩ := He.codeIn_ref hcd
  unfold He.codeOf
  rw [lk]
def tbOf (K : PySem.W.Frag) (tf : List He.Defn) : List (Addr × Str) := tf.map fun p => ((He.cT K p).2, p.1 ++ ".<locals>." ++ "<lambda>")
def tbB (K : PySem.W.Frag) (tf : List He.Defn) : Bool := decide ((tf.map fun p => (He.cT K p).2).Nodup)
theorem tb_uniq {K : PySem.W.Frag} : ∀ {tf : List He.Defn} {p : He.Defn}, (tf.map fun p => (He.cT K p).2).Nodup → p ∈ tf → ∀ q ∈ tbOf K tf, q.1 = (He.cT K p).2 → q.2 = p.1 ++ ".<locals>." ++ "<lambda>"
  | [], p, _, hp, _, _, _ => by simp at hp
  | a :: tf, p, nd, hp, q, hq, e => by
    have nd := List.nodup_cons.mp (show ((He.cT K a).2 :: tf.map fun p => (He.cT K p).2).Nodup from nd)
    have mem : ∀ r ∈ tbOf K tf, r.1 ∈ tf.map fun p => (He.cT K p).2 := fun r hr => by
      obtain ⟨b, hb, rfl⟩ := List.mem_map.mp hr
      exact List.mem_map.mpr ⟨b, hb, rfl⟩
    rcases List.mem_cons.mp hp with rfl | hp <;> rcases List.mem_cons.mp (show q ∈ ((He.cT K _).2, _) :: tbOf K tf from hq) with rfl | hq
    · rfl
    · exact absurd (e ▸ mem q hq) nd.1
    · refine absurd ?_ nd.1
      show (He.cT K a).2 ∈ _
      have e : (He.cT K a).2 = (He.cT K p).2 := e
      rw [e]
      exact List.mem_map.mpr ⟨p, hp, rfl⟩
    · exact tb_uniq nd.2 hp q hq e
theorem lam_ok {K : PySem.W.Frag} {tf : List He.Defn} {p : He.Defn} {nm : Str} {params : Arguments} {body : List Stmt} {sc : Scope} {dvs : List V} {fdt : FuncData} (hb : tbB K tf = true) (hp : p ∈ tf) (F : FunD K nm p.1 params body sc dvs [] (He.fAd K p) fdt) :
    ∃ cc P, fdt.code = .ref cc ∧ (cc, P) ∈ tf.map (He.cT K) ∧ (P, p.1 ++ ".<locals>." ++ "<lambda>") ∈ tbOf K tf ∧ ∀ q ∈ tbOf K tf, q.1 = P → q.2 = p.1 ++ ".<locals>." ++ "<lambda>" :=
  ⟨He.codeOf K p, (He.cT K p).2, code_at F, List.mem_map.mpr ⟨p, hp, rfl⟩, List.mem_map.mpr ⟨p, hp, rfl⟩, tb_uniq (of_decide_eq_true hb) hp⟩
section
variable {fa : List He.Fa} {fn : List He.DefD} {ts : List He.Tab} {tf : List He.Defn} {ex : PySem.W.Frag → Bool} {w : World} {h : Heap} {K : PySem.W.Frag}
theorem tabs_empty (c : He.SaysX fa fn ts tf ex w h K) : ∀ p ∈ tf.map (He.cT K), h.get? p.2 = some { cls := .none, data := .fields #[] } := fun p hp => by
  obtain ⟨q, hq, rfl⟩ := List.mem_map.mp hp
  exact c.empty q hq
theorem tabs_out (c : He.SaysX fa fn ts tf ex w h K) : ∀ p ∈ tf.map (He.cT K), K.lookup p.2 = none := fun p hp => by
  obtain ⟨q, hq, rfl⟩ := List.mem_map.mp hp
  exact c.out q hq
theorem tabs_hd (X : K.In h) (c : He.SaysX fa fn ts tf ex w h K) : ∀ p ∈ tf.map (He.cT K), PySem.W.CodeHd h p.1 p.2 := fun p hp => by
  obtain ⟨q, hq, rfl⟩ := List.mem_map.mp hp
  exact PySem.W.codeHd_of_K X (c.hd q hq)
theorem tabs_at {H : Hp} (hH : ∀ p ∈ tf.map (He.cT K), H p.2 = some (.tbl #[])) : ∀ p ∈ tbOf K tf, H p.1 = some (.tbl #[]) := fun p hp => by
  obtain ⟨q, hq, rfl⟩ := List.mem_map.mp hp
  exact hH _ (List.mem_map.mpr ⟨q, hq, rfl⟩)
end
end Air
/-! Air: plain laws (1): the drawing. -/
namespace Air
open PySem L2
theorem atI_in {α : Type} {xs : List α} {i : Int} (h0 : 0 ≤ i) (h1 : i < xs.length) : L2.atI xs i = xs[i.toNat]? := by
  unfold L2.atI L2.ixN
  rw [if_pos h0, if_pos h1]; rfl
theorem atI_some {α : Type} {xs : List α} {i : Int} (h0 : 0 ≤ i) (h1 : i < xs.length) : ∃ a, L2.atI xs i = some a ∧ a ∈ xs := by
  rw [atI_in h0 h1]
  have : i.toNat < xs.length := by omega
  exact ⟨xs[i.toNat], by simp [this], List.getElem_mem this⟩
theorem pyeq_scr_nil (ns : List Int) : D.pyeq (.scr ns) (.lst []) = ns.isEmpty := by
  cases ns <;> simp [D.pyeq, D.py, D.pys, PyData.eqv, PyData.eqvAll]
def pickS : Sm := (.cons (.asg 3 (.ite (.cmp .ne (.loc 0) (.lst .nil)) (.sub (.loc 0) (.bin .md (.loc 1) (.blt .len (.cons (.loc 0) .nil)))) (.cns (.int 0))))
      (.cons (.par [(4, false), (5, false)] (.cons (.bin .fdiv (.loc 3) (.bin .pow (.cns (.int 10)) (.cns (.int 18)))) (.cons (.bin .fdiv (.loc 1) (.blt .max2 (.cons (.blt .len (.cons (.loc 0) .nil)) (.cons (.cns (.int 1)) .nil)))) .nil)))
      (.cons (.whl 1000000 (.and (.cmp .gt (.loc 4) (.cns (.int 0))) (.cmp .gt (.loc 5) (.cns (.int 0)))) (.cons (.par [(4, false), (5, false)] (.cons (.bin .fdiv (.loc 4) (.cns (.int 840))) (.cons (.bin .sub (.loc 5) (.cns (.int 1))) .nil)))
      .nil))
      (.cons (.iff (.cmp .gt (.loc 4) (.cns (.int 0))) (.cons (.ret (.bin .md (.bin .md (.loc 4) (.cns (.int 840))) (.loc 2)))
      .nil) .nil)
      (.cons (.asg 6 (.bin .md (.bin .mul (.bin .add (.bin .mul (.loc 3) (.cns (.int 31))) (.bin .mul (.cns (.int 6151)) (.bin .add (.loc 1) (.cns (.int 1))))) (.cns (.int 40692))) (.cns (.int 2147483399))))
      (.cons (.ret (.bin .md (.bin .md (.bin .add (.bin .mul (.loc 6) (.loc 6)) (.bin .fdiv (.loc 6) (.cns (.int 31)))) (.cns (.int 2147483629))) (.loc 2)))
      .nil))))))
def pickCell (ns : List Int) (k : Int) : Int := if ns = [] then 0 else (L2.atI ns (k % ns.length)).getD 0
def divL : Nat → Int → Int × Int
  | 0, r => (r, 0)
  | t + 1, r => if 0 < r then divL t (r / 840) else (r, ((t + 1 : Nat) : Int))
def pickF (ns : List Int) (k m : Int) : Int :=
  let c := pickCell ns k
  let r := (divL (k / max (ns.length : Int) 1).toNat (c / 10 ^ 18)).1
  if 0 < r then r % 840 % m else
    let d := (c * 31 + 6151 * (k + 1)) * 40692 % 2147483399
    (d * d + d / 31) % 2147483629 % m
section
variable {cn : Str → Option D} {cf : Str → Bool → List D → Is → R Sl}
theorem pick_loop (a b c d e : Sl) (ro : Bool) (I : Is) : ∀ (t : Nat) (r : Int) (fuel : Nat), t < fuel →
    whlL (fun fr I => (ev cn cf (.and (.cmp .gt (.loc 4) (.cns (.int 0))) (.cmp .gt (.loc 5) (.cns (.int 0)))) ro fr I).tst fun t I => .ok t I)
      (fun fr I => exec cn cf (.cons (.par [(4, false), (5, false)] (.cons (.bin .fdiv (.loc 4) (.cns (.int 840))) (.cons (.bin .sub (.loc 5) (.cns (.int 1))) .nil))) .nil) ro fr I) fuel [a, b, c, d, .val (.int r), .val (.int (t : Int)), e] I
    = .nx [a, b, c, d, .val (.int (divL t r).1), .val (.int (divL t r).2), e] I := by
  intro t
  induction t with
  | zero =>
    intro r fuel hf
    obtain ⟨f, rfl⟩ : ∃ f, fuel = f + 1 := ⟨fuel - 1, by omega⟩
    by_cases hr : 0 < r <;> simp [whlL, ev, cmpD, b2, R.bind, R.tst, R.stm, divL, hr, Cs.d]
  | succ t ih =>
    intro r fuel hf
    obtain ⟨f, rfl⟩ : ∃ f, fuel = f + 1 := ⟨fuel - 1, by omega⟩
    by_cases hr : 0 < r
    · have ht : (0 : Int) < ((t + 1 : Nat) : Int) := by omega
      have e2 : ((t + 1 : Nat) : Int) - 1 = (t : Int) := by omega
      have h2 := ih (r / 840) f (by omega)
      rw [whlL]
      simp only [ev, cmpD, b2, R.bind, R.tst, R.stm, Cs.d, List.getElem?_cons_zero, List.getElem?_cons_succ, decide_eq_true hr, decide_eq_true ht, cond_true, exec, evK, binD, stoAll, stoK, List.set_cons_zero, List.set_cons_succ, Xr.bind, isInst, Bool.or_false]
      simp only [show (decide (0 < (840 : Int)) && small 840) = true by decide, cond_true, R.bind, e2]
      have e3 : divL (t + 1) r = divL t (r / 840) := by simp [divL, hr]
      rw [e3]
      exact h2
    · rw [whlL]
      simp [ev, cmpD, b2, R.bind, R.tst, R.stm, Cs.d, hr, divL]
theorem pick_cell (ns : List Int) (k : Int) (ro : Bool) (b c d e f g : Sl) (I : Is) (hk : 0 ≤ k) : ev cn cf (.ite (.cmp .ne (.loc 0) (.lst .nil)) (.sub (.loc 0) (.bin .md (.loc 1) (.blt .len (.cons (.loc 0) .nil)))) (.cns (.int 0))) ro [.val (.scr ns), .val (.int k), b, c, d, e, f] I = .ok (.int (pickCell ns k), .fro) I := by
  cases ns with
  | nil => simp [ev, evK, cmpD, b2, R.bind, R.tst, Cs.d, pickCell, frzAll, pyeq_scr_nil, D.eqc, D.eqcs, D.dep, D.deps, lim]
  | cons x xs =>
    have h1 : 0 ≤ k % ((x :: xs).length : Int) := Int.emod_nonneg _ (by simp only [List.length_cons]; omega)
    have h2 : k % ((x :: xs).length : Int) < ((x :: xs).length : Int) := Int.emod_lt_of_pos _ (by simp only [List.length_cons]; omega)
    obtain ⟨a, e1, _⟩ := atI_some (xs := x :: xs) h1 h2
    have e1 : L2.atI (x :: xs) (k % ((xs.length : Int) + 1)) = some a := by simpa using e1
    simp [ev, evK, cmpD, b2, R.bind, R.tst, Cs.d, pickCell, frzAll, pyeq_scr_nil, D.eqc, D.eqcs, D.dep, D.deps, lim, biD, binD, subD, e1]
theorem small_of {i : Int} (h : -1000000000000 < i) (h2 : i < 1000000000000) : small i = true := by
  unfold small
  simp only [Bool.and_eq_true, decide_eq_true_eq]
  omega
theorem pick_tail (cn : Str → Option D) (cf : Str → Bool → List D → Is → R Sl) (ns : List Int) (k m c r t : Int) (ro : Bool) (I : Is) (hm : 0 < m) :
    runB (exec cn cf (.cons (.iff (.cmp .gt (.loc 4) (.cns (.int 0))) (.cons (.ret (.bin .md (.bin .md (.loc 4) (.cns (.int 840))) (.loc 2))) .nil) .nil)
      (.cons (.asg 6 (.bin .md (.bin .mul (.bin .add (.bin .mul (.loc 3) (.cns (.int 31))) (.bin .mul (.cns (.int 6151)) (.bin .add (.loc 1) (.cns (.int 1))))) (.cns (.int 40692))) (.cns (.int 2147483399))))
      (.cons (.ret (.bin .md (.bin .md (.bin .add (.bin .mul (.loc 6) (.loc 6)) (.bin .fdiv (.loc 6) (.cns (.int 31)))) (.cns (.int 2147483629))) (.loc 2))) .nil))) ro
      [.val (.scr ns), .val (.int k), .val (.int m), .val (.int c), .val (.int r), .val (.int t), .no] I)
    = .ok (.val (.int (if 0 < r then r % 840 % m else (((c * 31 + 6151 * (k + 1)) * 40692 % 2147483399) * ((c * 31 + 6151 * (k + 1)) * 40692 % 2147483399) + ((c * 31 + 6151 * (k + 1)) * 40692 % 2147483399) / 31) % 2147483629 % m))) I := by
  have s1 : small 31 = true := by decide
  have s2 : small 6151 = true := by decide
  have s3 : small 40692 = true := by decide
  have hd : small ((c * 31 + 6151 * (k + 1)) * 40692 % 2147483399) = true := small_of (by have := Int.emod_nonneg ((c * 31 + 6151 * (k + 1)) * 40692) (b := 2147483399) (by omega); omega) (by have := Int.emod_lt_of_pos ((c * 31 + 6151 * (k + 1)) * 40692) (b := 2147483399) (by omega); omega)
  by_cases hr : 0 < r
  · simp [exec, ev, cmpD, b2, R.bind, R.tst, R.stm, Xr.bind, Cs.d, binD, hr, hm, stoK, runB]
  · simp [exec, ev, cmpD, b2, R.bind, R.tst, R.stm, Xr.bind, Cs.d, binD, hr, hm, stoK, frzK, runB, s1, s2, s3, hd]
theorem pick_run {Γ : Gm} (h : Γ.fn "_law_pick" = some ⟨3, 7, [], pickS⟩) {ns : List Int} {k m : Int} (hl : ns.length ≤ 63) (hk : 0 ≤ k) (hk2 : k < 1000000) (hm : 0 < m) (n : Nat) (ro : Bool) (I : Is) : callN Γ (n + 1) "_law_pick" ro [.scr ns, .int k, .int m] I = .ok (.val (.int (pickF ns k m))) I := by
  unfold callN
  rw [h]
  simp only [fillD, List.length_cons, List.length_nil, show (decide (0 + 1 + 1 + 1 ≤ 3) && decide (3 ≤ 0 + 1 + 1 + 1 + 0)) = true by decide, cond_true, List.drop_nil, List.append_nil, List.map_cons, List.map_nil, show (7 - 3) = 4 by rfl]
  show runB (exec Γ.cn (callN Γ n) pickS ro [.val (.scr ns), .val (.int k), .val (.int m), .no, .no, .no, .no] I) = _
  have hc := pick_cell (cn := Γ.cn) (cf := callN Γ n) ns k ro (.val (.int m)) .no .no .no .no .no I hk
  have hp : ∀ c : Int, (evK Γ.cn (callN Γ n) (.cons (.bin .fdiv (.loc 3) (.bin .pow (.cns (.int 10)) (.cns (.int 18)))) (.cons (.bin .fdiv (.loc 1) (.blt .max2 (.cons (.blt .len (.cons (.loc 0) .nil)) (.cons (.cns (.int 1)) .nil)))) .nil)) ro [.val (.scr ns), .val (.int k), .val (.int m), .val (.int c), .no, .no, .no] I) = .ok [(.int (c / 10 ^ 18), .fro), (.int (k / max (ns.length : Int) 1), .fro)] I := fun c => by
    have hs : small (max (ns.length : Int) 1) = true := small_of (by omega) (by omega)
    have hm0 : (0 : Int) < max (ns.length : Int) 1 := by omega
    simp [ev, evK, binD, R.bind, Cs.d, biD, hs, hm0, show small 10 = true by decide, show small 1000000000000000000 = true by decide]
  have ht0 : 0 ≤ k / max (ns.length : Int) 1 := Int.ediv_nonneg hk (by omega)
  have ht1 : k / max (ns.length : Int) 1 ≤ k := Int.ediv_le_self _ hk
  obtain ⟨t, ht⟩ : ∃ t : Nat, k / max (ns.length : Int) 1 = t := ⟨(k / max (ns.length : Int) 1).toNat, by omega⟩
  have hlp := fun (c : Int) => pick_loop (cn := Γ.cn) (cf := callN Γ n) (.val (.scr ns)) (.val (.int k)) (.val (.int m)) (.val (.int c)) .no ro I t (c / 10 ^ 18) 1000000 (by omega)
  unfold pickS
  rw [exec, exec, hc]
  simp only [R.stm, frzK, Xr.bind, List.set_cons_succ, List.set_cons_zero]
  rw [exec, exec, hp]
  simp only [R.stm, stoAll, stoK, Xr.bind, List.set_cons_succ, List.set_cons_zero]
  rw [exec, exec, ht, hlp]
  simp only [Xr.bind]
  rw [pick_tail _ _ _ _ _ _ _ _ _ _ hm]
  unfold pickF
  rw [ht]
  rfl
theorem pickF_in (ns : List Int) (k : Int) {m : Int} (hm : 0 < m) : 0 ≤ pickF ns k m ∧ pickF ns k m < m := by
  unfold pickF
  simp only
  split
  · exact ⟨Int.emod_nonneg _ (by omega), Int.emod_lt_of_pos _ hm⟩
  · exact ⟨Int.emod_nonneg _ (by omega), Int.emod_lt_of_pos _ hm⟩
end
end Air
/-! Air: plain laws (2): reckoning, names. -/
namespace Air
open PySem L2
section
variable {cn : Str → Option D} {cf : Str → Bool → List D → Is → R Sl} {ro : Bool} {fr : Fr} {I : Is} {α β : Type}
@[simp] theorem bind_ok (a : α) (f : α → Is → R β) : (R.ok a I).bind f = f a I := id rfl
@[simp] theorem stm_ok (a : α) (f : α → Is → Xr) : (R.ok a I).stm fr f = f a I := id rfl
@[simp] theorem tst_ok (b : Bool) (k : Kd) (f : Bool → Is → R β) : (R.ok (D.bl b, k) I).tst f = f b I := id rfl
@[simp] theorem fz_fro (d : D) (f : D → Is → R β) : (R.ok (d, Kd.fro) I).fz f = f d I := id rfl
@[simp] theorem fz_new (d : D) (f : D → Is → R β) : (R.ok (d, Kd.new) I).fz f = f d I := id rfl
@[simp] theorem reset_ok (a : α) : (R.ok a I).reset I = .ok a I := id rfl
@[simp] theorem quiet_ok' (a : α) : (R.ok a I).quiet = .ok a I := id rfl
@[simp] theorem nx_bind (f : Fr → Is → Xr) : (Xr.nx fr I).bind f = f fr I := id rfl
@[simp] theorem rt_bind (s : Sl) (f : Fr → Is → Xr) : (Xr.rt s I).bind f = .rt s I := id rfl
@[simp] theorem run_rt (s : Sl) : runB (.rt s I) = .ok s I := id rfl
@[simp] theorem run_nx : runB (.nx fr I) = .ok (.val .non) I := id rfl
@[simp] theorem cs_non : Cs.non.d = .non := id rfl
@[simp] theorem cs_bl (b : Bool) : (Cs.bl b).d = .bl b := id rfl
@[simp] theorem cs_int (i : Int) : (Cs.int i).d = .int i := id rfl
@[simp] theorem cs_str (z : Str) : (Cs.str z).d = .str z := id rfl
@[simp] theorem ev_cns (c : Cs) : ev cn cf (.cns c) ro fr I = .ok (c.d, .fro) I := id rfl
@[simp] theorem ev_loc (i : Nat) : ev cn cf (.loc i) ro fr I = (match fr[i]? with
    | some (.val d) => .ok (d, .fro) I
    | some (.lst xs) => .ok (.lst xs, .own) I
    | some (.dK ks vs) => .ok (.dK ks vs, .own) I
    | some (.dT ks vs) => .ok (.dT ks vs, .own) I
    | _ => .bad) := id rfl
@[simp] def gkR : D → Is → R (D × Kd)
  | .int i, I => .ok (.int i, .fro) I
  | .str z, I => .ok (.str z, .fro) I
  | .tup xs, I => .ok (.tup xs, .cst) I
  | _, _ => .bad
theorem ev_gk {x : Str} {d : D} (h : cn x = some d) : ev cn cf (.gk x) ro fr I = gkR d I := by
  show (match cn x with
    | some (.int i) => R.ok (D.int i, Kd.fro) I
    | some (.str z) => .ok (.str z, .fro) I
    | some (.tup xs) => .ok (.tup xs, .cst) I
    | _ => .bad) = gkR d I
  rw [h]
  cases d <;> rfl
@[simp] theorem ev_bin (o : Bo) (a b : Tm) : ev cn cf (.bin o a b) ro fr I = (ev cn cf a ro fr I).bind fun p I => (ev cn cf b (ro || isInst p.2) fr I).bind fun q I => binD o p.1 q.1 I := id rfl
@[simp] theorem ev_neg (a : Tm) : ev cn cf (.neg a) ro fr I = (ev cn cf a ro fr I).bind fun p I => (match p.1 with
    | .int i => .ok (.int (-i), .fro) I
    | _ => .bad) := id rfl
@[simp] theorem ev_cmp (o : Co) (a b : Tm) : ev cn cf (.cmp o a b) ro fr I = (ev cn cf a ro fr I).bind fun p I => (ev cn cf b (ro || isInst p.2) fr I).bind fun q I => cmpD o p.1 q.1 I := id rfl
@[simp] theorem ev_isn (ng : Bool) (a : Tm) : ev cn cf (.isn ng a) ro fr I = (ev cn cf a ro fr I).bind fun p I => (match p.1 with
    | .non => b2 (!ng) I
    | _ => b2 ng I) := id rfl
@[simp] theorem ev_isb (ng k : Bool) (a : Tm) : ev cn cf (.isb ng k a) ro fr I = (ev cn cf a ro fr I).bind fun p I => (match p.1 with
    | .bl b => b2 (xor ng (b == k)) I
    | _ => .bad) := id rfl
@[simp] theorem ev_ch2 (o1 o2 : Co) (a b c : Tm) : ev cn cf (.ch2 o1 o2 a b c) ro fr I = (ev cn cf a ro fr I).bind fun p I => (ev cn cf b (ro || isInst p.2) fr I).bind fun q I => (cmpD o1 p.1 q.1 I).tst fun t I =>
      bif t then (ev cn cf c (ro || isInst q.2) fr I).bind fun r I => cmpD o2 q.1 r.1 I else b2 false I := id rfl
@[simp] theorem ev_and (a b : Tm) : ev cn cf (.and a b) ro fr I = (ev cn cf a ro fr I).tst fun t I => bif t then (ev cn cf b ro fr I).tst fun u I => b2 u I else b2 false I := id rfl
@[simp] theorem ev_or (a b : Tm) : ev cn cf (.or a b) ro fr I = (ev cn cf a ro fr I).tst fun t I => bif t then b2 true I else (ev cn cf b ro fr I).tst fun u I => b2 u I := id rfl
@[simp] theorem ev_not (a : Tm) : ev cn cf (.not a) ro fr I = (ev cn cf a ro fr I).tst fun t I => b2 (!t) I := id rfl
@[simp] theorem ev_ite (c a b : Tm) : ev cn cf (.ite c a b) ro fr I = (ev cn cf c ro fr I).tst fun t I => bif t then ev cn cf a ro fr I else ev cn cf b ro fr I := id rfl
@[simp] theorem ev_tup (es : Tm) : ev cn cf (.tup es) ro fr I = (evK cn cf es ro fr I).bind fun ps I => (match frzAll ps with
    | some ds => bif decide (ds.length ≤ lim) then .ok (.tup ds, .fro) I else .bad
    | none => .bad) := id rfl
@[simp] theorem ev_lst (es : Tm) : ev cn cf (.lst es) ro fr I = (evK cn cf es ro fr I).bind fun ps I => (match frzAll ps with
    | some ds => bif decide (ds.length ≤ lim) then .ok (.lst ds, .new) I else .bad
    | none => .bad) := id rfl
@[simp] theorem ev_sub (a i : Tm) : ev cn cf (.sub a i) ro fr I = (ev cn cf a ro fr I).bind fun p I => (ev cn cf i (ro || isInst p.2) fr I).bind fun q I => subD p.1 q.1 p.2 I := id rfl
@[simp] theorem ev_slc (a lo hi : Tm) : ev cn cf (.slc a lo hi) ro fr I = (ev cn cf a ro fr I).bind fun p I => (evP cn cf lo (ro || isInst p.2) fr I).bind fun l I => (evP cn cf hi (ro || isInst p.2) fr I).bind fun h I => slcD p.1 p.2 l h I := id rfl
@[simp] theorem ev_call (x : Str) (es : Tm) : ev cn cf (.call x es) ro fr I = (evK cn cf es ro fr I).bind fun ps I => callD cf x ro ps I := id rfl
@[simp] theorem ev_blt (f : Bi) (es : Tm) : ev cn cf (.blt f es) ro fr I = (evK cn cf es ro fr I).bind fun ps I => biD f ps I := id rfl
@[simp] theorem ev_isi (a : Tm) (k : Str) : ev cn cf (.isi a [k]) ro fr I = (ev cn cf a ro fr I).bind fun p I => (match isiD p.1 k with
      | some b => b2 b I
      | none => .bad) := id rfl
@[simp] theorem evK_nil : evK cn cf .nil ro fr I = .ok [] I := id rfl
@[simp] theorem evK_cons (a b : Tm) : evK cn cf (.cons a b) ro fr I = (ev cn cf a ro fr I).bind fun p I => (evK cn cf b (ro || isInst p.2) fr I).bind fun ps I => .ok (p :: ps) I := id rfl
@[simp] theorem evP_nil : evP cn cf .nil ro fr I = .ok none I := id rfl
@[simp] theorem evP_cons (a : Tm) : evP cn cf (.cons a .nil) ro fr I = (ev cn cf a ro fr I).bind fun p I => (match p.1 with
    | .int i => .ok (some i) I
    | _ => .bad) := id rfl
@[simp] theorem evC_nil : evC cn cf .nil ro fr I = .ok true I := id rfl
@[simp] theorem evC_cons (a : Tm) : evC cn cf (.cons a .nil) ro fr I = (ev cn cf a ro fr I).tst fun t I => .ok t I := id rfl
@[simp] theorem evI_rng1 (a : Tm) : evI cn cf (.rng1 a) ro fr I = (ev cn cf a ro fr I).bind fun p I => (match p.1 with
    | .int n => bif big62 n then .ok (rngL 0 n, .fro) I else .bad
    | _ => .bad) := id rfl
@[simp] theorem evI_cons (a : Tm) : evI cn cf (.cons a .nil) ro fr I = (ev cn cf a ro fr I).bind fun p I => (match itD p with
    | some r => .ok r I
    | none => .bad) := id rfl
@[simp] theorem ex_nil : exec cn cf .nil ro fr I = .nx fr I := id rfl
@[simp] theorem ex_cons (s r : Sm) : exec cn cf (.cons s r) ro fr I = (exec cn cf s ro fr I).bind fun fr I => exec cn cf r ro fr I := id rfl
@[simp] theorem ex_pass : exec cn cf .pass ro fr I = .nx fr I := id rfl
@[simp] theorem ex_asg (i : Nat) (e : Tm) : exec cn cf (.asg i e) ro fr I = (ev cn cf e ro fr I).stm fr fun p I => (match frzK p with
    | some d => .nx (fr.set i (.val d)) I
    | none => .bad) := id rfl
@[simp] theorem ex_own (i : Nat) (e : Tm) : exec cn cf (.own i e) ro fr I = (ev cn cf e ro fr I).stm fr fun p I => (match stoK true p with
    | some s => .nx (fr.set i s) I
    | none => .bad) := id rfl
@[simp] theorem ex_par (tg : List (Nat × Bool)) (es : Tm) : exec cn cf (.par tg es) ro fr I = (evK cn cf es ro fr I).stm fr fun ps I => (match stoAll tg ps fr with
    | some fr => .nx fr I
    | none => .bad) := id rfl
@[simp] theorem ex_unp (tg : List Nat) (e : Tm) : exec cn cf (.unp tg e) ro fr I = (ev cn cf e ro fr I).stm fr fun p I => (match frzK p with
    | some d => (match asgT (.tp tg) d fr with
      | some fr => .nx fr I
      | none => .bad)
    | none => .bad) := id rfl
@[simp] theorem ex_app (i : Nat) (e : Tm) : exec cn cf (.app i e) ro fr I = (match fr[i]? with
    | some (.lst xs) => (ev cn cf e ro fr I).stm fr fun p I => (match frzK p with
      | some d => bif decide (xs.length < lim) then .nx (fr.set i (.lst (xs ++ [d]))) I else .bad
      | none => .bad)
    | _ => .bad) := id rfl
@[simp] theorem ex_ext (i : Nat) (e : Tm) : exec cn cf (.ext i e) ro fr I = (match fr[i]? with
    | some (.lst xs) => (ev cn cf e ro fr I).stm fr fun p I => (match p.1 with
      | .lst ys => bif decide (xs.length + ys.length ≤ lim) then .nx (fr.set i (.lst (xs ++ ys))) I else .bad
      | _ => .bad)
    | _ => .bad) := id rfl
@[simp] theorem ex_iff (c : Tm) (a b : Sm) : exec cn cf (.iff c a b) ro fr I = ((ev cn cf c ro fr I).tst fun t I => .ok t I).stm fr fun t I => bif t then exec cn cf a ro fr I else exec cn cf b ro fr I := id rfl
@[simp] theorem ex_ret (e : Tm) : exec cn cf (.ret e) ro fr I = (ev cn cf e ro fr I).stm fr fun p I => (match stoK true p with
    | some s => .rt s I
    | none => .bad) := id rfl
@[simp] theorem ex_retOwn (i : Nat) : exec cn cf (.retOwn i) ro fr I = (match fr[i]? with
    | some s => (match s.out with
      | some _ => .rt s I
      | none => .bad)
    | none => .bad) := id rfl
theorem ex_for {tg : Tg} {it : Tm} {body : Sm} {xs : List D} {k : Kd} (hI : evI cn cf it ro fr I = .ok (xs, k) I) (hk : k = .fro ∨ k = .new) : exec cn cf (.for tg it body) ro fr I = forL (fun fr I => exec cn cf body ro fr I) tg xs fr I := by
  rw [exec, hI]
  rcases hk with rfl | rfl <;> simp [isInst]
end
@[simp] theorem isi_non_int : isiD D.non "int" = some false := rfl
@[simp] theorem isi_non_bool : isiD D.non "bool" = some false := rfl
@[simp] theorem isi_non_str : isiD D.non "str" = some false := rfl
@[simp] theorem isi_non_tuple : isiD D.non "tuple" = some false := rfl
@[simp] theorem isi_non_list : isiD D.non "list" = some false := rfl
@[simp] theorem isi_bl_int (b : Bool) : isiD (D.bl b) "int" = some true := rfl
@[simp] theorem isi_bl_bool (b : Bool) : isiD (D.bl b) "bool" = some true := rfl
@[simp] theorem isi_bl_str (b : Bool) : isiD (D.bl b) "str" = some false := rfl
@[simp] theorem isi_bl_tuple (b : Bool) : isiD (D.bl b) "tuple" = some false := rfl
@[simp] theorem isi_bl_list (b : Bool) : isiD (D.bl b) "list" = some false := rfl
@[simp] theorem isi_int_int (i : Int) : isiD (D.int i) "int" = some true := rfl
@[simp] theorem isi_int_bool (i : Int) : isiD (D.int i) "bool" = some false := rfl
@[simp] theorem isi_int_str (i : Int) : isiD (D.int i) "str" = some false := rfl
@[simp] theorem isi_int_tuple (i : Int) : isiD (D.int i) "tuple" = some false := rfl
@[simp] theorem isi_int_list (i : Int) : isiD (D.int i) "list" = some false := rfl
@[simp] theorem isi_str_int (z : Str) : isiD (D.str z) "int" = some false := rfl
@[simp] theorem isi_str_bool (z : Str) : isiD (D.str z) "bool" = some false := rfl
@[simp] theorem isi_str_str (z : Str) : isiD (D.str z) "str" = some true := rfl
@[simp] theorem isi_str_tuple (z : Str) : isiD (D.str z) "tuple" = some false := rfl
@[simp] theorem isi_str_list (z : Str) : isiD (D.str z) "list" = some false := rfl
@[simp] theorem isi_tup_int (xs : List D) : isiD (D.tup xs) "int" = some false := rfl
@[simp] theorem isi_tup_bool (xs : List D) : isiD (D.tup xs) "bool" = some false := rfl
@[simp] theorem isi_tup_str (xs : List D) : isiD (D.tup xs) "str" = some false := rfl
@[simp] theorem isi_tup_tuple (xs : List D) : isiD (D.tup xs) "tuple" = some true := rfl
@[simp] theorem isi_tup_list (xs : List D) : isiD (D.tup xs) "list" = some false := rfl
@[simp] theorem isi_lst_int (xs : List D) : isiD (D.lst xs) "int" = some false := rfl
@[simp] theorem isi_lst_bool (xs : List D) : isiD (D.lst xs) "bool" = some false := rfl
@[simp] theorem isi_lst_str (xs : List D) : isiD (D.lst xs) "str" = some false := rfl
@[simp] theorem isi_lst_tuple (xs : List D) : isiD (D.lst xs) "tuple" = some false := rfl
@[simp] theorem isi_lst_list (xs : List D) : isiD (D.lst xs) "list" = some true := rfl
@[simp] theorem isi_scr_int (ns : List Int) : isiD (D.scr ns) "int" = some false := rfl
@[simp] theorem isi_scr_bool (ns : List Int) : isiD (D.scr ns) "bool" = some false := rfl
@[simp] theorem isi_scr_str (ns : List Int) : isiD (D.scr ns) "str" = some false := rfl
@[simp] theorem isi_scr_tuple (ns : List Int) : isiD (D.scr ns) "tuple" = some false := rfl
@[simp] theorem isi_scr_list (ns : List Int) : isiD (D.scr ns) "list" = some true := rfl
/-- a thing that is no instance, no table -/
def D.pl : D → Bool
  | .ins _ => false
  | .dT _ _ => false
  | .dK _ _ => false
  | _ => true
/-! ### rows of signs -/
def S (l : List Nat) : Str := ⟨⟨l⟩⟩
theorem S_app (a b : List Nat) : S a ++ S b = S (a ++ b) := by
  show (⟨(S a).cps ++ (S b).cps⟩ : Str) = S (a ++ b)
  simp [S]
theorem S_len (a : List Nat) : (S a).length = a.length := rfl
theorem S_cps (a : List Nat) : (S a).cps.toList = a := rfl
theorem S_of (z : Str) : S z.cps.toList = z := rfl
def L26 : Str := "abcdefghijklmnopqrstuvwxyz"
def isL (c : Nat) : Bool := decide (97 ≤ c) && decide (c ≤ 122)
theorem mem_L26 (c : Nat) : (decide (c ∈ L26.cps.toList)) = isL c := by
  have e : L26.cps.toList = (List.range 26).map (97 + ·) := by decide +kernel
  rw [e]
  unfold isL
  by_cases h : 97 ≤ c ∧ c ≤ 122
  · rw [decide_eq_true h.1, decide_eq_true h.2]
    exact decide_eq_true (List.mem_map.mpr ⟨c - 97, List.mem_range.mpr (by omega), by omega⟩)
  · have : ¬ c ∈ (List.range 26).map (97 + ·) := fun z => by
      obtain ⟨a, h1, h2⟩ := List.mem_map.mp z
      have := List.mem_range.mp h1
      exact h ⟨by omega, by omega⟩
    rw [decide_eq_false this]
    by_cases h1 : 97 ≤ c
    · rw [decide_eq_true h1, decide_eq_false fun h2 => h ⟨h1, h2⟩]; rfl
    · rw [decide_eq_false h1]; rfl
/-- the letter of a number -/
def lt (j : Int) : Nat := 97 + j.toNat
theorem atI_L26 {j : Int} (h0 : 0 ≤ j) (h1 : j < 26) : L2.atI L26.cps.toList j = some (lt j) := by
  have e : L26.cps.toList = (List.range 26).map (97 + ·) := by decide +kernel
  rw [e, atI_in h0 (by simpa using h1)]
  have : j.toNat < 26 := by omega
  simp [lt, this]
theorem sub_L26 {j : Int} {k : Kd} {I : Is} (h0 : 0 ≤ j) (h1 : j < 26) : subD (.str L26) (.int j) k I = .ok (.str (S [lt j]), .fro) I := by
  unfold subD
  have : decide (L26.length ≤ lim) = true := by decide +kernel
  simp only [this, cond_true, atI_L26 h0 h1]
  rfl
theorem isL_lt {j : Int} (h0 : 0 ≤ j) (h1 : j < 26) : isL (lt j) = true := by
  unfold isL lt
  simp only [Bool.and_eq_true, decide_eq_true_eq]
  omega
/-! ### lists made item by item, loops -/
theorem lcL_fm {step : Fr → Is → R (Option D)} {i : Nat} {fr : Fr} {I : Is} (o : D → Option D) : ∀ xs : List D, (∀ x ∈ xs, step (fr.set i (.val x)) I = .ok (o x) I) → lcL step (.nm i) fr xs I = .ok (xs.filterMap o) I
  | [], _ => rfl
  | x :: xs, h => by
    have h1 := h x List.mem_cons_self
    have h2 := lcL_fm o xs fun y hy => h y (List.mem_cons_of_mem _ hy)
    simp only [lcL, asgT, h1, h2, R.bind]
    cases e : o x with
    | none => simp [List.filterMap_cons, e]
    | some y => simp [List.filterMap_cons, e]
theorem forL_ex {body : Fr → Is → Xr} {tg : Tg} {I : Is} (P : Nat → Fr → Prop) : ∀ (xs : List D) (j : Nat) (fr : Fr), P j fr → (∀ i x fr, xs[i]? = some x → P (j + i) fr → ∃ fr1 fr2, asgT tg x fr = some fr1 ∧ (body fr1 I = .nx fr2 I ∨ body fr1 I = .ct fr2 I) ∧ P (j + i + 1) fr2) → ∃ fr', forL body tg xs fr I = .nx fr' I ∧ P (j + xs.length) fr'
  | [], j, fr, h, _ => ⟨fr, rfl, h⟩
  | x :: xs, j, fr, h, hs => by
    obtain ⟨fr1, fr2, h1, h2, h3⟩ := hs 0 x fr rfl h
    obtain ⟨fr', h4, h5⟩ := forL_ex P xs (j + 1) fr2 (by simpa using h3) fun i y fr hy hp => by
      obtain ⟨g1, g2, k1, k2, k3⟩ := hs (i + 1) y fr (by simpa using hy) (by rw [show j + (i + 1) = j + 1 + i by omega]; exact hp)
      exact ⟨g1, g2, k1, k2, by rw [show j + 1 + i + 1 = j + (i + 1) + 1 by omega]; exact k3⟩
    refine ⟨fr', ?_, by rw [List.length_cons, show j + (xs.length + 1) = j + 1 + xs.length by omega]; exact h5⟩
    simp only [forL, h1]
    rcases h2 with h2 | h2 <;> simp only [h2, h4]
theorem blsD_map {α : Type} (g : α → Bool) : ∀ xs : List α, blsD (xs.map fun x => D.bl (g x)) = some (xs.map g)
  | [] => rfl
  | x :: xs => by simp [blsD, blsD_map g xs]
theorem call_val {cf : Str → Bool → List D → Is → R Sl} {x : Str} {ps : List (D × Kd)} {ds : List D} {v : D} {ro : Bool} {I : Is} (e : frzAll ps = some ds) (h : cf x ro ds I = .ok (.val v) I) : callD cf x ro ps I = .ok (v, .fro) I := by
  unfold callD
  rw [e]
  cases ro <;> simp [h, R.reset, R.bind, Sl.out]
theorem call_lst {cf : Str → Bool → List D → Is → R Sl} {x : Str} {ps : List (D × Kd)} {ds : List D} {v : List D} {ro : Bool} {I : Is} (e : frzAll ps = some ds) (h : cf x ro ds I = .ok (.lst v) I) : callD cf x ro ps I = .ok (.lst v, .new) I := by
  unfold callD
  rw [e]
  cases ro <;> simp [h, R.reset, R.bind, Sl.out]

section
variable {cn : Str → Option D} {cf : Str → Bool → List D → Is → R Sl} {ro : Bool} {fr : Fr} {I : Is}
theorem ev_lcf {own : List (Str × Nat)} {elt it cond : Tm} {i : Nat} {ds : List D} {k : Kd} (o : D → Option D) (hI : evI cn cf it ro fr I = .ok (ds, k) I) (hk : isInst k = false) (hl : (ds.filterMap o).length ≤ lim)
    (h : ∀ x ∈ ds, ((evC cn cf cond ro ((wipeF fr own).set i (.val x)) I).bind fun t I => bif t then (ev cn cf elt ro ((wipeF fr own).set i (.val x)) I).fz fun d I => .ok (some d) I else .ok none I) = .ok (o x) I) :
    ev cn cf (.lc own elt (.nm i) it cond) ro fr I = .ok (.lst (ds.filterMap o), .new) I := by
  rw [ev, hI]
  simp only [bind_ok, hk, Bool.or_false]
  rw [lcL_fm o ds h]
  simp [hl]
theorem ev_lcm {own : List (Str × Nat)} {elt it : Tm} {i : Nat} {ds : List D} {k : Kd} (g : D → D) (hI : evI cn cf it ro fr I = .ok (ds, k) I) (hk : isInst k = false) (hl : ds.length ≤ lim)
    (h : ∀ x ∈ ds, ∃ kk, ev cn cf elt ro ((wipeF fr own).set i (.val x)) I = .ok (g x, kk) I ∧ (kk = .fro ∨ kk = .new)) :
    ev cn cf (.lc own elt (.nm i) it .nil) ro fr I = .ok (.lst (ds.map g), .new) I := by
  have e : ds.filterMap (fun x => some (g x)) = ds.map g := by rw [List.filterMap_eq_map']
  rw [← e]
  refine ev_lcf (fun x => some (g x)) hI hk (by rw [e, List.length_map]; exact hl) fun x hx => ?_
  obtain ⟨kk, h1, h2⟩ := h x hx
  simp only [evC_nil, bind_ok, cond_true, h1]
  rcases h2 with rfl | rfl <;> simp
end
/-! ### is_number, is_name -/
def numS : Sm := (.cons (.ret (.and (.isi (.loc 0) ["int"]) (.and (.not (.isi (.loc 0) ["bool"])) (.ch2 .le .le (.loc 1) (.loc 0) (.loc 2)))))
      .nil)
def numB : D → Int → Int → Bool
  | .int i, lo, hi => decide (lo ≤ i) && decide (i ≤ hi)
  | _, _, _ => false
section
variable {Γ : Gm}
theorem num_run (h : Γ.fn "is_number" = some ⟨3, 3, [], numS⟩) {d : D} (hd : d.pl = true) (lo hi : Int) (n : Nat) (ro : Bool) (I : Is) : callN Γ (n + 1) "is_number" ro [d, .int lo, .int hi] I = .ok (.val (.bl (numB d lo hi))) I := by
  unfold callN
  rw [h]
  cases d <;> first | (cases hd; done) | skip
  case int i =>
    by_cases h1 : lo ≤ i <;> by_cases h2 : i ≤ hi <;> simp [numS, numB, h1, h2, fillD, stoK, b2, cmpD]
  all_goals simp [numS, numB, fillD, stoK, b2, cmpD]
def nameS : Sm := (.cons (.ret (.and (.isi (.loc 0) ["str"]) (.and (.ch2 .le .le (.cns (.int 1)) (.blt .len (.cons (.loc 0) .nil)) (.gk "LONGEST_NAME")) (.blt .all (.cons (.lc [("sign", 1)] (.cmp .inn (.loc 1) (.gk "LETTERS")) (.nm 1) (.cons (.loc 0) .nil) .nil) .nil)))))
      .nil)
def nameL (l : List Nat) : Bool := decide (1 ≤ l.length) && (decide (l.length ≤ 6) && l.all isL)
def nameB : D → Bool
  | .str z => nameL z.cps.toList
  | _ => false
def D.fits : D → Bool
  | .str z => decide (z.length ≤ lim)
  | _ => true
theorem name_run (h : Γ.fn "is_name" = some ⟨1, 2, [], nameS⟩) (h1 : Γ.cn "LONGEST_NAME" = some (.int 6)) (h2 : Γ.cn "LETTERS" = some (.str L26)) {d : D} (hd : d.pl = true) (hf : d.fits = true) (n : Nat) (ro : Bool) (I : Is) :
    callN Γ (n + 1) "is_name" ro [d] I = .ok (.val (.bl (nameB d))) I := by
  unfold callN
  rw [h]
  cases d <;> first | (cases hd; done) | skip
  case str z =>
    have hz : decide (z.length ≤ lim) = true := hf
    have hlen : z.cps.toList.length = z.length := by simp [Str.length]
    have hz2 : z.length ≤ lim := of_decide_eq_true hz
    have hm : ∀ c : Nat, inDD (.str ⟨#[c]⟩) (.str L26) = some (isL c) := fun c => by rw [← mem_L26]; rfl
    have lc : ev Γ.cn (callN Γ n) (.lc [("sign", 1)] (.cmp .inn (.loc 1) (.gk "LETTERS")) (.nm 1) (.cons (.loc 0) .nil) .nil) ro [.val (.str z), .no] I = .ok (.lst (z.cps.toList.map fun c => D.bl (isL c)), .new) I := by
      have q := ev_lcm (cn := Γ.cn) (cf := callN Γ n) (ro := ro) (fr := [.val (.str z), .no]) (I := I) (own := [("sign", 1)]) (elt := .cmp .inn (.loc 1) (.gk "LETTERS")) (it := .cons (.loc 0) .nil) (i := 1) (ds := z.cps.toList.map fun c => D.str ⟨#[c]⟩) (k := .fro) (fun d => .bl ((inDD d (.str L26)).getD false)) (by simp [itD]) rfl (by rw [List.length_map, hlen]; exact hz2) (fun x hx => by
        obtain ⟨c, _, rfl⟩ := List.mem_map.mp hx
        exact ⟨.fro, by simp [wipeF, ev_gk h2, cmpD, hm, b2], .inl rfl⟩)
      rw [q, List.map_map]
      congr 3
      exact List.map_congr_left fun c _ => by simp [hm]
    have ha : biD .all [((D.lst (z.cps.toList.map fun c => D.bl (isL c))), Kd.new)] I = .ok (.bl (z.cps.toList.all isL), .fro) I := by
      simp [biD, blsD_map]
    simp only [nameB, nameL, hlen]
    have d1 : decide ((1 : Int) ≤ (z.length : Int)) = decide (1 ≤ z.length) := decide_eq_decide.mpr (by omega)
    have d2 : decide ((z.length : Int) ≤ 6) = decide (z.length ≤ 6) := decide_eq_decide.mpr (by omega)
    have hb : biD .len [(D.str z, Kd.fro)] I = .ok (.int z.length, .fro) I := by simp [biD, hz2]
    cases k1 : decide (1 ≤ z.length) <;> cases k2 : decide (z.length ≤ 6)
    all_goals simp only [nameS, fillD, List.length_cons, List.length_nil, Nat.zero_add, Nat.le_refl, decide_true, Bool.and_self, Nat.add_zero, cond_true, List.drop_nil, List.append_nil, List.map_cons, List.map_nil, Nat.reduceSub, List.replicate_succ, List.replicate_zero, List.cons_append, List.nil_append, ex_cons, ex_ret, ex_nil, ev_and, ev_isi, ev_loc, List.getElem?_cons_zero, bind_ok, isi_str_str, b2, tst_ok, ev_ch2, ev_cns, cs_int, isInst, Bool.or_false, ev_blt, evK_cons, evK_nil, hb, cmpD, d1, d2, k1, k2, cond_false, ev_gk h1, gkR, lc, ha, stm_ok, stoK, rt_bind, run_rt, Bool.false_and, Bool.true_and]
  all_goals simp [nameS, nameB, fillD, stoK, b2]
end
end Air
/-! Air: plain laws (3): sorts, shows, drawn names. -/
namespace Air
open PySem L2
@[simp] theorem pyeq_int (i j : Int) : D.pyeq (.int i) (.int j) = decide (i = j) := by
  simp [D.pyeq, D.py, PyData.eqv]
  rfl
@[simp] theorem sl_val (d : D) : (Sl.val d).out = some (d, .fro) := id rfl
@[simp] theorem sl_lst (d : List D) : (Sl.lst d).out = some (.lst d, .new) := id rfl
@[simp] theorem frzAll_nil : frzAll [] = some [] := id rfl
@[simp] theorem frzAll_fro (d : D) (ps : List (D × Kd)) : frzAll ((d, .fro) :: ps) = (frzAll ps).map (d :: ·) := by
  cases h : frzAll ps <;> simp [frzAll, frzK, h]
@[simp] theorem frzAll_new (d : D) (ps : List (D × Kd)) : frzAll ((d, .new) :: ps) = (frzAll ps).map (d :: ·) := by
  cases h : frzAll ps <;> simp [frzAll, frzK, h]
@[simp] theorem frzK_fro (d : D) : frzK (d, .fro) = some d := id rfl
@[simp] theorem frzK_new (d : D) : frzK (d, .new) = some d := id rfl
@[simp] theorem stoK_fro (b : Bool) (d : D) : stoK b (d, .fro) = some (.val d) := id rfl
@[simp] theorem stoK_lst (d : List D) : stoK true (.lst d, .new) = some (.lst d) := id rfl
@[simp] theorem stoK_nw (d : D) : stoK false (d, .new) = some (.val d) := id rfl
@[simp] theorem isI_fro : isInst .fro = false := id rfl
@[simp] theorem isI_new : isInst .new = false := id rfl
@[simp] theorem isI_own : isInst .own = false := id rfl
@[simp] theorem isI_cst : isInst .cst = false := id rfl
theorem callD_of {cf : Str → Bool → List D → Is → R Sl} {x : Str} {ps : List (D × Kd)} {ds : List D} {s : Sl} {p : D × Kd} {ro : Bool} {I : Is} (e : frzAll ps = some ds) (h : ∀ ro, cf x ro ds I = .ok s I) (hs : s.out = some p) : callD cf x ro ps I = .ok p I := by
  unfold callD
  rw [e]
  cases ro <;> simp [h, hs]
theorem le_lim {n : Nat} (h : n ≤ 1000000) : n ≤ lim := Nat.le_trans h (by decide)
theorem lim5 : 5 ≤ lim := by decide
def sortS : Sm := (.cons (.ret (.and (.isi (.loc 0) ["str"]) (.cmp .inn (.loc 0) (.gk "SORTS"))))
      .nil)
def sorts3 : List D := [(.str "news"), (.str "talk"), (.str "tune")]
def sortB : D → Bool
  | .str z => inD (.str z) sorts3
  | _ => false
section
variable {Γ : Gm}
theorem sort_run (h : Γ.fn "is_sort" = some ⟨1, 1, [], sortS⟩) (h1 : Γ.cn "SORTS" = some (.tup sorts3)) {d : D} (hd : d.pl = true) (n : Nat) (ro : Bool) (I : Is) :
    callN Γ (n + 1) "is_sort" ro [d] I = .ok (.val (.bl (sortB d))) I := by
  unfold callN
  rw [h]
  cases d <;> first | (cases hd; done) | skip
  case str z =>
    have e : inDD (.str z) (.tup sorts3) = some (inD (.str z) sorts3) := rfl
    simp [sortS, fillD, b2, cmpD, ev_gk h1, e, sortB]
  all_goals simp [sortS, sortB, fillD, b2]
def showS : Sm := (.cons (.iff (.or (.not (.isi (.loc 0) ["tuple"])) (.cmp .ne (.blt .len (.cons (.loc 0) .nil)) (.cns (.int 5)))) (.cons (.ret (.cns (.bl false)))
      .nil) .nil)
      (.cons (.unp [1, 2, 3, 4, 5] (.loc 0))
      (.cons (.iff (.or (.not (.call "is_name" (.cons (.loc 1) .nil))) (.or (.not (.call "is_sort" (.cons (.loc 2) .nil))) (.not (.call "is_number" (.cons (.loc 3) (.cons (.cns (.int 1)) (.cons (.gk "LONGEST") .nil))))))) (.cons (.ret (.cns (.bl false)))
      .nil) .nil)
      (.cons (.ret (.and (.isi (.loc 4) ["bool"]) (.call "is_number" (.cons (.loc 5) (.cons (.cns (.int 0)) (.cons (.gk "MOST_TIMES") .nil))))))
      .nil))))
def D.isB : D → Bool
  | .bl _ => true
  | _ => false
def showB : D → Bool
  | .tup [a, b, c, d, e] => nameB a && (sortB b && (numB c 1 8 && (D.isB d && numB e 0 9)))
  | _ => false
/-- the module's shows -/
structure ShowM (Γ : Gm) : Prop where
  num : Γ.fn "is_number" = some ⟨3, 3, [], numS⟩
  nam : Γ.fn "is_name" = some ⟨1, 2, [], nameS⟩
  srt : Γ.fn "is_sort" = some ⟨1, 1, [], sortS⟩
  shw : Γ.fn "is_show" = some ⟨1, 6, [], showS⟩
  c1 : Γ.cn "LONGEST_NAME" = some (.int 6)
  c2 : Γ.cn "LETTERS" = some (.str L26)
  c3 : Γ.cn "SORTS" = some (.tup sorts3)
  c4 : Γ.cn "LONGEST" = some (.int 8)
  c5 : Γ.cn "MOST_TIMES" = some (.int 9)
def D.okay (d : D) : Bool := d.pl && d.fits
def D.okays : D → Bool
  | .tup xs => xs.all D.okay
  | d => d.pl
theorem show_run (m : ShowM Γ) {d : D} (hd : d.okays = true) (n : Nat) (ro : Bool) (I : Is) :
    callN Γ (n + 2) "is_show" ro [d] I = .ok (.val (.bl (showB d))) I := by
  unfold callN
  rw [m.shw]
  cases d <;> first | (cases hd; done) | skip
  case tup xs =>
    by_cases hx : xs.length = 5
    · match xs, hx with
      | [a, b, c, d, e], _ =>
        simp only [D.okays, D.okay, List.all_cons, List.all_nil, Bool.and_true, Bool.and_eq_true] at hd
        obtain ⟨⟨a1, a2⟩, ⟨b1, b2'⟩, ⟨c1, c2⟩, ⟨d1, d2⟩, e1, e2⟩ := hd
        have ha : ∀ ro, callN Γ (n + 1) "is_name" ro [a] I = _ := fun ro => name_run m.nam m.c1 m.c2 a1 a2 n ro I
        have hb : ∀ ro, callN Γ (n + 1) "is_sort" ro [b] I = _ := fun ro => sort_run m.srt m.c3 b1 n ro I
        have hc : ∀ ro, callN Γ (n + 1) "is_number" ro [c, .int 1, .int 8] I = _ := fun ro => num_run m.num c1 1 8 n ro I
        have he : ∀ ro, callN Γ (n + 1) "is_number" ro [e, .int 0, .int 9] I = _ := fun ro => num_run m.num e1 0 9 n ro I
        have ka : ∀ ro, callD (callN Γ (n + 1)) "is_name" ro [(a, .fro)] I = _ := fun ro => callD_of rfl ha rfl
        have kb : ∀ ro, callD (callN Γ (n + 1)) "is_sort" ro [(b, .fro)] I = _ := fun ro => callD_of rfl hb rfl
        have kc : ∀ ro, callD (callN Γ (n + 1)) "is_number" ro [(c, .fro), (.int 1, .fro), (.int 8, .fro)] I = _ := fun ro => callD_of rfl hc rfl
        have ke : ∀ ro, callD (callN Γ (n + 1)) "is_number" ro [(e, .fro), (.int 0, .fro), (.int 9, .fro)] I = _ := fun ro => callD_of rfl he rfl
        have kd : isiD d "bool" = some (D.isB d) := by cases d <;> first | (cases d1; done) | rfl
        have hlen : biD .len [(.tup [a, b, c, d, e], .fro)] I = .ok (.int 5, .fro) I := rfl
        have hne : cmpD .ne (.int 5) (.int 5) I = .ok (.bl false, .fro) I := rfl
        cases q1 : nameB a <;> cases q2 : sortB b <;> cases q3 : numB c 1 8 <;> cases q4 : D.isB d
        all_goals simp [showS, fillD, hlen, hne, b2, asgT, ka, kb, kc, ke, kd, ev_gk m.c4, ev_gk m.c5, showB, q1, q2, q3, q4]
    · have hlen : biD .len [(.tup xs, .fro)] I = .ok (.int xs.length, .fro) I := rfl
      have hne : cmpD .ne (.int xs.length) (.int 5) I = .ok (.bl true, .fro) I := by
        have : ¬ (xs.length : Int) = 5 := by omega
        simp [cmpD, D.eqc, D.dep, b2, this]
      have hs : showB (.tup xs) = false := by
        unfold showB
        split
        · rename_i e
          injection e with e
          subst e; simp at hx
        · rfl
      simp [showS, fillD, hlen, hne, b2, hs]
  all_goals simp [showS, fillD, b2, showB]

/-! ### drawn names -/
def nmIn : Sm := (.cons (.asg 6 (.bin .add (.loc 6) (.sub (.loc 3) (.call "_law_pick" (.cons (.loc 0) (.cons (.bin .add (.bin .add (.bin .add (.loc 1) (.bin .mul (.cns (.int 7)) (.loc 5))) (.loc 7)) (.cns (.int 1))) (.cons (.cns (.int 26)) .nil)))))))
      .nil)
def nmIt : Tm := .rng1 (.sub (.lst (.cons (.cns (.int 0)) (.cons (.cns (.int 0)) (.cons (.cns (.int 1)) (.cons (.cns (.int 2)) (.cons (.cns (.int 5)) .nil)))))) (.call "_law_pick" (.cons (.loc 0) (.cons (.bin .add (.loc 1) (.bin .mul (.cns (.int 7)) (.loc 5))) (.cons (.cns (.int 5)) .nil)))))
def nmTl : Sm := (.cons (.asg 8 (.sub (.loc 3) (.bin .md (.bin .add (.call "_law_pick" (.cons (.loc 0) (.cons (.bin .add (.loc 1) (.cns (.int 60))) (.cons (.cns (.int 26)) .nil)))) (.loc 5)) (.cns (.int 26)))))
      (.cons (.app 4 (.ite (.cmp .eq (.call "_law_pick" (.cons (.loc 0) (.cons (.bin .add (.loc 1) (.cns (.int 61))) (.cons (.cns (.int 2)) .nil)))) (.cns (.int 0))) (.bin .add (.loc 6) (.loc 8)) (.bin .add (.loc 8) (.loc 6))))
      .nil))
def nmOut : Sm := .cons (.asg 6 (.cns (.str ""))) (.cons (.for (.nm 7) nmIt nmIn) nmTl)
def namesS : Sm := (.cons (.par [(3, false), (4, true)] (.cons (.cns (.str "abcdefghijklmnopqrstuvwxyz")) (.cons (.lst .nil) .nil)))
      (.cons (.for (.nm 5) (.rng1 (.loc 2)) nmOut)
      (.cons (.retOwn 4)
      .nil)))
def restN (ns : List Int) (at_ k : Int) : Nat := ([0, 0, 1, 2, 5] : List Nat).getD (pickF ns (at_ + 7 * k) 5).toNat 0
def restL (ns : List Int) (at_ k : Int) (m : Nat) : List Nat := (List.range m).map fun (j : Nat) => lt (pickF ns (at_ + 7 * k + j + 1) 26)
def markL (ns : List Int) (at_ k : Int) : List Nat := [lt ((pickF ns (at_ + 60) 26 + k) % 26)]
def nmL (ns : List Int) (at_ : Int) (k : Int) : List Nat := if pickF ns (at_ + 61) 2 = 0 then restL ns at_ k (restN ns at_ k) ++ markL ns at_ k else markL ns at_ k ++ restL ns at_ k (restN ns at_ k)
def nmsL (ns : List Int) (at_ : Int) (m : Nat) : List (List Nat) := (List.range m).map fun (k : Nat) => nmL ns at_ k
theorem rngL_get {lo hi : Int} {i : Nat} {x : D} (h : (rngL lo hi)[i]? = some x) : x = .int (lo + i) ∧ lo + i < hi := by
  unfold rngL at h
  rw [List.getElem?_map] at h
  by_cases hi' : i < (hi - lo).toNat
  · rw [List.getElem?_range hi'] at h
    cases h
    exact ⟨rfl, by omega⟩
  · rw [List.getElem?_eq_none (by simpa using hi')] at h
    cases h
theorem restN_le (ns : List Int) (at_ k : Int) : restN ns at_ k ≤ 5 := by
  unfold restN
  obtain ⟨h1, h2⟩ := pickF_in ns (at_ + 7 * k) (m := 5) (by omega)
  generalize (pickF ns (at_ + 7 * k) 5) = r at h1 h2
  have : r = 0 ∨ r = 1 ∨ r = 2 ∨ r = 3 ∨ r = 4 := by omega
  rcases this with rfl | rfl | rfl | rfl | rfl <;> decide
theorem restN_at (ns : List Int) (at_ k : Int) {kd : Kd} {I : Is} : subD (.lst [.int 0, .int 0, .int 1, .int 2, .int 5]) (.int (pickF ns (at_ + 7 * k) 5)) kd I = .ok (.int (restN ns at_ k), .fro) I := by
  unfold restN
  obtain ⟨h1, h2⟩ := pickF_in ns (at_ + 7 * k) (m := 5) (by omega)
  generalize (pickF ns (at_ + 7 * k) 5) = r at h1 h2
  have : r = 0 ∨ r = 1 ∨ r = 2 ∨ r = 3 ∨ r = 4 := by omega
  rcases this with rfl | rfl | rfl | rfl | rfl <;> rfl
/-- a drawing, as a term's call -/
def Pk (cf : Str → Bool → List D → Is → R Sl) (ns : List Int) (I : Is) : Prop := ∀ k q : Int, 0 ≤ k → k < 1000000 → 0 < q → ∀ ro, callD cf "_law_pick" ro [(.scr ns, .fro), (.int k, .fro), (.int q, .fro)] I = .ok (.int (pickF ns k q), .fro) I
section
variable {cn : Str → Option D} {cf : Str → Bool → List D → Is → R Sl} {ns : List Int} {I : Is} {at_ : Int} {ro : Bool}
theorem S_add (a b : List Nat) (h : a.length + b.length ≤ lim) : binD .add (.str (S a)) (.str (S b)) I = .ok (.str (S (a ++ b)), .fro) I := by
  show (bif decide (a.length + b.length ≤ lim) then R.ok (D.str (S a ++ S b), Kd.fro) I else .bad) = _
  rw [decide_eq_true h, S_app]; rfl
theorem small7 : small 7 = true := by decide
theorem restL_succ (k : Int) (j : Nat) : restL ns at_ k (j + 1) = restL ns at_ k j ++ [lt (pickF ns (at_ + 7 * k + j + 1) 26)] := by
  unfold restL
  rw [List.range_succ, List.map_append]; rfl
theorem restL_len (k : Int) (j : Nat) : (restL ns at_ k j).length = j := by simp [restL]
theorem nmIn_run (pk : Pk cf ns I) {k : Nat} {a2 mk b7 b8 : Sl} {r : Nat} (hr : r ≤ 5) (h0 : 0 ≤ at_) (h1 : at_ + 7 * k + 100 < 1000000) :
    ∃ b7', forL (fun fr I => exec cn cf nmIn ro fr I) (.nm 7) (rngL 0 r) [.val (.scr ns), .val (.int at_), a2, .val (.str L26), mk, .val (.int k), .val (.str (S [])), b7, b8] I = .nx [.val (.scr ns), .val (.int at_), a2, .val (.str L26), mk, .val (.int k), .val (.str (S (restL ns at_ k r))), b7', b8] I := by
  obtain ⟨fr', e, b7', he⟩ := forL_ex (body := fun fr I => exec cn cf nmIn ro fr I) (tg := .nm 7) (I := I)
    (fun j fr => ∃ b7, fr = [.val (.scr ns), .val (.int at_), a2, .val (.str L26), mk, .val (.int k), .val (.str (S (restL ns at_ k j))), b7, b8]) (rngL 0 r) 0 _ ⟨b7, rfl⟩ (by
    rintro j x fr hx ⟨b7, rfl⟩
    obtain ⟨rfl, hj⟩ := rngL_get hx
    rw [Int.zero_add] at hj ⊢
    rw [Nat.zero_add]
    refine ⟨[.val (.scr ns), .val (.int at_), a2, .val (.str L26), mk, .val (.int k), .val (.str (S (restL ns at_ k j))), .val (.int j), b8], [.val (.scr ns), .val (.int at_), a2, .val (.str L26), mk, .val (.int k), .val (.str (S (restL ns at_ k (j + 1)))), .val (.int j), b8], rfl, .inl ?_, _, rfl⟩
    have p := pk (at_ + 7 * k + j + 1) 26 (by omega) (by omega) (by omega)
    obtain ⟨q0, q1⟩ := pickF_in ns (at_ + 7 * k + j + 1) (m := 26) (by omega)
    have e1 : binD .mul (.int 7) (.int (k : Int)) I = .ok (.int (7 * k), .fro) I := by simp [binD, small7]
    have e2 : ∀ a b : Int, binD .add (.int a) (.int b) I = .ok (.int (a + b), .fro) I := fun _ _ => rfl
    have e3 := S_add (I := I) (restL ns at_ k j) [lt (pickF ns (at_ + 7 * k + j + 1) 26)] (by rw [restL_len]; exact le_lim (by simp only [List.length_cons, List.length_nil]; omega))
    simp [nmIn, e1, e2, p, sub_L26 q0 q1, e3, restL_succ])
  refine ⟨b7', ?_⟩
  have hl : (rngL 0 (r : Int)).length = r := by simp [rngL]
  rw [Nat.zero_add, hl] at he
  rw [← he]
  exact e
end
end
end Air
/-! Air: plain laws (4): drawn names. -/
namespace Air
open PySem L2
section
variable {cn : Str → Option D} {cf : Str → Bool → List D → Is → R Sl} {ns : List Int} {I : Is} {at_ : Int} {ro : Bool}
theorem big_of {i : Int} (h0 : -1000000 ≤ i) (h1 : i ≤ 1000000) : big62 i = true := by
  unfold big62
  rw [decide_eq_true (Int.le_trans (by decide : (-4611686018427387904 : Int) ≤ -1000000) h0), decide_eq_true (Int.lt_of_le_of_lt h1 (by decide : (1000000 : Int) < 4611686018427387904))]; rfl
@[simp] theorem lim_0 : (0 ≤ lim) = True := eq_true (Nat.zero_le _)
@[simp] theorem lim_1 : (1 ≤ lim) = True := eq_true (by decide)
@[simp] theorem lim_2 : (2 ≤ lim) = True := eq_true (by decide)
@[simp] theorem lim_3 : (3 ≤ lim) = True := eq_true (by decide)
@[simp] theorem lim_4 : (4 ≤ lim) = True := eq_true (by decide)
@[simp] theorem lim_5 : (5 ≤ lim) = True := eq_true (by decide)
@[simp] theorem lim_6 : (6 ≤ lim) = True := eq_true (by decide)
@[simp] theorem lim_7 : (7 ≤ lim) = True := eq_true (by decide)
@[simp] theorem lim_8 : (8 ≤ lim) = True := eq_true (by decide)
@[simp] theorem lim_9 : (9 ≤ lim) = True := eq_true (by decide)
@[simp] theorem lim_10 : (10 ≤ lim) = True := eq_true (by decide)
@[simp] theorem lim_11 : (11 ≤ lim) = True := eq_true (by decide)
@[simp] theorem lim_12 : (12 ≤ lim) = True := eq_true (by decide)
@[simp] theorem lim_13 : (13 ≤ lim) = True := eq_true (by decide)
@[simp] theorem lim_14 : (14 ≤ lim) = True := eq_true (by decide)
@[simp] theorem lim_15 : (15 ≤ lim) = True := eq_true (by decide)
@[simp] theorem lim_16 : (16 ≤ lim) = True := eq_true (by decide)
@[simp] theorem lim_17 : (17 ≤ lim) = True := eq_true (by decide)
@[simp] theorem lim_18 : (18 ≤ lim) = True := eq_true (by decide)
@[simp] theorem lim_19 : (19 ≤ lim) = True := eq_true (by decide)
@[simp] theorem lim_20 : (20 ≤ lim) = True := eq_true (by decide)
@[simp] theorem lim_21 : (21 ≤ lim) = True := eq_true (by decide)
@[simp] theorem lim_22 : (22 ≤ lim) = True := eq_true (by decide)
@[simp] theorem lim_23 : (23 ≤ lim) = True := eq_true (by decide)
@[simp] theorem lim_24 : (24 ≤ lim) = True := eq_true (by decide)
@[simp] theorem lim_25 : (25 ≤ lim) = True := eq_true (by decide)
@[simp] theorem lim_26 : (26 ≤ lim) = True := eq_true (by decide)
@[simp] theorem lim_27 : (27 ≤ lim) = True := eq_true (by decide)
@[simp] theorem lim_28 : (28 ≤ lim) = True := eq_true (by decide)
@[simp] theorem lim_29 : (29 ≤ lim) = True := eq_true (by decide)
@[simp] theorem lim_30 : (30 ≤ lim) = True := eq_true (by decide)
@[simp] theorem lim_31 : (31 ≤ lim) = True := eq_true (by decide)
@[simp] theorem lim_32 : (32 ≤ lim) = True := eq_true (by decide)
@[simp] theorem lim_33 : (33 ≤ lim) = True := eq_true (by decide)
@[simp] theorem lim_34 : (34 ≤ lim) = True := eq_true (by decide)
@[simp] theorem lim_35 : (35 ≤ lim) = True := eq_true (by decide)
@[simp] theorem lim_36 : (36 ≤ lim) = True := eq_true (by decide)
@[simp] theorem lim_37 : (37 ≤ lim) = True := eq_true (by decide)
@[simp] theorem lim_38 : (38 ≤ lim) = True := eq_true (by decide)
@[simp] theorem lim_39 : (39 ≤ lim) = True := eq_true (by decide)
@[simp] theorem lim_40 : (40 ≤ lim) = True := eq_true (by decide)
theorem ev_lst_ok {es : Tm} {fr : Fr} {ps : List (D × Kd)} {ds : List D} (h : evK cn cf es ro fr I = .ok ps I) (e : frzAll ps = some ds) (hl : Nat.ble ds.length 1000000 = true) : ev cn cf (.lst es) ro fr I = .ok (.lst ds, .new) I := by
  rw [ev_lst, h]
  simp only [bind_ok, e]
  rw [decide_eq_true (le_lim (Nat.le_of_ble_eq_true hl))]; rfl
theorem ev_tup_ok {es : Tm} {fr : Fr} {ps : List (D × Kd)} {ds : List D} (h : evK cn cf es ro fr I = .ok ps I) (e : frzAll ps = some ds) (hl : Nat.ble ds.length 1000000 = true) : ev cn cf (.tup es) ro fr I = .ok (.tup ds, .fro) I := by
  rw [ev_tup, h]
  simp only [bind_ok, e]
  rw [decide_eq_true (le_lim (Nat.le_of_ble_eq_true hl))]; rfl
theorem evI_rng1_ok {a : Tm} {n : Int} {k : Kd} {fr : Fr} (h2 : ev cn cf a ro fr I = .ok (.int n, k) I) (h : big62 n = true) : evI cn cf (.rng1 a) ro fr I = .ok (rngL 0 n, .fro) I := by
  rw [evI_rng1, h2, bind_ok]
  simp only [h, cond_true]
theorem nmsL_succ (k : Nat) : nmsL ns at_ (k + 1) = nmsL ns at_ k ++ [nmL ns at_ k] := by
  unfold nmsL
  rw [List.range_succ, List.map_append]; rfl
theorem out_run (pk : Pk cf ns I) {k : Nat} {a2 b6 b7 b8 : Sl} {made : List D} (hm : made.length < lim) (h0 : 0 ≤ at_) (h1 : at_ + 7 * k + 100 < 1000000) :
    ∃ b6' b7' b8', exec cn cf nmOut ro [.val (.scr ns), .val (.int at_), a2, .val (.str L26), .lst made, .val (.int k), b6, b7, b8] I = .nx [.val (.scr ns), .val (.int at_), a2, .val (.str L26), .lst (made ++ [.str (S (nmL ns at_ k))]), .val (.int k), b6', b7', b8'] I := by
  obtain ⟨b7', hin⟩ := nmIn_run (cn := cn) (ro := ro) pk (k := k) (a2 := a2) (mk := .lst made) (b7 := b7) (b8 := b8) (restN_le ns at_ k) h0 h1
  have p5 := pk (at_ + 7 * k) 5 (by omega) (by omega) (by omega)
  have p60 := pk (at_ + 60) 26 (by omega) (by omega) (by omega)
  have p61 := pk (at_ + 61) 2 (by omega) (by omega) (by omega)
  have e1 : binD .mul (.int 7) (.int (k : Int)) I = .ok (.int (7 * k), .fro) I := by simp [binD, small7]
  have e2 : ∀ a b : Int, binD .add (.int a) (.int b) I = .ok (.int (a + b), .fro) I := fun _ _ => rfl
  have e4 : ∀ a : Int, binD .md (.int a) (.int 26) I = .ok (.int (a % 26), .fro) I := fun _ => rfl
  have hrest := restN_le ns at_ k
  have hit : evI cn cf nmIt ro [.val (.scr ns), .val (.int at_), a2, .val (.str L26), .lst made, .val (.int k), .val (.str (S [])), b7, b8] I = .ok (rngL 0 (restN ns at_ k), .fro) I := by
    have hb : big62 ((restN ns at_ k : Nat) : Int) = true := big_of (by omega) (by omega)
    have hls : ∀ fr : Fr, ev cn cf (.lst (.cons (.cns (.int 0)) (.cons (.cns (.int 0)) (.cons (.cns (.int 1)) (.cons (.cns (.int 2)) (.cons (.cns (.int 5)) .nil)))))) ro fr I = .ok (.lst [.int 0, .int 0, .int 1, .int 2, .int 5], .new) I := fun fr => ev_lst_ok rfl rfl rfl
    exact evI_rng1_ok (k := .fro) (by simp only [ev_sub, hls, bind_ok, isI_new, Bool.or_false, ev_call, evK_cons, evK_nil, ev_loc, List.getElem?_cons_zero, List.getElem?_cons_succ, isI_fro, ev_bin, ev_cns, cs_int, e1, e2, p5, restN_at]) hb
  have m0 : 0 ≤ (pickF ns (at_ + 60) 26 + k) % 26 := Int.emod_nonneg _ (by omega)
  have m1 : (pickF ns (at_ + 60) 26 + k) % 26 < 26 := Int.emod_lt_of_pos _ (by omega)
  have hl1 := S_add (I := I) (restL ns at_ k (restN ns at_ k)) (markL ns at_ k) (by rw [restL_len]; exact le_lim (by simp only [markL, List.length_cons, List.length_nil]; omega))
  have hl2 := S_add (I := I) (markL ns at_ k) (restL ns at_ k (restN ns at_ k)) (by rw [restL_len]; exact le_lim (by simp only [markL, List.length_cons, List.length_nil]; omega))
  have hs0 : (Str.ofString "") = S [] := rfl
  refine ⟨.val (.str (S (restL ns at_ k (restN ns at_ k)))), b7', .val (.str (S (markL ns at_ k))), ?_⟩
  have hsub : subD (.str L26) (.int ((pickF ns (at_ + 60) 26 + k) % 26)) .fro I = .ok (.str (S (markL ns at_ k)), .fro) I := sub_L26 m0 m1
  unfold nmOut
  rw [ex_cons, ex_asg, ev_cns, cs_str, stm_ok, frzK_fro]
  simp only [nx_bind, List.set_cons_succ, List.set_cons_zero, hs0]
  rw [ex_cons, ex_for hit (.inl rfl), hin]
  simp only [nx_bind]
  have hc : cmpD .eq (.int (pickF ns (at_ + 61) 2)) (.int 0) I = .ok (.bl (decide (pickF ns (at_ + 61) 2 = 0)), .fro) I := by simp [cmpD, D.eqc, D.dep, b2]
  by_cases hq : pickF ns (at_ + 61) 2 = 0
  · have : nmL ns at_ k = restL ns at_ k (restN ns at_ k) ++ markL ns at_ k := by simp [nmL, hq]
    rw [this]
    rw [decide_eq_true hq] at hc
    simp [nmTl, e2, e4, p60, p61, hsub, hc, hl1, hm]
  · have : nmL ns at_ k = markL ns at_ k ++ restL ns at_ k (restN ns at_ k) := by simp [nmL, hq]
    rw [this]
    rw [decide_eq_false hq] at hc
    simp [nmTl, e2, e4, p60, p61, hsub, hc, hl2, hm]
end
variable {Γ : Gm}
theorem names_run (hp : Γ.fn "_law_pick" = some ⟨3, 7, [], pickS⟩) (h : Γ.fn "_law_names" = some ⟨3, 9, [], namesS⟩) {ns : List Int} {at_ : Int} {m : Nat} (hl : ns.length ≤ 63) (h0 : 0 ≤ at_) (h1 : at_ + 7 * m + 100 < 1000000) (n : Nat) (ro : Bool) (I : Is) :
    callN Γ (n + 2) "_law_names" ro [.scr ns, .int at_, .int m] I = .ok (.lst ((nmsL ns at_ m).map fun l => .str (S l))) I := by
  have pk : Pk (callN Γ (n + 1)) ns I := fun k q k0 k1 q0 ro => callD_of rfl (fun ro => pick_run hp hl k0 k1 q0 n ro I) rfl
  unfold callN
  rw [h]
  have L : (Str.ofString "abcdefghijklmnopqrstuvwxyz") = L26 := rfl
  obtain ⟨fr', e, b5, b6, b7, b8, he⟩ := forL_ex (body := fun fr I => exec Γ.cn (callN Γ (n + 1)) nmOut ro fr I) (tg := .nm 5) (I := I)
    (fun k fr => ∃ b5 b6 b7 b8, fr = [.val (.scr ns), .val (.int at_), .val (.int m), .val (.str L26), .lst ((nmsL ns at_ k).map fun l => .str (S l)), b5, b6, b7, b8]) (rngL 0 m) 0 _ ⟨.no, .no, .no, .no, rfl⟩ (by
    rintro k x fr hx ⟨b5, b6, b7, b8, rfl⟩
    obtain ⟨rfl, hk⟩ := rngL_get hx
    rw [Int.zero_add] at hk ⊢
    rw [Nat.zero_add]
    obtain ⟨b6', b7', b8', ho⟩ := out_run (cn := Γ.cn) (ro := ro) pk (k := k) (a2 := .val (.int m)) (b6 := b6) (b7 := b7) (b8 := b8) (made := (nmsL ns at_ k).map fun l => .str (S l)) (Nat.lt_of_lt_of_le (by simp only [nmsL, List.length_map, List.length_range]; omega) (le_lim (Nat.le_refl 1000000))) h0 (by omega)
    refine ⟨_, _, rfl, .inl ho, .val (.int k), b6', b7', b8', ?_⟩
    rw [nmsL_succ, List.map_append]; rfl)
  have hlen : (rngL 0 (m : Int)).length = m := by simp [rngL]
  rw [Nat.zero_add, hlen] at he
  have hb : big62 (m : Int) = true := big_of (by omega) (by omega)
  have hit : evI Γ.cn (callN Γ (n + 1)) (.rng1 (.loc 2)) ro [.val (.scr ns), .val (.int at_), .val (.int m), .val (.str L26), .lst [], .no, .no, .no, .no] I = .ok (rngL 0 m, .fro) I := evI_rng1_ok (k := .fro) (by simp only [ev_loc, List.getElem?_cons_zero, List.getElem?_cons_succ]) hb
  simp only [fillD, List.length_cons, List.length_nil, show (decide (0 + 1 + 1 + 1 ≤ 3) && decide (3 ≤ 0 + 1 + 1 + 1 + 0)) = true by decide, cond_true, List.drop_nil, List.append_nil, List.map_cons, List.map_nil, Nat.reduceSub, List.replicate_succ, List.replicate_zero, List.cons_append, List.nil_append]
  unfold namesS
  rw [ex_cons]
  have h1 : exec Γ.cn (callN Γ (n + 1)) (.par [(3, false), (4, true)] (.cons (.cns (.str "abcdefghijklmnopqrstuvwxyz")) (.cons (.lst .nil) .nil))) ro [.val (.scr ns), .val (.int at_), .val (.int m), .no, .no, .no, .no, .no, .no] I = .nx [.val (.scr ns), .val (.int at_), .val (.int m), .val (.str L26), .lst [], .no, .no, .no, .no] I := by
    have hk : evK Γ.cn (callN Γ (n + 1)) (.cons (.cns (.str "abcdefghijklmnopqrstuvwxyz")) (.cons (.lst .nil) .nil)) ro [.val (.scr ns), .val (.int at_), .val (.int m), .no, .no, .no, .no, .no, .no] I = .ok [(.str L26, .fro), (.lst [], .new)] I := by
      rw [evK_cons, ev_cns, cs_str, bind_ok, evK_cons, ev_lst_ok (ps := []) (ds := []) evK_nil rfl rfl, bind_ok, evK_nil, bind_ok, bind_ok]; rfl
    rw [ex_par, hk, stm_ok]; rfl
  rw [h1]
  simp only [nx_bind]
  have e0 : nmsL ns at_ 0 = [] := rfl
  simp only [e0, List.map_nil] at e
  rw [ex_cons, ex_for hit (.inl rfl), e, he, nx_bind, ex_cons, ex_retOwn]; rfl
end Air
/-! Air: plain laws (5): a run from the left, what comes later is left alone. -/
namespace Air
open PySem L2
section
variable {α β : Type} {fr fr' : Fr} {I : Is}
@[simp] theorem bind_exc (x : Ex) (f : α → Is → R β) : (R.exc x I).bind f = .exc x I := id rfl
@[simp] theorem stm_exc (x : Ex) (f : α → Is → Xr) : (R.exc x I).stm fr f = .exc x fr I := id rfl
@[simp] theorem tst_exc (x : Ex) (f : Bool → Is → R β) : (R.exc x I).tst f = .exc x I := id rfl
@[simp] theorem xexc_bind (x : Ex) (f : Fr → Is → Xr) : (Xr.exc x fr I).bind f = .exc x fr I := id rfl
@[simp] theorem run_exc (x : Ex) : runB (.exc x fr I) = .exc x I := id rfl
@[simp] theorem reset_exc (x : Ex) : (R.exc x I : R α).reset I = .exc x I := id rfl
variable {cn : Str → Option D} {cf : Str → Bool → List D → Is → R Sl} {ro : Bool}
@[simp] theorem tell_ok (p : D × Kd) : tellR (.ok p I) = .ok p I := id rfl
theorem tell_exc {x : Ex} (h : x.cls ∈ tellN) : tellR (.exc x I) = .ok (.tup [.str "refused", .str x.cls], .fro) I := by
  show (bif decide (x.cls ∈ tellN) then _ else _) = _
  rw [decide_eq_true h]; rfl
@[simp] theorem ex_rais (c : Str) : exec cn cf (.rais c) ro fr I = .exc ⟨c, []⟩ fr I := id rfl
/-! #### what comes later, by names -/
def roK (ro : Bool) (k : Kd) : Bool := ro || isInst k
@[simp] theorem roK_fro : roK ro .fro = ro := Bool.or_false ro
@[simp] theorem roK_new : roK ro .new = ro := Bool.or_false ro
@[simp] theorem roK_own : roK ro .own = ro := Bool.or_false ro
@[simp] theorem roK_cst : roK ro .cst = ro := Bool.or_false ro
@[simp] theorem roK_inst : roK ro .inst = true := Bool.or_true ro
def kBin2 (o : Bo) (a : D) (q : D × Kd) (I : Is) : R (D × Kd) := binD o a q.1 I
def kBin (cn : Str → Option D) (cf : Str → Bool → List D → Is → R Sl) (o : Bo) (b : Tm) (ro : Bool) (fr : Fr) (p : D × Kd) (I : Is) : R (D × Kd) := (ev cn cf b (roK ro p.2) fr I).bind (kBin2 o p.1)
@[simp high] theorem ev_bin' (o : Bo) (a b : Tm) : ev cn cf (.bin o a b) ro fr I = (ev cn cf a ro fr I).bind (kBin cn cf o b ro fr) := id rfl
@[simp] theorem kBin_ok (o : Bo) (b : Tm) (d : D) (k : Kd) : kBin cn cf o b ro fr (d, k) I = (ev cn cf b (roK ro k) fr I).bind (kBin2 o d) := id rfl
@[simp] theorem kBin2_ok (o : Bo) (a d : D) (k : Kd) : kBin2 o a (d, k) I = binD o a d I := id rfl
def kNeg (p : D × Kd) (I : Is) : R (D × Kd) := match p.1 with
    | .int i => .ok (.int (-i), .fro) I
    | _ => .bad
@[simp high] theorem ev_neg' (a : Tm) : ev cn cf (.neg a) ro fr I = (ev cn cf a ro fr I).bind kNeg := id rfl
@[simp] theorem kNeg_ok (i : Int) (k : Kd) : kNeg (.int i, k) I = .ok (.int (-i), .fro) I := id rfl
def kCmp2 (o : Co) (a : D) (q : D × Kd) (I : Is) : R (D × Kd) := cmpD o a q.1 I
def kCmp (cn : Str → Option D) (cf : Str → Bool → List D → Is → R Sl) (o : Co) (b : Tm) (ro : Bool) (fr : Fr) (p : D × Kd) (I : Is) : R (D × Kd) := (ev cn cf b (roK ro p.2) fr I).bind (kCmp2 o p.1)
@[simp high] theorem ev_cmp' (o : Co) (a b : Tm) : ev cn cf (.cmp o a b) ro fr I = (ev cn cf a ro fr I).bind (kCmp cn cf o b ro fr) := id rfl
@[simp] theorem kCmp_ok (o : Co) (b : Tm) (d : D) (k : Kd) : kCmp cn cf o b ro fr (d, k) I = (ev cn cf b (roK ro k) fr I).bind (kCmp2 o d) := id rfl
@[simp] theorem kCmp2_ok (o : Co) (a d : D) (k : Kd) : kCmp2 o a (d, k) I = cmpD o a d I := id rfl
def kIsn (ng : Bool) (p : D × Kd) (I : Is) : R (D × Kd) := match p.1 with
    | .non => b2 (!ng) I
    | _ => b2 ng I
@[simp high] theorem ev_isn' (ng : Bool) (a : Tm) : ev cn cf (.isn ng a) ro fr I = (ev cn cf a ro fr I).bind (kIsn ng) := id rfl
@[simp] theorem kIsn_non (ng : Bool) (k : Kd) : kIsn ng (.non, k) I = .ok (.bl (!ng), .fro) I := id rfl
@[simp] theorem kIsn_bl (ng : Bool) (b : Bool) (k : Kd) : kIsn ng (.bl b, k) I = .ok (.bl ng, .fro) I := id rfl
@[simp] theorem kIsn_int (ng : Bool) (b : Int) (k : Kd) : kIsn ng (.int b, k) I = .ok (.bl ng, .fro) I := id rfl
@[simp] theorem kIsn_str (ng : Bool) (b : Str) (k : Kd) : kIsn ng (.str b, k) I = .ok (.bl ng, .fro) I := id rfl
@[simp] theorem kIsn_tup (ng : Bool) (b : List D) (k : Kd) : kIsn ng (.tup b, k) I = .ok (.bl ng, .fro) I := id rfl
@[simp] theorem kIsn_lst (ng : Bool) (b : List D) (k : Kd) : kIsn ng (.lst b, k) I = .ok (.bl ng, .fro) I := id rfl
def kIsb (ng k : Bool) (p : D × Kd) (I : Is) : R (D × Kd) := match p.1 with
    | .bl b => b2 (xor ng (b == k)) I
    | _ => .bad
@[simp high] theorem ev_isb' (ng k : Bool) (a : Tm) : ev cn cf (.isb ng k a) ro fr I = (ev cn cf a ro fr I).bind (kIsb ng k) := id rfl
@[simp] theorem kIsb_ok (ng k b : Bool) (kd : Kd) : kIsb ng k (.bl b, kd) I = .ok (.bl (xor ng (b == k)), .fro) I := id rfl
def kCh2c (cn : Str → Option D) (cf : Str → Bool → List D → Is → R Sl) (o2 : Co) (c : Tm) (ro : Bool) (fr : Fr) (q : D × Kd) (t : Bool) (I : Is) : R (D × Kd) := bif t then (ev cn cf c (roK ro q.2) fr I).bind (kCmp2 o2 q.1) else b2 false I
def kCh2b (cn : Str → Option D) (cf : Str → Bool → List D → Is → R Sl) (o1 o2 : Co) (c : Tm) (ro : Bool) (fr : Fr) (a : D) (q : D × Kd) (I : Is) : R (D × Kd) := (cmpD o1 a q.1 I).tst (kCh2c cn cf o2 c ro fr q)
def kCh2 (cn : Str → Option D) (cf : Str → Bool → List D → Is → R Sl) (o1 o2 : Co) (b c : Tm) (ro : Bool) (fr : Fr) (p : D × Kd) (I : Is) : R (D × Kd) := (ev cn cf b (roK ro p.2) fr I).bind (kCh2b cn cf o1 o2 c ro fr p.1)
@[simp high] theorem ev_ch2' (o1 o2 : Co) (a b c : Tm) : ev cn cf (.ch2 o1 o2 a b c) ro fr I = (ev cn cf a ro fr I).bind (kCh2 cn cf o1 o2 b c ro fr) := id rfl
@[simp] theorem kCh2_ok (o1 o2 : Co) (b c : Tm) (d : D) (k : Kd) : kCh2 cn cf o1 o2 b c ro fr (d, k) I = (ev cn cf b (roK ro k) fr I).bind (kCh2b cn cf o1 o2 c ro fr d) := id rfl
@[simp] theorem kCh2b_ok (o1 o2 : Co) (c : Tm) (a d : D) (k : Kd) : kCh2b cn cf o1 o2 c ro fr a (d, k) I = (cmpD o1 a d I).tst (kCh2c cn cf o2 c ro fr (d, k)) := id rfl
@[simp] theorem kCh2c_ok (o2 : Co) (c : Tm) (d : D) (k : Kd) (t : Bool) : kCh2c cn cf o2 c ro fr (d, k) t I = bif t then (ev cn cf c (roK ro k) fr I).bind (kCmp2 o2 d) else .ok (.bl false, .fro) I := id rfl
def kCh3d (cn : Str → Option D) (cf : Str → Bool → List D → Is → R Sl) (o3 : Co) (d : Tm) (ro : Bool) (fr : Fr) (r : D × Kd) (t : Bool) (I : Is) : R (D × Kd) := bif t then (ev cn cf d (roK ro r.2) fr I).bind (kCmp2 o3 r.1) else b2 false I
def kCh3c' (cn : Str → Option D) (cf : Str → Bool → List D → Is → R Sl) (o2 o3 : Co) (d : Tm) (ro : Bool) (fr : Fr) (q : D) (r : D × Kd) (I : Is) : R (D × Kd) := (cmpD o2 q r.1 I).tst (kCh3d cn cf o3 d ro fr r)
def kCh3c (cn : Str → Option D) (cf : Str → Bool → List D → Is → R Sl) (o2 o3 : Co) (c d : Tm) (ro : Bool) (fr : Fr) (q : D × Kd) (t : Bool) (I : Is) : R (D × Kd) := bif t then (ev cn cf c (roK ro q.2) fr I).bind (kCh3c' cn cf o2 o3 d ro fr q.1) else b2 false I
def kCh3b (cn : Str → Option D) (cf : Str → Bool → List D → Is → R Sl) (o1 o2 o3 : Co) (c d : Tm) (ro : Bool) (fr : Fr) (a : D) (q : D × Kd) (I : Is) : R (D × Kd) := (cmpD o1 a q.1 I).tst (kCh3c cn cf o2 o3 c d ro fr q)
def kCh3 (cn : Str → Option D) (cf : Str → Bool → List D → Is → R Sl) (o1 o2 o3 : Co) (b c d : Tm) (ro : Bool) (fr : Fr) (p : D × Kd) (I : Is) : R (D × Kd) := (ev cn cf b (roK ro p.2) fr I).bind (kCh3b cn cf o1 o2 o3 c d ro fr p.1)
@[simp high] theorem ev_ch3' (o1 o2 o3 : Co) (a b c d : Tm) : ev cn cf (.ch3 o1 o2 o3 a b c d) ro fr I = (ev cn cf a ro fr I).bind (kCh3 cn cf o1 o2 o3 b c d ro fr) := id rfl
@[simp] theorem kCh3_ok (o1 o2 o3 : Co) (b c e : Tm) (d : D) (k : Kd) : kCh3 cn cf o1 o2 o3 b c e ro fr (d, k) I = (ev cn cf b (roK ro k) fr I).bind (kCh3b cn cf o1 o2 o3 c e ro fr d) := id rfl
@[simp] theorem kCh3b_ok (o1 o2 o3 : Co) (c e : Tm) (a d : D) (k : Kd) : kCh3b cn cf o1 o2 o3 c e ro fr a (d, k) I = (cmpD o1 a d I).tst (kCh3c cn cf o2 o3 c e ro fr (d, k)) := id rfl
@[simp] theorem kCh3c_ok (o2 o3 : Co) (c e : Tm) (d : D) (k : Kd) (t : Bool) : kCh3c cn cf o2 o3 c e ro fr (d, k) t I = bif t then (ev cn cf c (roK ro k) fr I).bind (kCh3c' cn cf o2 o3 e ro fr d) else .ok (.bl false, .fro) I := id rfl
@[simp] theorem kCh3c'_ok (o2 o3 : Co) (e : Tm) (a d : D) (k : Kd) : kCh3c' cn cf o2 o3 e ro fr a (d, k) I = (cmpD o2 a d I).tst (kCh3d cn cf o3 e ro fr (d, k)) := id rfl
@[simp] theorem kCh3d_ok (o3 : Co) (e : Tm) (d : D) (k : Kd) (t : Bool) : kCh3d cn cf o3 e ro fr (d, k) t I = bif t then (ev cn cf e (roK ro k) fr I).bind (kCmp2 o3 d) else .ok (.bl false, .fro) I := id rfl
def kBl (u : Bool) (I : Is) : R (D × Kd) := b2 u I
@[simp] theorem kBl_ok (u : Bool) : kBl u I = .ok (.bl u, .fro) I := id rfl
def kAnd (cn : Str → Option D) (cf : Str → Bool → List D → Is → R Sl) (b : Tm) (ro : Bool) (fr : Fr) (t : Bool) (I : Is) : R (D × Kd) := bif t then (ev cn cf b ro fr I).tst kBl else b2 false I
@[simp high] theorem ev_and' (a b : Tm) : ev cn cf (.and a b) ro fr I = (ev cn cf a ro fr I).tst (kAnd cn cf b ro fr) := id rfl
@[simp] theorem kAnd_ok (b : Tm) (t : Bool) : kAnd cn cf b ro fr t I = bif t then (ev cn cf b ro fr I).tst kBl else .ok (.bl false, .fro) I := id rfl
def kOr (cn : Str → Option D) (cf : Str → Bool → List D → Is → R Sl) (b : Tm) (ro : Bool) (fr : Fr) (t : Bool) (I : Is) : R (D × Kd) := bif t then b2 true I else (ev cn cf b ro fr I).tst kBl
@[simp high] theorem ev_or' (a b : Tm) : ev cn cf (.or a b) ro fr I = (ev cn cf a ro fr I).tst (kOr cn cf b ro fr) := id rfl
@[simp] theorem kOr_ok (b : Tm) (t : Bool) : kOr cn cf b ro fr t I = bif t then .ok (.bl true, .fro) I else (ev cn cf b ro fr I).tst kBl := id rfl
def kNot (t : Bool) (I : Is) : R (D × Kd) := b2 (!t) I
@[simp high] theorem ev_not' (a : Tm) : ev cn cf (.not a) ro fr I = (ev cn cf a ro fr I).tst kNot := id rfl
@[simp] theorem kNot_ok (t : Bool) : kNot t I = .ok (.bl (!t), .fro) I := id rfl
def kIte (cn : Str → Option D) (cf : Str → Bool → List D → Is → R Sl) (a b : Tm) (ro : Bool) (fr : Fr) (t : Bool) (I : Is) : R (D × Kd) := bif t then ev cn cf a ro fr I else ev cn cf b ro fr I
@[simp high] theorem ev_ite' (c a b : Tm) : ev cn cf (.ite c a b) ro fr I = (ev cn cf c ro fr I).tst (kIte cn cf a b ro fr) := id rfl
@[simp] theorem kIte_t (a b : Tm) : kIte cn cf a b ro fr true I = ev cn cf a ro fr I := id rfl
@[simp] theorem kIte_f (a b : Tm) : kIte cn cf a b ro fr false I = ev cn cf b ro fr I := id rfl
theorem kIte_b (a b : Tm) (t : Bool) : kIte cn cf a b ro fr t I = bif t then ev cn cf a ro fr I else ev cn cf b ro fr I := id rfl
def kTup (ps : List (D × Kd)) (I : Is) : R (D × Kd) := match frzAll ps with
    | some ds => bif decide (ds.length ≤ lim) then .ok (.tup ds, .fro) I else .bad
    | none => .bad
def kLst (ps : List (D × Kd)) (I : Is) : R (D × Kd) := match frzAll ps with
    | some ds => bif decide (ds.length ≤ lim) then .ok (.lst ds, .new) I else .bad
    | none => .bad
@[simp high] theorem ev_tup' (es : Tm) : ev cn cf (.tup es) ro fr I = (evK cn cf es ro fr I).bind kTup := id rfl
@[simp high] theorem ev_lst' (es : Tm) : ev cn cf (.lst es) ro fr I = (evK cn cf es ro fr I).bind kLst := id rfl
@[simp] theorem kTup_ok (ps : List (D × Kd)) : kTup ps I = match frzAll ps with
    | some ds => bif decide (ds.length ≤ lim) then .ok (.tup ds, .fro) I else .bad
    | none => .bad := id rfl
@[simp] theorem kLst_ok (ps : List (D × Kd)) : kLst ps I = match frzAll ps with
    | some ds => bif decide (ds.length ≤ lim) then .ok (.lst ds, .new) I else .bad
    | none => .bad := id rfl
def kSub2 (a : D × Kd) (q : D × Kd) (I : Is) : R (D × Kd) := subD a.1 q.1 a.2 I
def kSub (cn : Str → Option D) (cf : Str → Bool → List D → Is → R Sl) (i : Tm) (ro : Bool) (fr : Fr) (p : D × Kd) (I : Is) : R (D × Kd) := (ev cn cf i (roK ro p.2) fr I).bind (kSub2 p)
@[simp high] theorem ev_sub' (a i : Tm) : ev cn cf (.sub a i) ro fr I = (ev cn cf a ro fr I).bind (kSub cn cf i ro fr) := id rfl
@[simp] theorem kSub_ok (i : Tm) (d : D) (k : Kd) : kSub cn cf i ro fr (d, k) I = (ev cn cf i (roK ro k) fr I).bind (kSub2 (d, k)) := id rfl
@[simp] theorem kSub2_ok (a d : D) (k k2 : Kd) : kSub2 (a, k) (d, k2) I = subD a d k I := id rfl
def kSlc3 (a : D × Kd) (l : Option Int) (h : Option Int) (I : Is) : R (D × Kd) := slcD a.1 a.2 l h I
def kSlc2 (cn : Str → Option D) (cf : Str → Bool → List D → Is → R Sl) (hi : Tm) (ro : Bool) (fr : Fr) (p : D × Kd) (l : Option Int) (I : Is) : R (D × Kd) := (evP cn cf hi (roK ro p.2) fr I).bind (kSlc3 p l)
def kSlc (cn : Str → Option D) (cf : Str → Bool → List D → Is → R Sl) (lo hi : Tm) (ro : Bool) (fr : Fr) (p : D × Kd) (I : Is) : R (D × Kd) := (evP cn cf lo (roK ro p.2) fr I).bind (kSlc2 cn cf hi ro fr p)
@[simp high] theorem ev_slc' (a lo hi : Tm) : ev cn cf (.slc a lo hi) ro fr I = (ev cn cf a ro fr I).bind (kSlc cn cf lo hi ro fr) := id rfl
@[simp] theorem kSlc_ok (lo hi : Tm) (d : D) (k : Kd) : kSlc cn cf lo hi ro fr (d, k) I = (evP cn cf lo (roK ro k) fr I).bind (kSlc2 cn cf hi ro fr (d, k)) := id rfl
@[simp] theorem kSlc2_ok (hi : Tm) (d : D) (k : Kd) (l : Option Int) : kSlc2 cn cf hi ro fr (d, k) l I = (evP cn cf hi (roK ro k) fr I).bind (kSlc3 (d, k) l) := id rfl
@[simp] theorem kSlc3_ok (d : D) (k : Kd) (l h : Option Int) : kSlc3 (d, k) l h I = slcD d k l h I := id rfl
def kRev (p : D × Kd) (I : Is) : R (D × Kd) := match p.1 with
    | .lst xs => .ok (.lst xs.reverse, .new) I
    | _ => .bad
@[simp high] theorem ev_rev' (a : Tm) : ev cn cf (.rev a) ro fr I = (ev cn cf a ro fr I).bind kRev := id rfl
@[simp] theorem kRev_ok (xs : List D) (k : Kd) : kRev (.lst xs, k) I = .ok (.lst xs.reverse, .new) I := id rfl
@[simp high] theorem ev_call' (x : Str) (es : Tm) : ev cn cf (.call x es) ro fr I = (evK cn cf es ro fr I).bind (callD cf x ro) := id rfl
@[simp high] theorem ev_blt' (f : Bi) (es : Tm) : ev cn cf (.blt f es) ro fr I = (evK cn cf es ro fr I).bind (biD f) := id rfl
def kIsi (k : Str) (p : D × Kd) (I : Is) : R (D × Kd) := match isiD p.1 k with
      | some b => b2 b I
      | none => .bad
@[simp high] theorem ev_isi' (a : Tm) (k : Str) : ev cn cf (.isi a [k]) ro fr I = (ev cn cf a ro fr I).bind (kIsi k) := id rfl
theorem kIsi_some {k : Str} {d : D} {b : Bool} (h : isiD d k = some b) (kd : Kd) : kIsi k (d, kd) I = .ok (.bl b, .fro) I := by
  show (match isiD d k with | some b => b2 b I | none => .bad) = _
  rw [h]; rfl
@[simp] theorem kIsi_ok (k : Str) (d : D) (kd : Kd) : kIsi k (d, kd) I = match isiD d k with
      | some b => .ok (.bl b, .fro) I
      | none => .bad := id rfl
@[simp high] theorem ev_told' (e : Tm) : ev cn cf (.told e) ro fr I = tellR (ev cn cf e ro fr I) := id rfl
def kCons2 (p : D × Kd) (ps : List (D × Kd)) (I : Is) : R (List (D × Kd)) := .ok (p :: ps) I
def kCons (cn : Str → Option D) (cf : Str → Bool → List D → Is → R Sl) (b : Tm) (ro : Bool) (fr : Fr) (p : D × Kd) (I : Is) : R (List (D × Kd)) := (evK cn cf b (roK ro p.2) fr I).bind (kCons2 p)
@[simp high] theorem evK_cons' (a b : Tm) : evK cn cf (.cons a b) ro fr I = (ev cn cf a ro fr I).bind (kCons cn cf b ro fr) := id rfl
@[simp] theorem kCons_ok (b : Tm) (d : D) (k : Kd) : kCons cn cf b ro fr (d, k) I = (evK cn cf b (roK ro k) fr I).bind (kCons2 (d, k)) := id rfl
@[simp] theorem kCons2_ok (p : D × Kd) (ps : List (D × Kd)) : kCons2 p ps I = .ok (p :: ps) I := id rfl
def kP (p : D × Kd) (I : Is) : R (Option Int) := match p.1 with
    | .int i => .ok (some i) I
    | _ => .bad
@[simp high] theorem evP_cons' (a : Tm) : evP cn cf (.cons a .nil) ro fr I = (ev cn cf a ro fr I).bind kP := id rfl
@[simp] theorem kP_ok (i : Int) (k : Kd) : kP (.int i, k) I = .ok (some i) I := id rfl
def kC (t : Bool) (I : Is) : R Bool := .ok t I
@[simp high] theorem evC_cons' (a : Tm) : evC cn cf (.cons a .nil) ro fr I = (ev cn cf a ro fr I).tst kC := id rfl
@[simp] theorem kC_ok (t : Bool) : kC t I = .ok t I := id rfl
def kRng1 (p : D × Kd) (I : Is) : R (List D × Kd) := match p.1 with
    | .int n => bif big62 n then .ok (rngL 0 n, .fro) I else .bad
    | _ => .bad
@[simp high] theorem evI_rng1' (a : Tm) : evI cn cf (.rng1 a) ro fr I = (ev cn cf a ro fr I).bind kRng1 := id rfl
@[simp] theorem kRng1_ok (n : Int) (k : Kd) : kRng1 (.int n, k) I = bif big62 n then .ok (rngL 0 n, .fro) I else .bad := id rfl
def kRng2b (l : D) (q : D × Kd) (I : Is) : R (List D × Kd) := match l, q.1 with
    | .int l, .int n => bif big62 l && big62 n then .ok (rngL l n, .fro) I else .bad
    | _, _ => .bad
def kRng2 (cn : Str → Option D) (cf : Str → Bool → List D → Is → R Sl) (b : Tm) (ro : Bool) (fr : Fr) (p : D × Kd) (I : Is) : R (List D × Kd) := (ev cn cf b (roK ro p.2) fr I).bind (kRng2b p.1)
@[simp high] theorem evI_rng2' (a b : Tm) : evI cn cf (.rng2 a b) ro fr I = (ev cn cf a ro fr I).bind (kRng2 cn cf b ro fr) := by
  show ((ev cn cf a ro fr I).bind fun p I => (ev cn cf b (ro || isInst p.2) fr I).bind fun q I => _) = _
  congr 1
@[simp] theorem kRng2_ok (b : Tm) (d : D) (k : Kd) : kRng2 cn cf b ro fr (d, k) I = (ev cn cf b (roK ro k) fr I).bind (kRng2b d) := id rfl
@[simp] theorem kRng2b_ok (l n : Int) (k : Kd) : kRng2b (.int l) (.int n, k) I = bif big62 l && big62 n then .ok (rngL l n, .fro) I else .bad := id rfl
def kEnm (p : D × Kd) (I : Is) : R (List D × Kd) := match p.1 with
    | .lst xs => .ok (enmL 0 xs, p.2) I
    | _ => .bad
@[simp high] theorem evI_enm' (a : Tm) : evI cn cf (.enm a) ro fr I = (ev cn cf a ro fr I).bind kEnm := id rfl
@[simp] theorem kEnm_ok (xs : List D) (k : Kd) : kEnm (.lst xs, k) I = .ok (enmL 0 xs, k) I := id rfl
def kIt (p : D × Kd) (I : Is) : R (List D × Kd) := match itD p with
    | some r => .ok r I
    | none => .bad
@[simp high] theorem evI_cons' (a : Tm) : evI cn cf (.cons a .nil) ro fr I = (ev cn cf a ro fr I).bind kIt := id rfl
@[simp] theorem kIt_ok (p : D × Kd) : kIt p I = match itD p with
    | some r => .ok r I
    | none => .bad := id rfl
@[simp] theorem itD_lst (xs : List D) (k : Kd) : itD (.lst xs, k) = some (xs, k) := id rfl
@[simp] theorem itD_tup (xs : List D) : itD (.tup xs, .fro) = some (xs, .fro) := id rfl
def kSeq (cn : Str → Option D) (cf : Str → Bool → List D → Is → R Sl) (r : Sm) (ro : Bool) (fr : Fr) (I : Is) : Xr := exec cn cf r ro fr I
@[simp high] theorem ex_cons' (s r : Sm) : exec cn cf (.cons s r) ro fr I = (exec cn cf s ro fr I).bind (kSeq cn cf r ro) := id rfl
@[simp] theorem kSeq_ok (r : Sm) : kSeq cn cf r ro fr I = exec cn cf r ro fr I := id rfl
def kAsg (i : Nat) (fr : Fr) (p : D × Kd) (I : Is) : Xr := match frzK p with
    | some d => .nx (fr.set i (.val d)) I
    | none => .bad
@[simp high] theorem ex_asg' (i : Nat) (e : Tm) : exec cn cf (.asg i e) ro fr I = (ev cn cf e ro fr I).stm fr (kAsg i fr) := id rfl
@[simp] theorem kAsg_fro (i : Nat) (d : D) : kAsg i fr (d, .fro) I = .nx (fr.set i (.val d)) I := id rfl
@[simp] theorem kAsg_new (i : Nat) (d : D) : kAsg i fr (d, .new) I = .nx (fr.set i (.val d)) I := id rfl
def kOwn (i : Nat) (fr : Fr) (p : D × Kd) (I : Is) : Xr := match stoK true p with
    | some s => .nx (fr.set i s) I
    | none => .bad
@[simp high] theorem ex_own' (i : Nat) (e : Tm) : exec cn cf (.own i e) ro fr I = (ev cn cf e ro fr I).stm fr (kOwn i fr) := id rfl
@[simp] theorem kOwn_fro (i : Nat) (d : D) : kOwn i fr (d, .fro) I = .nx (fr.set i (.val d)) I := id rfl
@[simp] theorem kOwn_lst (i : Nat) (xs : List D) : kOwn i fr (.lst xs, .new) I = .nx (fr.set i (.lst xs)) I := id rfl
def kPar (tg : List (Nat × Bool)) (fr : Fr) (ps : List (D × Kd)) (I : Is) : Xr := match stoAll tg ps fr with
    | some fr => .nx fr I
    | none => .bad
@[simp high] theorem ex_par' (tg : List (Nat × Bool)) (es : Tm) : exec cn cf (.par tg es) ro fr I = (evK cn cf es ro fr I).stm fr (kPar tg fr) := id rfl
@[simp] theorem kPar_ok (tg : List (Nat × Bool)) (ps : List (D × Kd)) : kPar tg fr ps I = match stoAll tg ps fr with
    | some fr => .nx fr I
    | none => .bad := id rfl
@[simp] theorem sto_nil : stoAll [] [] fr = some fr := id rfl
@[simp] theorem sto_fro (i : Nat) (b : Bool) (ts : List (Nat × Bool)) (d : D) (ps : List (D × Kd)) : stoAll ((i, b) :: ts) ((d, .fro) :: ps) fr = stoAll ts ps (fr.set i (.val d)) := id rfl
@[simp] theorem sto_newF (i : Nat) (ts : List (Nat × Bool)) (d : D) (ps : List (D × Kd)) : stoAll ((i, false) :: ts) ((d, .new) :: ps) fr = stoAll ts ps (fr.set i (.val d)) := id rfl
@[simp] theorem sto_newT (i : Nat) (ts : List (Nat × Bool)) (xs : List D) (ps : List (D × Kd)) : stoAll ((i, true) :: ts) ((.lst xs, .new) :: ps) fr = stoAll ts ps (fr.set i (.lst xs)) := id rfl
def kUnp (tg : List Nat) (fr : Fr) (p : D × Kd) (I : Is) : Xr := match frzK p with
    | some d => (match asgT (.tp tg) d fr with
      | some fr => .nx fr I
      | none => .bad)
    | none => .bad
@[simp high] theorem ex_unp' (tg : List Nat) (e : Tm) : exec cn cf (.unp tg e) ro fr I = (ev cn cf e ro fr I).stm fr (kUnp tg fr) := id rfl
@[simp] theorem kUnp_fro (tg : List Nat) (d : D) : kUnp tg fr (d, .fro) I = match asgT (.tp tg) d fr with
      | some fr => .nx fr I
      | none => .bad := id rfl
@[simp] theorem kUnp_new (tg : List Nat) (d : D) : kUnp tg fr (d, .new) I = match asgT (.tp tg) d fr with
      | some fr => .nx fr I
      | none => .bad := id rfl
def kApp (i : Nat) (xs : List D) (fr : Fr) (p : D × Kd) (I : Is) : Xr := match frzK p with
      | some d => bif decide (xs.length < lim) then .nx (fr.set i (.lst (xs ++ [d]))) I else .bad
      | none => .bad
@[simp high] theorem ex_app' (i : Nat) (e : Tm) : exec cn cf (.app i e) ro fr I = (match fr[i]? with
    | some (.lst xs) => (ev cn cf e ro fr I).stm fr (kApp i xs fr)
    | _ => .bad) := id rfl
@[simp] theorem kApp_fro (i : Nat) (xs : List D) (d : D) : kApp i xs fr (d, .fro) I = bif decide (xs.length < lim) then .nx (fr.set i (.lst (xs ++ [d]))) I else .bad := id rfl
@[simp] theorem kApp_new (i : Nat) (xs : List D) (d : D) : kApp i xs fr (d, .new) I = bif decide (xs.length < lim) then .nx (fr.set i (.lst (xs ++ [d]))) I else .bad := id rfl
def kExt (i : Nat) (xs : List D) (fr : Fr) (p : D × Kd) (I : Is) : Xr := match p.1 with
      | .lst ys => bif decide (xs.length + ys.length ≤ lim) then .nx (fr.set i (.lst (xs ++ ys))) I else .bad
      | _ => .bad
@[simp high] theorem ex_ext' (i : Nat) (e : Tm) : exec cn cf (.ext i e) ro fr I = (match fr[i]? with
    | some (.lst xs) => (ev cn cf e ro fr I).stm fr (kExt i xs fr)
    | _ => .bad) := id rfl
@[simp] theorem kExt_ok (i : Nat) (xs ys : List D) (k : Kd) : kExt i xs fr (.lst ys, k) I = bif decide (xs.length + ys.length ≤ lim) then .nx (fr.set i (.lst (xs ++ ys))) I else .bad := id rfl
def kNx {α : Type} (fr : Fr) (_ : α) (I : Is) : Xr := .nx fr I
@[simp high] theorem ex_expr' (e : Tm) : exec cn cf (.expr e) ro fr I = (ev cn cf e ro fr I).stm fr (kNx fr) := id rfl
@[simp] theorem kNx_ok (a : α) : kNx fr a I = .nx fr I := id rfl
def kIf (cn : Str → Option D) (cf : Str → Bool → List D → Is → R Sl) (a b : Sm) (ro : Bool) (fr : Fr) (t : Bool) (I : Is) : Xr := bif t then exec cn cf a ro fr I else exec cn cf b ro fr I
@[simp high] theorem ex_iff' (c : Tm) (a b : Sm) : exec cn cf (.iff c a b) ro fr I = ((ev cn cf c ro fr I).tst kC).stm fr (kIf cn cf a b ro fr) := id rfl
@[simp] theorem kIf_t (a b : Sm) : kIf cn cf a b ro fr true I = exec cn cf a ro fr I := id rfl
@[simp] theorem kIf_f (a b : Sm) : kIf cn cf a b ro fr false I = exec cn cf b ro fr I := id rfl
theorem kIf_b (a b : Sm) (t : Bool) : kIf cn cf a b ro fr t I = bif t then exec cn cf a ro fr I else exec cn cf b ro fr I := id rfl
def kRt (p : D × Kd) (I : Is) : Xr := match stoK true p with
    | some s => .rt s I
    | none => .bad
@[simp high] theorem ex_ret' (e : Tm) : exec cn cf (.ret e) ro fr I = (ev cn cf e ro fr I).stm fr kRt := id rfl
@[simp] theorem kRt_fro (d : D) : kRt (d, .fro) I = .rt (.val d) I := id rfl
@[simp] theorem kRt_lst (xs : List D) : kRt (.lst xs, .new) I = .rt (.lst xs) I := id rfl
@[simp] theorem cond_and (t u : Bool) : (bif t then R.ok (D.bl u, Kd.fro) I else R.ok (D.bl false, Kd.fro) I) = .ok (.bl (t && u), .fro) I := by cases t <;> rfl
@[simp] theorem cond_or (t u : Bool) : (bif t then R.ok (D.bl true, Kd.fro) I else R.ok (D.bl u, Kd.fro) I) = .ok (.bl (t || u), .fro) I := by cases t <;> rfl
def kOut (s : Sl) (I : Is) : R (D × Kd) := match s.out with
    | some p => .ok p I
    | none => .bad
@[simp] theorem kOut_val (d : D) : kOut (.val d) I = .ok (d, .fro) I := id rfl
@[simp] theorem kOut_lst (xs : List D) : kOut (.lst xs) I = .ok (.lst xs, .new) I := id rfl
@[simp] theorem kOut_dK (ks : List Ky) (vs : List D) : kOut (.dK ks vs) I = .ok (.dK ks vs, .new) I := id rfl
@[simp] theorem kOut_dT (ks : List (List Ky)) (vs : List D) : kOut (.dT ks vs) I = .ok (.dT ks vs, .new) I := id rfl
/-- a loop's turn -/
def loopB (cn : Str → Option D) (cf : Str → Bool → List D → Is → R Sl) (body : Sm) (ro : Bool) (fr : Fr) (I : Is) : Xr := exec cn cf body ro fr I
def forR (cn : Str → Option D) (cf : Str → Bool → List D → Is → R Sl) (body : Sm) (ro : Bool) (tg : Tg) (fr : Fr) (p : List D × Kd) (I : Is) : Xr := bif decide (p.2 = .own) then .bad else forL (fun fr I => exec cn cf body (ro || isInst p.2) fr I) tg p.1 fr I
@[simp high] theorem ex_for' (tg : Tg) (it : Tm) (body : Sm) : exec cn cf (.for tg it body) ro fr I = (evI cn cf it ro fr I).stm fr (forR cn cf body ro tg fr) := id rfl
@[simp] theorem forR_fro (tg : Tg) (body : Sm) (xs : List D) : forR cn cf body ro tg fr (xs, .fro) I = forL (loopB cn cf body ro) tg xs fr I := by
  show forL (fun fr I => exec cn cf body (ro || false) fr I) tg xs fr I = _
  rw [Bool.or_false]; rfl
@[simp] theorem forR_new (tg : Tg) (body : Sm) (xs : List D) : forR cn cf body ro tg fr (xs, .new) I = forL (loopB cn cf body ro) tg xs fr I := by
  show forL (fun fr I => exec cn cf body (ro || false) fr I) tg xs fr I = _
  rw [Bool.or_false]; rfl
@[simp] theorem forR_inst (tg : Tg) (body : Sm) (xs : List D) : forR cn cf body ro tg fr (xs, .inst) I = forL (loopB cn cf body true) tg xs fr I := by
  show forL (fun fr I => exec cn cf body (ro || true) fr I) tg xs fr I = _
  rw [Bool.or_true]; rfl
theorem loop_def (body : Sm) : loopB cn cf body ro fr I = exec cn cf body ro fr I := id rfl
theorem loop_all {B : Fr → Is → Xr} {tg : Tg} (P : Fr → Prop) {xs : List D} (h : ∀ x ∈ xs, ∀ fr, P fr → ∃ fr1 fr2, asgT tg x fr = some fr1 ∧ (B fr1 I = .nx fr2 I ∨ B fr1 I = .ct fr2 I) ∧ P fr2) : ∀ {fr : Fr}, P fr → ∃ fr', forL B tg xs fr I = .nx fr' I ∧ P fr' := by
  intro fr hp
  obtain ⟨fr', h1, h2⟩ := forL_ex (body := B) (tg := tg) (I := I) (fun _ fr => P fr) xs 0 fr hp fun i x fr hx hp => h x (List.mem_of_getElem? hx) fr hp
  exact ⟨fr', h1, h2⟩
/-- a call with things that stand still -/
theorem callD_frz {x : Str} {ps : List (D × Kd)} {ds : List D} (e : frzAll ps = some ds) : callD cf x ro ps I = (bif ro then (cf x true ds I).reset I else cf x false ds I).bind kOut := by
  simp only [callD, e] <;> rfl
@[simp] theorem out_val (d : D) : (Sl.val d).out = some (d, .fro) := id rfl
@[simp] theorem out_lst (xs : List D) : (Sl.lst xs).out = some (.lst xs, .new) := id rfl
@[simp] theorem stoK_fro' (b : Bool) (d : D) : stoK b (d, .fro) = some (.val d) := id rfl
mutual
theorem pyeq_self : ∀ d : D, d.eqc = true → PyData.eqv d.py d.py = true
  | .non, _ => rfl
  | .bl b, _ => by cases b <;> rfl
  | .int i, _ => by simp [D.py, PyData.eqv]
  | .str z, _ => by simp [D.py, PyData.eqv]
  | .tup xs, h => by simpa [D.py, PyData.eqv] using pyeqs_self xs (by simpa [D.eqc] using h)
  | .lst xs, h => by simpa [D.py, PyData.eqv] using pyeqs_self xs (by simpa [D.eqc] using h)
  | .scr ns, _ => by
    have : ∀ ns : List Int, PyData.eqvAll (ns.map PyData.int) (ns.map PyData.int) = true := fun ns => by
      induction ns with
      | nil => rfl
      | cons n ns ih => simp [PyData.eqvAll, PyData.eqv, ih]
    simpa [D.py, PyData.eqv] using this ns
theorem pyeqs_self : ∀ ds : List D, D.eqcs ds = true → PyData.eqvAll (D.pys ds) (D.pys ds) = true
  | [], _ => rfl
  | d :: ds, h => by
    have h : (D.eqc d && D.eqcs ds) = true := h
    rw [Bool.and_eq_true] at h
    simp [D.pys, PyData.eqvAll, pyeq_self d h.1, pyeqs_self ds h.2]
end
theorem cmp_eq_self {d : D} (h : d.eqc = true) (h2 : d.dep ≤ 64) : cmpD .eq d d I = .ok (.bl true, .fro) I := by
  show (bif D.eqc d && D.eqc d && decide (min d.dep d.dep ≤ 64) then b2 (D.pyeq d d) I else .bad) = _
  rw [h, Nat.min_self, decide_eq_true h2]
  show b2 (D.pyeq d d) I = _
  unfold D.pyeq
  rw [pyeq_self d h]; rfl
theorem cmp_ne_self {d : D} (h : d.eqc = true) (h2 : d.dep ≤ 64) : cmpD .ne d d I = .ok (.bl false, .fro) I := by
  show (bif D.eqc d && D.eqc d && decide (min d.dep d.dep ≤ 64) then b2 (!D.pyeq d d) I else .bad) = _
  rw [h, Nat.min_self, decide_eq_true h2]
  show b2 (!D.pyeq d d) I = _
  unfold D.pyeq
  rw [pyeq_self d h]; rfl
@[simp] theorem for_nil {body : Fr → Is → Xr} {tg : Tg} : forL body tg [] fr I = .nx fr I := id rfl
/-- a def's body -/
theorem call_body {Γ : Gm} {x : Str} {fd : Fd} (h : Γ.fn x = some fd) {as : List D} (n : Nat) (ro : Bool) (I : Is) : callN Γ (n + 1) x ro as I = (match fillD fd as with
    | some vs => runB (exec Γ.cn (callN Γ n) fd.body ro (vs.map Sl.val ++ List.replicate (fd.nl - fd.np) .no) I)
    | none => .bad) := by
  simp only [callN, h] <;> rfl
theorem body_def {Γ : Gm} {fd : Fd} {n : Nat} {vs : List D} : bodyN Γ n fd ro vs I = runB (exec Γ.cn (callN Γ n) fd.body ro (vs.map Sl.val ++ List.replicate (fd.nl - fd.np) .no) I) := id rfl
@[simp] theorem dep_non : D.dep .non = 1 := id rfl
@[simp] theorem dep_bl (b : Bool) : D.dep (.bl b) = 1 := id rfl
@[simp] theorem dep_int (i : Int) : D.dep (.int i) = 1 := id rfl
@[simp] theorem dep_str (z : Str) : D.dep (.str z) = 1 := id rfl
@[simp] theorem dep_tup (xs : List D) : D.dep (.tup xs) = D.deps xs + 1 := by simp [D.dep]
@[simp] theorem dep_lst (xs : List D) : D.dep (.lst xs) = D.deps xs + 1 := by simp [D.dep]
@[simp] theorem deps_nil : D.deps [] = 0 := by simp [D.deps]
@[simp] theorem deps_cons (x : D) (xs : List D) : D.deps (x :: xs) = max (D.dep x) (D.deps xs) := by simp [D.deps]
@[simp] theorem eqc_non : D.eqc .non = true := id rfl
@[simp] theorem eqc_bl (b : Bool) : D.eqc (.bl b) = true := id rfl
@[simp] theorem eqc_int (i : Int) : D.eqc (.int i) = true := id rfl
@[simp] theorem eqc_str (z : Str) : D.eqc (.str z) = true := id rfl
@[simp] theorem eqc_tup (xs : List D) : D.eqc (.tup xs) = D.eqcs xs := by simp [D.eqc]
@[simp] theorem eqc_lst (xs : List D) : D.eqc (.lst xs) = D.eqcs xs := by simp [D.eqc]
@[simp] theorem eqcs_nil : D.eqcs [] = true := by simp [D.eqcs]
@[simp] theorem eqcs_cons (x : D) (xs : List D) : D.eqcs (x :: xs) = (D.eqc x && D.eqcs xs) := by simp [D.eqcs]
@[simp] theorem ne_int (a b : Int) : cmpD .ne (.int a) (.int b) I = .ok (.bl (!decide (a = b)), .fro) I := by
  show b2 (!D.pyeq (.int a) (.int b)) I = _
  simp [D.pyeq, D.py, PyData.eqv, b2, BEq.beq]
@[simp] theorem eq_int (a b : Int) : cmpD .eq (.int a) (.int b) I = .ok (.bl (decide (a = b)), .fro) I := by
  show b2 (D.pyeq (.int a) (.int b)) I = _
  simp [D.pyeq, D.py, PyData.eqv, b2, BEq.beq]
@[simp] theorem lt_int (a b : Int) : cmpD .lt (.int a) (.int b) I = .ok (.bl (decide (a < b)), .fro) I := id rfl
@[simp] theorem cle_int (a b : Int) : cmpD .le (.int a) (.int b) I = .ok (.bl (decide (a ≤ b)), .fro) I := id rfl
@[simp] theorem gt_int (a b : Int) : cmpD .gt (.int a) (.int b) I = .ok (.bl (decide (b < a)), .fro) I := id rfl
@[simp] theorem ge_int (a b : Int) : cmpD .ge (.int a) (.int b) I = .ok (.bl (decide (b ≤ a)), .fro) I := id rfl
@[simp] theorem add_int (a b : Int) : binD .add (.int a) (.int b) I = .ok (.int (a + b), .fro) I := id rfl
@[simp] theorem sub_int (a b : Int) : binD .sub (.int a) (.int b) I = .ok (.int (a - b), .fro) I := id rfl
@[simp] theorem b2_eq (b : Bool) : b2 b I = .ok (.bl b, .fro) I := id rfl
theorem mulL_int {a : Int} (b : Int) (h : small a = true) : binD .mul (.int a) (.int b) I = .ok (.int (a * b), .fro) I := by
  show (bif small a || small b then _ else _) = _
  rw [h]; rfl
theorem mulR_int (a : Int) {b : Int} (h : small b = true) : binD .mul (.int a) (.int b) I = .ok (.int (a * b), .fro) I := by
  show (bif small a || small b then _ else _) = _
  rw [h, Bool.or_true]; rfl
theorem md_pos {a b : Int} (h : 0 < b) : binD .md (.int a) (.int b) I = .ok (.int (a % b), .fro) I := by
  show (bif decide (0 < b) then _ else _) = _
  rw [decide_eq_true h]; rfl
theorem fdiv_pos {a b : Int} (h : 0 < b) (h2 : small b = true) : binD .fdiv (.int a) (.int b) I = .ok (.int (a / b), .fro) I := by
  show (bif decide (0 < b) && small b then _ else _) = _
  rw [decide_eq_true h, h2]; rfl
end
end Air
/-! Rows: the mathematics of laid, joined, pushed. -/
namespace Air
abbrev Rw (α : Type) := Int × Int × α
section
variable {α : Type}
/-- rows that lie apart and rise, between lo and hi -/
def Vld (lo hi : Int) : List (Rw α) → Prop
  | [] => True
  | r :: rs => lo ≤ r.1 ∧ r.1 < r.2.1 ∧ r.2.1 ≤ hi ∧ Vld r.2.1 hi rs
theorem Vld.low {lo lo' hi : Int} (h : lo' ≤ lo) : ∀ {rs : List (Rw α)}, Vld lo hi rs → Vld lo' hi rs
  | [], _ => trivial
  | _ :: _, ⟨h1, h2, h3, h4⟩ => ⟨by omega, h2, h3, h4⟩
theorem Vld.mem {lo hi : Int} : ∀ {rs : List (Rw α)}, Vld lo hi rs → ∀ r ∈ rs, lo ≤ r.1 ∧ r.1 < r.2.1 ∧ r.2.1 ≤ hi
  | [], _, _, h => by simp at h
  | a :: rs, ⟨h1, h2, h3, h4⟩, r, h => by
    rcases List.mem_cons.mp h with rfl | h
    · exact ⟨h1, h2, h3⟩
    · have := h4.mem r h; omega
theorem Vld.app {lo hi : Int} : ∀ {a b : List (Rw α)}, Vld lo hi (a ++ b) → Vld lo hi a ∧ Vld lo hi b ∧ (∀ x ∈ a, ∀ y ∈ b, x.2.1 ≤ y.1)
  | [], b, h => ⟨trivial, h, by simp⟩
  | x :: a, b, ⟨h1, h2, h3, h4⟩ => by
    obtain ⟨h5, h6, h7⟩ := Vld.app h4
    refine ⟨⟨h1, h2, h3, h5⟩, h6.low (by omega), fun y hy z hz => ?_⟩
    rcases List.mem_cons.mp hy with rfl | hy
    · exact (h6.mem z hz).1
    · exact h7 y hy z hz
theorem Vld.snoc {lo hi : Int} : ∀ {a : List (Rw α)} {b : List (Rw α)} {m : Int}, Vld lo hi a → lo ≤ m → (∀ x ∈ a, x.2.1 ≤ m) → Vld m hi b → Vld lo hi (a ++ b)
  | [], b, m, _, h1, _, h3 => h3.low h1
  | x :: a, b, m, ⟨h1, h2, h3, h4⟩, h5, h6, h7 => ⟨h1, h2, h3, Vld.snoc h4 (h6 x (by simp)) (fun y hy => h6 y (by simp [hy])) h7⟩
/-! ### which row has an hour -/
def inR (h : Int) (r : Rw α) : Bool := decide (r.1 ≤ h) && decide (h < r.2.1)
theorem Vld.none {lo hi h : Int} (hl : h < lo) : ∀ {rs : List (Rw α)}, Vld lo hi rs → rs.filter (inR h) = []
  | [], _ => rfl
  | r :: rs, ⟨h1, h2, h3, h4⟩ => by
    rw [List.filter_cons, if_neg (by simp [inR]; omega)]
    exact Vld.none (by omega) h4
theorem Vld.one {lo hi h : Int} : ∀ {rs : List (Rw α)}, Vld lo hi rs → rs.filter (inR h) = [] ∨ ∃ r ∈ rs, rs.filter (inR h) = [r] ∧ r.1 ≤ h ∧ h < r.2.1
  | [], _ => .inl rfl
  | r :: rs, ⟨h1, h2, h3, h4⟩ => by
    rw [List.filter_cons]
    by_cases c : r.1 ≤ h ∧ h < r.2.1
    · rw [if_pos (by simp [inR, c]), Vld.none (by omega) h4]
      exact .inr ⟨r, by simp, rfl, c⟩
    · rw [if_neg (by simp [inR]; omega)]
      exact h4.one.imp id fun ⟨r, h1, h2⟩ => ⟨r, by simp [h1], h2⟩

/-! ### laid -/
def laid1 (b e : Int) (r : Rw α) : List (Rw α) := if r.2.1 ≤ b ∨ e ≤ r.1 then [r] else if r.1 < b then [(r.1, b, r.2.2)] else []
def laidL (b e : Int) (rs : List (Rw α)) : List (Rw α) := rs.flatMap (laid1 b e)
theorem laidL_cons (b e : Int) (r : Rw α) (rs : List (Rw α)) : laidL b e (r :: rs) = laid1 b e r ++ laidL b e rs := by simp [laidL]
theorem laid1_cases (b e : Int) (r : Rw α) : (laid1 b e r = [r] ∧ (r.2.1 ≤ b ∨ e ≤ r.1)) ∨ (laid1 b e r = [(r.1, b, r.2.2)] ∧ r.1 < b ∧ b < r.2.1 ∧ r.1 < e) ∨ (laid1 b e r = [] ∧ b ≤ r.1 ∧ b < r.2.1 ∧ r.1 < e) := by
  unfold laid1
  by_cases h1 : r.2.1 ≤ b ∨ e ≤ r.1
  · rw [if_pos h1]; exact .inl ⟨rfl, h1⟩
  · rw [if_neg h1]
    by_cases h2 : r.1 < b
    · rw [if_pos h2]; exact .inr (.inl ⟨rfl, h2, by omega, by omega⟩)
    · rw [if_neg h2]; exact .inr (.inr ⟨rfl, by omega, by omega, by omega⟩)
theorem laid_vld {b e : Int} : ∀ {rs : List (Rw α)} {lo hi : Int}, Vld lo hi rs → Vld lo hi (laidL b e rs)
  | [], _, _, _ => trivial
  | r :: rs, lo, hi, ⟨h1, h2, h3, h4⟩ => by
    rw [laidL_cons]
    rcases laid1_cases b e r with ⟨q, _⟩ | ⟨q, q2⟩ | ⟨q, _⟩ <;> rw [q]
    · exact ⟨h1, h2, h3, laid_vld h4⟩
    · exact ⟨h1, by simp; omega, by simp; omega, laid_vld (h4.low (by simp; omega))⟩
    · exact laid_vld (h4.low (by omega))
theorem laid_begins {b e : Int} (he : b < e) : ∀ {rs : List (Rw α)} {lo hi : Int}, Vld lo hi rs → (laidL b e rs).map (·.1) = (rs.filter fun r => decide (r.1 < b) || decide (e ≤ r.1)).map (·.1)
  | [], _, _, _ => rfl
  | r :: rs, lo, hi, ⟨h1, h2, h3, h4⟩ => by
    rw [laidL_cons, List.filter_cons, List.map_append, laid_begins he h4]
    rcases laid1_cases b e r with ⟨q, q2⟩ | ⟨q, q2⟩ | ⟨q, q2⟩ <;> rw [q]
    · have c : (decide (r.1 < b) || decide (e ≤ r.1)) = true := by simp; omega
      rw [c]; simp
    · have c : (decide (r.1 < b) || decide (e ≤ r.1)) = true := by simp; omega
      rw [c]; simp
    · have c : (decide (r.1 < b) || decide (e ≤ r.1)) = false := by simp; omega
      rw [c]; simp
/-- what is due in an hour, of the row that had it -/
def dueF (b e h : Int) (r : Rw α) : Option (Rw α) :=
  let r1 : Rw α := if r.1 < b ∧ b < r.2.1 then (r.1, b, r.2.2) else r
  if b ≤ h ∧ r1.1 < e then Option.none else some r1
theorem laid_at {b e : Int} (he : b < e) (h : Int) : ∀ rs : List (Rw α), (laidL b e rs).filter (inR h) = (rs.filter (inR h)).flatMap fun r => (dueF b e h r).toList
  | [] => rfl
  | r :: rs => by
    rw [laidL_cons, List.filter_append, laid_at he h rs, List.filter_cons]
    have step : (laid1 b e r).filter (inR h) = (if inR h r = true then (dueF b e h r).toList else []) := by
      rcases laid1_cases b e r with ⟨q, q2⟩ | ⟨q, q2⟩ | ⟨q, q2⟩ <;> rw [q]
      · by_cases c : inR h r = true
        · rw [if_pos c, List.filter_cons, if_pos c]
          simp only [inR, Bool.and_eq_true, decide_eq_true_eq] at c
          simp [dueF, show ¬ (r.1 < b ∧ b < r.2.1) by omega, show ¬ (b ≤ h ∧ r.1 < e) by omega]
        · rw [if_neg c, List.filter_cons, if_neg c]; rfl
      · rw [List.filter_cons]
        by_cases c : inR h r = true
        · rw [if_pos c]
          simp only [inR, Bool.and_eq_true, decide_eq_true_eq] at c
          by_cases z : h < b
          · rw [if_pos (by simp [inR]; omega)]
            simp [dueF, q2.1, q2.2.1, show ¬ b ≤ h by omega]
          · rw [if_neg (by simp [inR]; omega)]
            simp [dueF, q2.1, q2.2.1, q2.2.2, show b ≤ h by omega]
        · rw [if_neg c, if_neg (fun z => c (by simp only [inR, Bool.and_eq_true, decide_eq_true_eq] at z ⊢; omega))]; rfl
      · by_cases c : inR h r = true
        · rw [if_pos c]
          simp only [inR, Bool.and_eq_true, decide_eq_true_eq] at c
          simp [dueF, show ¬ (r.1 < b) by omega, q2.2.2, show b ≤ h by omega]
        · rw [if_neg c]; rfl
    rw [step]
    by_cases c : inR h r = true
    · rw [if_pos c, if_pos c, List.flatMap_cons]
    · rw [if_neg c, if_neg c, List.nil_append]
/-! ### joined -/
def join1 (e : Int) (r : Rw α) : List (Rw α) := if e ≤ r.1 then [r] else if e < r.2.1 then [(e, r.2.1, r.2.2)] else []
def joinP (e : Int) (rs : List (Rw α)) : List (Rw α) := rs.flatMap (join1 e)
theorem joinP_cons (e : Int) (r : Rw α) (rs : List (Rw α)) : joinP e (r :: rs) = join1 e r ++ joinP e rs := by simp [joinP]
theorem join1_cases (e : Int) (r : Rw α) : (join1 e r = [r] ∧ e ≤ r.1) ∨ (join1 e r = [(e, r.2.1, r.2.2)] ∧ r.1 < e ∧ e < r.2.1) ∨ (join1 e r = [] ∧ r.1 < e ∧ r.2.1 ≤ e) := by
  unfold join1
  by_cases h1 : e ≤ r.1
  · rw [if_pos h1]; exact .inl ⟨rfl, h1⟩
  · rw [if_neg h1]
    by_cases h2 : e < r.2.1
    · rw [if_pos h2]; exact .inr (.inl ⟨rfl, by omega, h2⟩)
    · rw [if_neg h2]; exact .inr (.inr ⟨rfl, by omega, by omega⟩)
theorem joinP_vld {e : Int} : ∀ {rs : List (Rw α)} {lo hi : Int}, Vld lo hi rs → Vld (max lo e) hi (joinP e rs)
  | [], _, _, _ => trivial
  | r :: rs, lo, hi, ⟨h1, h2, h3, h4⟩ => by
    rw [joinP_cons]
    rcases join1_cases e r with ⟨q, q2⟩ | ⟨q, q2⟩ | ⟨q, q2⟩ <;> rw [q]
    · exact ⟨by omega, h2, h3, (joinP_vld h4).low (by omega)⟩
    · exact ⟨by simp; omega, by simp; omega, by simp; omega, (joinP_vld h4).low (by simp; omega)⟩
    · exact (joinP_vld h4).low (by omega)
theorem joinP_id {e : Int} : ∀ {rs : List (Rw α)} {lo hi : Int}, Vld lo hi rs → e ≤ lo → joinP e rs = rs
  | [], _, _, _, _ => rfl
  | r :: rs, lo, hi, ⟨h1, h2, h3, h4⟩, h => by
    rw [joinP_cons, joinP_id h4 (by omega)]
    unfold join1
    rw [if_pos (by omega)]; rfl
theorem join_join1 {m e : Int} (h : m ≤ e) (r : Rw α) : (join1 m r).flatMap (join1 e) = join1 e r := by
  rcases join1_cases m r with ⟨q, q2⟩ | ⟨q, q2⟩ | ⟨q, q2⟩ <;> rw [q]
  · simp
  · simp only [List.flatMap_cons, List.flatMap_nil, List.append_nil]
    unfold join1
    by_cases z : e = m
    · subst z; rw [if_pos (show e ≤ (e, r.2.1, r.2.2).1 from Int.le_refl _), if_neg (by omega), if_pos q2.2]
    · show (if e ≤ m then _ else if e < r.2.1 then _ else _) = _
      rw [if_neg (by omega), if_neg (show ¬ e ≤ r.1 by omega)]
  · unfold join1
    rw [if_neg (by omega), if_neg (by omega)]; rfl
theorem joinP_joinP {m e : Int} (h : m ≤ e) (rs : List (Rw α)) : joinP e (joinP m rs) = joinP e rs := by
  unfold joinP
  rw [List.flatMap_assoc]
  congr 1
  funext r
  exact join_join1 h r
/-- what joined tells, row by row -/
def joinedS (b e : Int) (r : Rw α) : List (Rw α) := if r.1 = b then [(b, e, r.2.2)] else if r.1 < b ∨ e ≤ r.1 then [r] else if e < r.2.1 then [(e, r.2.1, r.2.2)] else []
def joinedL (b e : Int) (rs : List (Rw α)) : List (Rw α) := rs.flatMap (joinedS b e)
theorem joined_split {b e old hi : Int} {pre post : List (Rw α)} {n : α} (h : Vld 0 hi (pre ++ (b, old, n) :: post)) : joinedL b e (pre ++ (b, old, n) :: post) = pre ++ (b, e, n) :: joinP e post := by
  obtain ⟨h1, ⟨_, h2, h3, h4⟩, h5⟩ := h.app
  have e1 : joinedL b e pre = pre := by
    have : ∀ l : List (Rw α), (∀ r ∈ l, r.1 < b) → joinedL b e l = l := fun l hl => by
      induction l with
      | nil => rfl
      | cons r l ih =>
        have hr := hl r (by simp)
        have ih := ih fun x hx => hl x (by simp [hx])
        unfold joinedL at ih ⊢
        rw [List.flatMap_cons, ih]
        unfold joinedS
        rw [if_neg (by omega), if_pos (.inl hr)]; rfl
    exact this pre fun r hr => by have := h5 r hr (b, old, n) (by simp); have := (h1.mem r hr).2.1; simp at *; omega
  have e2 : ∀ l : List (Rw α), (∀ r ∈ l, b < r.1) → joinedL b e l = joinP e l := fun l hl => by
    induction l with
    | nil => rfl
    | cons r l ih =>
      have hr := hl r (by simp)
      have ih := ih fun x hx => hl x (by simp [hx])
      unfold joinedL joinP at ih ⊢
      rw [List.flatMap_cons, List.flatMap_cons, ih]
      congr 1
      unfold joinedS join1
      rw [if_neg (by omega)]
      by_cases z : e ≤ r.1
      · rw [if_pos (.inr z), if_pos z]
      · rw [if_neg (by omega), if_neg z]
  have e3 := e2 post fun r hr => by have := (h4.mem r hr).1; simp at *; omega
  unfold joinedL at e1 e3 ⊢
  rw [List.flatMap_append, List.flatMap_cons, e1, e3]
  unfold joinedS
  simp
/-! ### pushed -/
/-- the first fixed row's begin, or the last hour -/
def nfL (fx : α → Bool) (last : Int) : List (Rw α) → Int
  | [] => last
  | r :: rs => if fx r.2.2 = true then r.1 else nfL fx last rs
def push1 (fx : α → Bool) (last : Int) : Int → List (Rw α) → List (Rw α)
  | _, [] => []
  | at_, r :: rs => if at_ ≤ r.1 then r :: push1 fx last r.2.1 rs else
      if at_ < min (at_ + r.2.1 - r.1) (nfL fx last (r :: rs)) then (at_, min (at_ + r.2.1 - r.1) (nfL fx last (r :: rs)), r.2.2) :: push1 fx last (min (at_ + r.2.1 - r.1) (nfL fx last (r :: rs))) rs else push1 fx last at_ rs
section
variable {fx : α → Bool} {last : Int}
theorem nf_low {lo hi : Int} : ∀ {rs : List (Rw α)}, Vld lo hi rs → lo ≤ last → lo ≤ nfL fx last rs
  | [], _, h => h
  | r :: rs, ⟨h1, h2, h3, h4⟩, h => by
    unfold nfL
    split
    · exact h1
    · by_cases z : r.2.1 ≤ last
      · have := nf_low h4 z; omega
      · exact nf_low (h4.low (by omega)) h
theorem nf_next {lo hi : Int} {r : Rw α} {rs : List (Rw α)} (v : Vld lo hi (r :: rs)) (hl : hi ≤ last) (hf : fx r.2.2 = false) : r.2.1 ≤ nfL fx last (r :: rs) ∧ nfL fx last (r :: rs) = nfL fx last rs := by
  have e : nfL fx last (r :: rs) = nfL fx last rs := by show (if fx r.2.2 = true then r.1 else nfL fx last rs) = _; rw [hf]; rfl
  exact ⟨e ▸ nf_low v.2.2.2 (by have := v.2.2.1; omega), e⟩
theorem nf_le {lo hi : Int} : ∀ {rs : List (Rw α)}, Vld lo hi rs → hi ≤ last → nfL fx last rs ≤ last
  | [], _, _ => Int.le_refl _
  | r :: rs, ⟨h1, h2, h3, h4⟩, h => by
    unfold nfL
    split
    · omega
    · exact nf_le h4 h
theorem nf_after {lo hi : Int} {r : Rw α} {rs : List (Rw α)} (v : Vld lo hi (r :: rs)) (hl : hi ≤ last) : r.2.1 ≤ nfL fx last rs := nf_low v.2.2.2 (by have := v.2.2.1; omega)
/-- a turn of pushed -/
theorem push_cases {lo hi at_ : Int} {r : Rw α} {rs : List (Rw α)} (v : Vld lo hi (r :: rs)) (hl : hi ≤ last) (ha : at_ ≤ nfL fx last (r :: rs)) :
    (at_ ≤ r.1 ∧ push1 fx last at_ (r :: rs) = r :: push1 fx last r.2.1 rs) ∨
    (r.1 < at_ ∧ fx r.2.2 = false ∧ nfL fx last (r :: rs) = nfL fx last rs ∧ ∃ st, st = min (at_ + r.2.1 - r.1) (nfL fx last rs) ∧ r.2.1 ≤ st ∧
      ((at_ < st ∧ push1 fx last at_ (r :: rs) = (at_, st, r.2.2) :: push1 fx last st rs) ∨ (st = at_ ∧ nfL fx last rs = at_ ∧ push1 fx last at_ (r :: rs) = push1 fx last at_ rs))) := by
  by_cases h1 : at_ ≤ r.1
  · exact .inl ⟨h1, by rw [push1, if_pos h1]⟩
  · have hf : fx r.2.2 = false := by
      cases q : fx r.2.2 with
      | false => rfl
      | true =>
        have e : nfL fx last (r :: rs) = r.1 := by show (if fx r.2.2 = true then r.1 else nfL fx last rs) = _; rw [q]; rfl
        omega
    obtain ⟨h2, h3⟩ := nf_next v hl hf
    have hr := v.2.1
    refine .inr ⟨by omega, hf, h3, _, rfl, by omega, ?_⟩
    rw [push1, if_neg h1, h3]
    by_cases h4 : at_ < min (at_ + r.2.1 - r.1) (nfL fx last rs)
    · exact .inl ⟨h4, by rw [if_pos h4]⟩
    · refine .inr ⟨by omega, by omega, by rw [if_neg h4]⟩
theorem push_nf {hi : Int} (hl : hi ≤ last) : ∀ {rs : List (Rw α)} {lo at_ : Int}, Vld lo hi rs → at_ ≤ nfL fx last rs → nfL fx last (push1 fx last at_ rs) = nfL fx last rs
  | [], _, _, _, _ => rfl
  | r :: rs, lo, at_, v, ha => by
    have v4 := v.2.2.2
    rcases push_cases v hl ha with ⟨h1, e⟩ | ⟨h1, hf, h2, st, hst, h3, ⟨h4, e⟩ | ⟨h4, h5, e⟩⟩ <;> rw [e]
    · show (if fx r.2.2 = true then r.1 else nfL fx last (push1 fx last r.2.1 rs)) = (if fx r.2.2 = true then r.1 else nfL fx last rs)
      rw [push_nf hl v4 (nf_after v hl)]
    · show (if fx r.2.2 = true then at_ else nfL fx last (push1 fx last st rs)) = _
      rw [hf, h2]
      exact push_nf hl v4 (by omega)
    · rw [h2]
      exact push_nf hl v4 (by omega)
theorem push_vld {hi : Int} (hl : hi ≤ last) : ∀ {rs : List (Rw α)} {lo at_ : Int}, Vld lo hi rs → at_ ≤ nfL fx last rs → Vld at_ last (push1 fx last at_ rs)
  | [], _, _, _, _ => trivial
  | r :: rs, lo, at_, v, ha => by
    have v4 := v.2.2.2
    have v3 := v.2.2.1
    have v2 := v.2.1
    have nl := nf_le (fx := fx) v4 hl
    rcases push_cases v hl ha with ⟨h1, e⟩ | ⟨h1, hf, h2, st, hst, h3, ⟨h4, e⟩ | ⟨h4, h5, e⟩⟩ <;> rw [e]
    · exact ⟨h1, v2, by omega, push_vld hl v4 (nf_after v hl)⟩
    · exact ⟨Int.le_refl _, h4, by simp; omega, push_vld hl v4 (by simp; omega)⟩
    · exact push_vld hl v4 (by omega)
/-- one overrun, then another one -/
theorem push_push {hi : Int} (hl : hi ≤ last) : ∀ {rs : List (Rw α)} {lo a b : Int}, Vld lo hi rs → a ≤ b → b ≤ nfL fx last rs → push1 fx last b (push1 fx last a rs) = push1 fx last b rs
  | [], _, _, _, _, _, _ => rfl
  | r :: rs, lo, a, b, v, hab, hb => by
    have v4 := v.2.2.2
    have v2 := v.2.1
    have na := nf_after (fx := fx) v hl
    rcases push_cases (fx := fx) (at_ := a) v hl (by omega) with ⟨h1, e⟩ | ⟨h1, hf, h2, st, hst, h3, ⟨h4, e⟩ | ⟨h4, h5, e⟩⟩ <;> rw [e]
    · have q := push_nf (fx := fx) hl v4 na
      rcases push_cases (at_ := b) v hl hb with ⟨g1, e2⟩ | ⟨g1, gf, g2, st2, gst, g3, g⟩
      · rw [e2, push1, if_pos g1, push_push hl v4 (Int.le_refl _) na]
      · have n1 : nfL fx last (r :: push1 fx last r.2.1 rs) = nfL fx last rs := by show (if fx r.2.2 = true then r.1 else nfL fx last (push1 fx last r.2.1 rs)) = _; rw [gf, q]; rfl
        rw [push1, if_neg (by omega), n1]
        rcases g with ⟨g4, e2⟩ | ⟨g4, g5, e2⟩
        · rw [e2, if_pos (by omega), ← gst, push_push hl v4 g3 (by omega)]
        · rw [e2, if_neg (by omega), push_push hl v4 (by omega) (by omega)]
    · have q := push_nf (fx := fx) (at_ := st) hl v4 (by omega)
      have n1 : nfL fx last ((a, st, r.2.2) :: push1 fx last st rs) = nfL fx last rs := by show (if fx r.2.2 = true then a else nfL fx last (push1 fx last st rs)) = _; rw [hf, q]; rfl
      rcases push_cases (at_ := b) v hl hb with ⟨g1, e2⟩ | ⟨g1, gf, g2, st2, gst, g3, g⟩
      · omega
      · by_cases hba : b ≤ a
        · have : b = a := by omega
          subst this
          have : st2 = st := by omega
          subst this
          rcases g with ⟨g4, e2⟩ | ⟨g4, g5, e2⟩
          · rw [e2, push1, if_pos (Int.le_refl _), push_push (a := st2) (b := st2) hl v4 (Int.le_refl _) (by omega)]
          · omega
        · rw [push1, if_neg (by simpa using hba), n1]
          have e3 : min (b + st - a) (nfL fx last rs) = st2 := by omega
          show (if b < min (b + st - a) (nfL fx last rs) then (b, min (b + st - a) (nfL fx last rs), r.2.2) :: push1 fx last (min (b + st - a) (nfL fx last rs)) (push1 fx last st rs) else push1 fx last b (push1 fx last st rs)) = _
          rw [e3]
          rcases g with ⟨g4, e2⟩ | ⟨g4, g5, e2⟩
          · rw [e2, if_pos g4, push_push hl v4 (by omega) (by omega)]
          · rw [e2, if_neg (by omega), push_push hl v4 (by omega) (by omega)]
    · have : b = a := by omega
      subst this
      rw [push_push hl v4 (Int.le_refl _) (by omega)]
      rcases push_cases (at_ := b) v hl hb with ⟨g1, e2⟩ | ⟨g1, gf, g2, st2, gst, g3, ⟨g4, e2⟩ | ⟨g4, g5, e2⟩⟩
      · omega
      · omega
      · rw [e2]
theorem push_id {hi : Int} : ∀ {rs : List (Rw α)} {lo at_ : Int}, Vld lo hi rs → at_ ≤ lo → push1 fx last at_ rs = rs
  | [], _, _, _, _ => rfl
  | r :: rs, lo, at_, ⟨h1, h2, h3, h4⟩, h => by rw [push1, if_pos (by omega), push_id h4 (Int.le_refl _)]
/-- fixed rows stay -/
theorem push_firm {hi : Int} (hl : hi ≤ last) : ∀ {rs : List (Rw α)} {lo at_ : Int}, Vld lo hi rs → at_ ≤ nfL fx last rs → (push1 fx last at_ rs).filter (fun r => fx r.2.2) = rs.filter fun r => fx r.2.2
  | [], _, _, _, _ => rfl
  | r :: rs, lo, at_, v, ha => by
    have v4 := v.2.2.2
    rcases push_cases v hl ha with ⟨h1, e⟩ | ⟨h1, hf, h2, st, hst, h3, ⟨h4, e⟩ | ⟨h4, h5, e⟩⟩ <;> rw [e]
    · rw [List.filter_cons, List.filter_cons, push_firm hl v4 (nf_after v hl)]
    · rw [List.filter_cons, List.filter_cons, hf, if_neg (by simp), if_neg (by simp), push_firm hl v4 (by omega)]
    · rw [List.filter_cons, hf, if_neg (by simp), push_firm hl v4 (by omega)]
/-! ### no hour is lost -/
def cov (rs : List (Rw α)) (h : Int) : Prop := ∃ r ∈ rs, r.1 ≤ h ∧ h < r.2.1
theorem cov_cons {r : Rw α} {rs : List (Rw α)} {h : Int} : cov (r :: rs) h ↔ (r.1 ≤ h ∧ h < r.2.1) ∨ cov rs h := by simp [cov]
theorem push_cov {hi : Int} (hl : hi ≤ last) {h : Int} : ∀ {rs : List (Rw α)} {lo at_ : Int}, Vld lo hi rs → at_ ≤ nfL fx last rs → at_ ≤ h → cov rs h → cov (push1 fx last at_ rs) h
  | [], _, _, _, _, _, c => c
  | r :: rs, lo, at_, v, ha, hh, c => by
    have v4 := v.2.2.2
    rw [cov_cons] at c
    have low : cov rs h → r.2.1 ≤ h := fun ⟨x, hx, h1, h2⟩ => by have := (v4.mem x hx).1; omega
    rcases push_cases v hl ha with ⟨h1, e⟩ | ⟨h1, hf, h2, st, hst, h3, ⟨h4, e⟩ | ⟨h4, h5, e⟩⟩ <;> rw [e]
    · rw [cov_cons]
      exact c.imp id fun c => push_cov hl v4 (nf_after v hl) (low c) c
    · rw [cov_cons]
      by_cases z : h < st
      · exact .inl ⟨hh, z⟩
      · refine .inr (push_cov hl v4 (by omega) (by omega) (c.resolve_left (by omega)))
    · refine push_cov hl v4 (by omega) hh (c.resolve_left (by omega))
theorem join_cov {e h : Int} : ∀ {rs : List (Rw α)}, cov (joinP e rs) h → cov rs h
  | [], c => c
  | r :: rs, c => by
    rw [joinP_cons] at c
    rw [cov_cons]
    rcases join1_cases e r with ⟨q, q2⟩ | ⟨q, q2⟩ | ⟨q, q2⟩ <;> rw [q] at c
    · exact (cov_cons.mp c).imp id join_cov
    · exact (cov_cons.mp c).imp (fun z => by simp at z; omega) join_cov
    · exact .inr (join_cov c)
def lens : List (Rw α) → Int
  | [] => 0
  | r :: rs => (r.2.1 - r.1) + lens rs
theorem lens_join {x y : Int} (h : x ≤ y) : ∀ {rs : List (Rw α)} {lo hi : Int}, Vld lo hi rs → lens (joinP x rs) ≤ lens (joinP y rs) + max 0 (y - max x lo)
  | [], _, _, _ => by simp [joinP, lens]; omega
  | r :: rs, lo, hi, ⟨h1, h2, h3, h4⟩ => by
    have ih := lens_join h h4
    rw [joinP_cons, joinP_cons]
    rcases join1_cases x r with ⟨q, q2⟩ | ⟨q, q2⟩ | ⟨q, q2⟩ <;> rcases join1_cases y r with ⟨p, p2⟩ | ⟨p, p2⟩ | ⟨p, p2⟩ <;> rw [q, p] <;> simp only [List.cons_append, List.nil_append, lens] <;> omega
theorem lens_push {hi : Int} (hl : hi ≤ last) : ∀ {rs : List (Rw α)} {lo at_ : Int}, Vld lo hi rs → at_ ≤ nfL fx last rs → lens (joinP at_ rs) ≤ lens (push1 fx last at_ rs)
  | [], _, _, _, _ => by simp [joinP, lens, push1]
  | r :: rs, lo, at_, v, ha => by
    have v4 := v.2.2.2
    have v2 := v.2.1
    rw [joinP_cons]
    rcases push_cases v hl ha with ⟨h1, e⟩ | ⟨h1, hf, h2, st, hst, h3, ⟨h4, e⟩ | ⟨h4, h5, e⟩⟩ <;> rw [e]
    · have ih := lens_push hl v4 (nf_after (fx := fx) v hl)
      rw [joinP_id v4 (Int.le_refl _)] at ih
      rw [joinP_id v4 (by omega)]
      unfold join1
      rw [if_pos h1]
      simp only [List.cons_append, List.nil_append, lens]
      omega
    · have ih := lens_push (at_ := st) hl v4 (by omega)
      have lj := lens_join (x := at_) (y := st) (by omega) v4
      rcases join1_cases at_ r with ⟨q, q2⟩ | ⟨q, q2⟩ | ⟨q, q2⟩ <;> rw [q] <;> simp only [List.cons_append, List.nil_append, lens] <;> omega
    · have ih := lens_push (at_ := at_) hl v4 (by omega)
      rcases join1_cases at_ r with ⟨q, q2⟩ | ⟨q, q2⟩ | ⟨q, q2⟩ <;> rw [q] <;> simp only [List.cons_append, List.nil_append, lens] <;> omega
theorem push_names : ∀ (rs : List (Rw α)) (at_ : Int), ((push1 fx last at_ rs).map (·.2.2)).Sublist (rs.map (·.2.2))
  | [], _ => .slnil
  | r :: rs, at_ => by
    rw [push1]
    split
    · exact (push_names rs _).cons₂ _
    · split
      · exact (push_names rs _).cons₂ _
      · exact (push_names rs _).cons _
theorem join_names (e : Int) : ∀ (rs : List (Rw α)), ((joinP e rs).map (·.2.2)).Sublist (rs.map (·.2.2))
  | [] => .slnil
  | r :: rs => by
    rw [joinP_cons]
    rcases join1_cases e r with ⟨q, q2⟩ | ⟨q, q2⟩ | ⟨q, q2⟩ <;> rw [q]
    · exact (join_names e rs).cons₂ _
    · exact (join_names e rs).cons₂ _
    · exact (join_names e rs).cons _
end
end
end Air
/-! Air: plain laws (6): rows. -/
namespace Air
open PySem L2
/-! ### clean things: they are equal as Python says just where they are the same -/
mutual
def D.cl : D → Bool
  | .non => true
  | .int _ => true
  | .str _ => true
  | .tup xs => D.cls xs
  | .lst xs => D.cls xs
  | _ => false
def D.cls : List D → Bool
  | [] => true
  | d :: ds => D.cl d && D.cls ds
end
theorem cls_all : ∀ {ds : List D}, (∀ d ∈ ds, D.cl d = true) → D.cls ds = true
  | [], _ => rfl
  | d :: ds, h => by
    unfold D.cls
    rw [h d List.mem_cons_self, cls_all fun x hx => h x (List.mem_cons_of_mem _ hx)]; rfl
mutual
theorem cl_eqc : ∀ d : D, d.cl = true → d.eqc = true
  | .non, _ => rfl
  | .int _, _ => rfl
  | .str _, _ => rfl
  | .tup xs, h => by
    simpa using cls_eqcs xs (by simpa [D.cl] using h)
  | .lst xs, h => by
    simpa using cls_eqcs xs (by simpa [D.cl] using h)
theorem cls_eqcs : ∀ ds : List D, D.cls ds = true → D.eqcs ds = true
  | [], _ => rfl
  | d :: ds, h => by
    have h : (D.cl d && D.cls ds) = true := h
    rw [Bool.and_eq_true] at h
    simp [cl_eqc d h.1, cls_eqcs ds h.2]
end
mutual
theorem py_cl : ∀ a b : D, a.cl = true → b.cl = true → (PyData.eqv a.py b.py = true ↔ a = b)
  | .non, b, _, hb => by cases b <;> first | (cases hb; done) | simp [D.py, PyData.eqv]
  | .int i, b, _, hb => by cases b <;> first | (cases hb; done) | simp [D.py, PyData.eqv]
  | .str z, b, _, hb => by cases b <;> first | (cases hb; done) | simp [D.py, PyData.eqv]
  | .tup xs, b, ha, hb => by
    cases b <;> first | (cases hb; done) | skip
    · simp [D.py, PyData.eqv]
    · simp [D.py, PyData.eqv]
    · simp [D.py, PyData.eqv]
    · rename_i ys
      simpa [D.py, PyData.eqv] using pys_cl xs ys (by simpa [D.cl] using ha) (by simpa [D.cl] using hb)
    · simp [D.py, PyData.eqv]
  | .lst xs, b, ha, hb => by
    cases b <;> first | (cases hb; done) | skip
    · simp [D.py, PyData.eqv]
    · simp [D.py, PyData.eqv]
    · simp [D.py, PyData.eqv]
    · simp [D.py, PyData.eqv]
    · rename_i ys
      simpa [D.py, PyData.eqv] using pys_cl xs ys (by simpa [D.cl] using ha) (by simpa [D.cl] using hb)
theorem pys_cl : ∀ as bs : List D, D.cls as = true → D.cls bs = true → (PyData.eqvAll (D.pys as) (D.pys bs) = true ↔ as = bs)
  | [], [], _, _ => by simp [D.pys, PyData.eqvAll]
  | [], b :: bs, _, _ => by simp [D.pys, PyData.eqvAll]
  | a :: as, [], _, _ => by simp [D.pys, PyData.eqvAll]
  | a :: as, b :: bs, ha, hb => by
    have ha : (D.cl a && D.cls as) = true := ha
    have hb : (D.cl b && D.cls bs) = true := hb
    rw [Bool.and_eq_true] at ha hb
    simp only [D.pys, PyData.eqvAll, Bool.and_eq_true, py_cl a b ha.1 hb.1, pys_cl as bs ha.2 hb.2, List.cons.injEq]
end
section
variable {I : Is}
theorem pyeq_cl {a b : D} (ha : a.cl = true) (hb : b.cl = true) {p : Prop} [Decidable p] (hp : a = b ↔ p) : D.pyeq a b = decide p := by
  unfold D.pyeq
  rw [Bool.eq_iff_iff, py_cl a b ha hb, hp, decide_eq_true_eq]
theorem eq_cl {a b : D} (ha : a.cl = true) (hb : b.cl = true) (hd : a.dep ≤ 64) {p : Prop} [Decidable p] (hp : a = b ↔ p) : cmpD .eq a b I = .ok (.bl (decide p), .fro) I := by
  show (bif D.eqc a && D.eqc b && decide (min a.dep b.dep ≤ 64) then b2 (D.pyeq a b) I else .bad) = _
  rw [cl_eqc a ha, cl_eqc b hb, decide_eq_true (show min a.dep b.dep ≤ 64 by omega), pyeq_cl ha hb hp]
  rfl
theorem ne_cl {a b : D} (ha : a.cl = true) (hb : b.cl = true) (hd : a.dep ≤ 64) {p : Prop} [Decidable p] (hp : a = b ↔ p) : cmpD .ne a b I = .ok (.bl (!decide p), .fro) I := by
  show (bif D.eqc a && D.eqc b && decide (min a.dep b.dep ≤ 64) then b2 (!D.pyeq a b) I else .bad) = _
  rw [cl_eqc a ha, cl_eqc b hb, decide_eq_true (show min a.dep b.dep ≤ 64 by omega), pyeq_cl ha hb hp]
  rfl
/-! ### lists made from lists -/
@[simp] theorem frzS_val (d : D) : frzS (.val d) = some d := id rfl
@[simp] theorem frzS_lst (xs : List D) : frzS (.lst xs) = some (.lst xs) := id rfl
@[simp] theorem ex_frz (cn : Str → Option D) (cf : Str → Bool → List D → Is → R Sl) (ro : Bool) (fr : Fr) (i : Nat) : exec cn cf (.frz i) ro fr I = (match fr[i]? with
    | some s => (match frzS s with
      | some d => .nx (fr.set i (.val d)) I
      | none => .nx fr I)
    | none => .nx fr I) := id rfl
@[simp] theorem ex_bk (cn : Str → Option D) (cf : Str → Bool → List D → Is → R Sl) (ro : Bool) (fr : Fr) : exec cn cf .bk ro fr I = .bk fr I := id rfl
@[simp] theorem ex_ct (cn : Str → Option D) (cf : Str → Bool → List D → Is → R Sl) (ro : Bool) (fr : Fr) : exec cn cf .ct ro fr I = .ct fr I := id rfl
@[simp] theorem bk_bind (fr : Fr) (f : Fr → Is → Xr) : (Xr.bk fr I).bind f = .bk fr I := id rfl
@[simp] theorem ct_bind (fr : Fr) (f : Fr → Is → Xr) : (Xr.ct fr I).bind f = .ct fr I := id rfl
variable {cn : Str → Option D} {cf : Str → Bool → List D → Is → R Sl} {ro : Bool} {fr : Fr}
theorem lcL_map {α : Type} {step : Fr → Is → R (Option D)} {tg : Tg} (f : α → D) (o : α → Option D) : ∀ xs : List α, (∀ x ∈ xs, ∃ fr1, asgT tg (f x) fr = some fr1 ∧ step fr1 I = .ok (o x) I) → lcL step tg fr (xs.map f) I = .ok (xs.filterMap o) I
  | [], _ => rfl
  | x :: xs, h => by
    obtain ⟨fr1, h1, h3⟩ := h x List.mem_cons_self
    have h2 := lcL_map f o xs fun y hy => h y (List.mem_cons_of_mem _ hy)
    simp only [List.map_cons, lcL, h1, h2, h3, R.bind]
    cases e : o x with
    | none => simp [List.filterMap_cons, e]
    | some y => simp [List.filterMap_cons, e]
theorem ev_lcF {α : Type} {own : List (Str × Nat)} {elt it cond : Tm} {tg : Tg} {xs : List α} {k : Kd} (f : α → D) (c : α → Bool) (g : α → D) (hI : evI cn cf it ro fr I = .ok (xs.map f, k) I) (hk : isInst k = false) (hl : xs.length ≤ 1000000)
    (h : ∀ x ∈ xs, ∃ fr1, asgT tg (f x) (wipeF fr own) = some fr1 ∧ evC cn cf cond ro fr1 I = .ok (c x) I ∧ (c x = true → ∃ kk, ev cn cf elt ro fr1 I = .ok (g x, kk) I ∧ (kk = .fro ∨ kk = .new))) :
    ev cn cf (.lc own elt tg it cond) ro fr I = .ok (.lst ((xs.filter c).map g), .new) I := by
  have e : ∀ xs : List α, xs.filterMap (fun x => bif c x then some (g x) else none) = (xs.filter c).map g := fun xs => by
    induction xs with
    | nil => rfl
    | cons x xs ih => cases hc : c x <;> simp [List.filterMap_cons, List.filter_cons, hc, ih]
  rw [ev, hI]
  simp only [bind_ok, hk, Bool.or_false]
  rw [lcL_map f (fun x => bif c x then some (g x) else none) xs fun x hx => by
    obtain ⟨fr1, h1, h2, h3⟩ := h x hx
    refine ⟨fr1, h1, ?_⟩
    cases hc : c x with
    | false => simp [h2, hc]
    | true =>
      obtain ⟨kk, h4, h5⟩ := h3 hc
      rcases h5 with rfl | rfl <;> simp [h2, hc, h4]]
  rw [e]
  have : (xs.filter c).length ≤ lim := le_lim (Nat.le_trans (List.length_filter_le _ _) hl)
  simp [this]
theorem ev_lcM {α : Type} {own : List (Str × Nat)} {elt it : Tm} {tg : Tg} {xs : List α} {k : Kd} (f : α → D) (g : α → D) (hI : evI cn cf it ro fr I = .ok (xs.map f, k) I) (hk : isInst k = false) (hl : xs.length ≤ 1000000)
    (h : ∀ x ∈ xs, ∃ fr1, asgT tg (f x) (wipeF fr own) = some fr1 ∧ ∃ kk, ev cn cf elt ro fr1 I = .ok (g x, kk) I ∧ (kk = .fro ∨ kk = .new)) :
    ev cn cf (.lc own elt tg it .nil) ro fr I = .ok (.lst (xs.map g), .new) I := by
  have e := ev_lcF (own := own) (elt := elt) (it := it) (cond := .nil) (tg := tg) f (fun _ => true) g hI hk hl fun x hx => by
    obtain ⟨fr1, h1, h2⟩ := h x hx
    exact ⟨fr1, h1, rfl, fun _ => h2⟩
  rw [e, List.filter_eq_self.mpr fun _ _ => rfl]
theorem enm_zip {α : Type} (f : α → D) : ∀ (xs : List α) (k : Nat), enmL k (xs.map f) = (xs.zipIdx k).map fun p => .tup [.int p.2, f p.1]
  | [], _ => rfl
  | x :: xs, k => by simp [enmL, enm_zip f xs (k + 1)]
theorem sub_nat {xs : List D} {k : Nat} {d : D} {kd : Kd} (h : xs[k]? = some d) : subD (.lst xs) (.int (k : Int)) kd I = .ok (d, .fro) I := by
  have hk : k < xs.length := (List.getElem?_eq_some_iff.mp h).1
  have : L2.atI xs (k : Int) = some d := by
    rw [atI_in (by omega) (by omega), Int.toNat_natCast, h]
  simp only [subD, this]
/-! ### rows -/
def rowD (r : Rw Str) : D := .tup [.int r.1, .int r.2.1, .str r.2.2]
def rowsD (rs : List (Rw Str)) : List D := rs.map rowD
@[simp] theorem rowsD_len (rs : List (Rw Str)) : (rowsD rs).length = rs.length := List.length_map ..
@[simp] theorem rowsD_nil : rowsD [] = [] := id rfl
@[simp] theorem rowsD_cons (r : Rw Str) (rs : List (Rw Str)) : rowsD (r :: rs) = rowD r :: rowsD rs := id rfl
theorem rowsD_app (a b : List (Rw Str)) : rowsD (a ++ b) = rowsD a ++ rowsD b := List.map_append
theorem rowD_inj {a b : Rw Str} (h : rowD a = rowD b) : a = b := by
  obtain ⟨a1, a2, a3⟩ := a
  obtain ⟨b1, b2, b3⟩ := b
  simp [rowD] at h
  simp [h]
theorem rowsD_inj : ∀ {a b : List (Rw Str)}, rowsD a = rowsD b → a = b
  | [], [], _ => rfl
  | [], _ :: _, h => by simp at h
  | _ :: _, [], h => by simp at h
  | x :: xs, y :: ys, h => by
    simp only [rowsD_cons, List.cons.injEq] at h
    rw [rowD_inj h.1, rowsD_inj h.2]
@[simp] theorem rowD_cl (r : Rw Str) : (rowD r).cl = true := rfl
theorem rowsD_cl (rs : List (Rw Str)) : D.cl (.lst (rowsD rs)) = true := by
  have : D.cls (rowsD rs) = true := cls_all fun d hd => by
    obtain ⟨r, _, rfl⟩ := List.mem_map.mp hd
    rfl
  simpa [D.cl] using this
theorem rowD_dep (r : Rw Str) : (rowD r).dep = 2 := by simp [rowD]
theorem rowsD_dep : ∀ rs : List (Rw Str), D.deps (rowsD rs) ≤ 2
  | [] => by simp
  | r :: rs => by
    have := rowsD_dep rs
    rw [rowsD_cons, deps_cons, rowD_dep]; omega
theorem rowsD_iff (a b : List (Rw Str)) : D.lst (rowsD a) = .lst (rowsD b) ↔ a = b := ⟨fun h => rowsD_inj (by injection h), fun h => by rw [h]⟩
theorem eq_rows (a b : List (Rw Str)) : cmpD .eq (.lst (rowsD a)) (.lst (rowsD b)) I = .ok (.bl (decide (a = b)), .fro) I := eq_cl (rowsD_cl a) (rowsD_cl b) (by have := rowsD_dep a; simp; omega) (rowsD_iff a b)
theorem ne_rows (a b : List (Rw Str)) : cmpD .ne (.lst (rowsD a)) (.lst (rowsD b)) I = .ok (.bl (!decide (a = b)), .fro) I := ne_cl (rowsD_cl a) (rowsD_cl b) (by have := rowsD_dep a; simp; omega) (rowsD_iff a b)
@[simp] theorem sub_row0 (r : Rw Str) : subD (rowD r) (.int 0) .fro I = .ok (.int r.1, .fro) I := id rfl
@[simp] theorem sub_row1 (r : Rw Str) : subD (rowD r) (.int 1) .fro I = .ok (.int r.2.1, .fro) I := id rfl
@[simp] theorem sub_row2 (r : Rw Str) : subD (rowD r) (.int 2) .fro I = .ok (.str r.2.2, .fro) I := id rfl
@[simp] theorem isi_row (r : Rw Str) : isiD (rowD r) "tuple" = some true := id rfl
@[simp] theorem len_row (r : Rw Str) : biD .len [(rowD r, .fro)] I = .ok (.int 3, .fro) I := id rfl
@[simp] theorem len_lst (xs : List D) (k : Kd) : biD .len [(.lst xs, k)] I = .ok (.int xs.length, .fro) I := id rfl
theorem rows_get {rs : List (Rw Str)} {k : Nat} {r : Rw Str} (h : rs[k]? = some r) : (rowsD rs)[k]? = some (rowD r) := by
  simp [rowsD, h]
/-! #### are these rows -/
def areT0 : Tm := (.lc [("_law_row", 1)] (.and (.isi (.loc 1) ["tuple"]) (.cmp .eq (.blt .len (.cons (.loc 1) .nil)) (.cns (.int 3)))) (.nm 1) (.cons (.loc 0) .nil) .nil)
def areT1 : Tm := (.lc [("_law_row", 1)] (.sub (.loc 1) (.cns (.int 1))) (.nm 1) (.cons (.loc 0) .nil) .nil)
def areT2 : Tm := (.lc [("_law_k", 3), ("_law_row", 1)] (.ch2 .le .lt (.sub (.loc 2) (.loc 3)) (.sub (.loc 1) (.cns (.int 0))) (.sub (.loc 1) (.cns (.int 1)))) (.tp [3, 1]) (.enm (.loc 0)) .nil)
def areS : Sm := (.cons (.iff (.or (.not (.isi (.loc 0) ["list"])) (.not (.blt .all (.cons areT0 .nil)))) (.cons (.ret (.cns (.bl false)))
      .nil) .nil)
      (.cons (.asg 2 (.bin .add (.lst (.cons (.cns (.int 0)) .nil)) areT1))
      (.cons (.ret (.blt .all (.cons areT2 .nil)))
      .nil)))
theorem vld_ends {hi : Int} : ∀ {rs : List (Rw Str)} {lo : Int} (v : Vld lo hi rs) {k : Nat} {r : Rw Str} (h : rs[k]? = some r), ∃ e, ((.int lo : D) :: rs.map fun r => D.int r.2.1)[k]? = some (.int e) ∧ e ≤ r.1 ∧ r.1 < r.2.1
  | [], _, _, _, _, h => by cases h
  | x :: xs, lo, v, 0, r, h => by
    injection h with h
    subst h
    exact ⟨lo, rfl, v.1, v.2.1⟩
  | x :: xs, lo, v, k + 1, r, h => by
    obtain ⟨e, h1, h2⟩ := vld_ends v.2.2.2 (k := k) h
    exact ⟨e, h1, h2⟩
variable {Γ : Gm}
theorem are_run (h : Γ.fn "_law_are_rows" = some ⟨1, 4, [], areS⟩) {rs : List (Rw Str)} {hi : Int} (v : Vld 0 hi rs) (hl : rs.length ≤ 1000) (n : Nat) (ro : Bool) (I : Is) : callN Γ (n + 1) "_law_are_rows" ro [.lst (rowsD rs)] I = .ok (.val (.bl true)) I := by
  rw [call_body h]
  have e0 : ∀ s2 s3 s1, ev Γ.cn (callN Γ n) areT0 ro [.val (.lst (rowsD rs)), s1, s2, s3] I = .ok (.lst (rs.map fun _ => .bl true), .new) I := fun s2 s3 s1 => ev_lcM (xs := rs) rowD (fun _ => .bl true) (k := .fro) (by simp [rowsD]) rfl (by omega) fun r hr => ⟨_, rfl, .fro, by simp [wipeF], .inl rfl⟩
  have e1 : ∀ s2 s3 s1, ev Γ.cn (callN Γ n) areT1 ro [.val (.lst (rowsD rs)), s1, s2, s3] I = .ok (.lst (rs.map fun r => .int r.2.1), .new) I := fun s2 s3 s1 => ev_lcM (xs := rs) rowD (fun r => .int r.2.1) (k := .fro) (by simp [rowsD]) rfl (by omega) fun r hr => ⟨_, rfl, .fro, by simp [wipeF], .inl rfl⟩
  have e2 : ∀ s3 s1, ev Γ.cn (callN Γ n) areT2 ro [.val (.lst (rowsD rs)), s1, .val (.lst (.int 0 :: rs.map fun r => .int r.2.1)), s3] I = .ok (.lst ((rs.zipIdx 0).map fun _ => .bl true), .new) I := fun s3 s1 => by
    refine ev_lcM (xs := rs.zipIdx 0) (fun p => .tup [.int p.2, rowD p.1]) (fun _ => .bl true) (k := .fro) (by simp [rowsD, enm_zip]) rfl (by simp; omega) fun p hp => ?_
    obtain ⟨r, k⟩ := p
    have hg : rs[k]? = some r := by simpa using List.mem_zipIdx_iff_getElem?.mp hp
    obtain ⟨e, h1, h2, h3⟩ := vld_ends v hg
    have hs : ∀ kd, subD (.lst (.int 0 :: rs.map fun r => .int r.2.1)) (.int (k : Int)) kd I = .ok (.int e, .fro) I := fun kd => sub_nat h1
    exact ⟨_, rfl, .fro, by simp [wipeF, hs, h2, h3], .inl rfl⟩
  have b : ∀ {α : Type} (xs : List α), blsD (xs.map fun _ => .bl true) = some (xs.map fun _ => true) := fun xs => blsD_map (fun _ => true) xs
  have c : ∀ {α : Type} (xs : List α), (xs.map fun _ => true).all id = true := fun xs => by simp
  have l : 1 + rs.length ≤ lim := le_lim (by omega)
  simp [areS, fillD, e0, e1, e2, biD, b, c, binD, l]
end
end Air
/-! Air: plain laws (7): drawn rows, rows joined. -/
namespace Air
open PySem L2
theorem add_lst' {xs ys : List D} {I : Is} (h : xs.length + ys.length ≤ 1000000) : binD .add (.lst xs) (.lst ys) I = .ok (.lst (xs ++ ys), .new) I := by
  show (bif decide (xs.length + ys.length ≤ lim) then R.ok (D.lst (xs ++ ys), Kd.new) I else .bad) = _
  rw [decide_eq_true (le_lim h)]; rfl
theorem add_rows {a b : List (Rw Str)} {I : Is} (h : a.length + b.length ≤ 1000000) : binD .add (.lst (rowsD a)) (.lst (rowsD b)) I = .ok (.lst (rowsD (a ++ b)), .new) I := by
  rw [add_lst' (by simpa using h), rowsD_app]
theorem lt_lim {n : Nat} (h : n < 1000000) : n < lim := Nat.lt_of_lt_of_le h (le_lim (Nat.le_refl _))
theorem callD_own {cf : Str → Bool → List D → Is → R Sl} {x : Str} {ro : Bool} {I : Is} {ps : List (D × Kd)} {d : D} (e : frzAll ps = none) (e2 : (ps.any fun p => decide (p.2 = .cst) || decide (p.2 = .inst)) = false) (h : cf x true (ps.map (·.1)) I = .ok (.val d) I) (hd : d.still = true) : callD cf x ro ps I = .ok (d, .fro) I := by
  simp only [callD, e, e2, h, cond_false, reset_ok, quiet_ok', bind_ok, hd, cond_true]
theorem app_row (rs : List (Rw Str)) (r : Rw Str) : rowsD rs ++ [rowD r] = rowsD (rs ++ [r]) := by rw [rowsD_app]; rfl
section
variable {Γ : Gm}
/-! #### joined -/
def joinB : Sm := (.cons (.iff (.cmp .eq (.sub (.loc 4) (.cns (.int 0))) (.loc 1)) (.cons (.app 3 (.tup (.cons (.loc 1) (.cons (.loc 2) (.cons (.sub (.loc 4) (.cns (.int 2))) .nil)))))
      .nil) (.cons (.iff (.or (.cmp .lt (.sub (.loc 4) (.cns (.int 0))) (.loc 1)) (.cmp .ge (.sub (.loc 4) (.cns (.int 0))) (.loc 2))) (.cons (.app 3 (.loc 4))
      .nil) (.cons (.iff (.cmp .gt (.sub (.loc 4) (.cns (.int 1))) (.loc 2)) (.cons (.app 3 (.tup (.cons (.loc 2) (.cons (.sub (.loc 4) (.cns (.int 1))) (.cons (.sub (.loc 4) (.cns (.int 2))) .nil)))))
      .nil) .nil)
      .nil))
      .nil))
      .nil)
def joinS : Sm := (.cons (.own 3 (.lst .nil))
      (.cons (.for (.nm 4) (.cons (.loc 0) .nil) joinB)
      (.cons (.retOwn 3)
      .nil)))
theorem Vld.hi_le {α : Type} {lo hi hi' : Int} (h : hi ≤ hi') : ∀ {rs : List (Rw α)}, Vld lo hi rs → Vld lo hi' rs
  | [], _ => trivial
  | r :: rs, v => ⟨v.1, v.2.1, by have := v.2.2.1; omega, Vld.hi_le h v.2.2.2⟩
theorem joinedS_le (b e : Int) (r : Rw Str) : (joinedS b e r).length ≤ 1 := by
  unfold joinedS
  split <;> (try split) <;> (try split) <;> simp
theorem joinedL_cons (b e : Int) (r : Rw Str) (rs : List (Rw Str)) : joinedL b e (r :: rs) = joinedS b e r ++ joinedL b e rs := by simp [joinedL]
theorem joinB_run {cf : Str → Bool → List D → Is → R Sl} {b e : Int} {r : Rw Str} {m : List (Rw Str)} {s0 : Sl} {ro : Bool} {I : Is} (hm : m.length < 100000) : loopB Γ.cn cf joinB ro [s0, .val (.int b), .val (.int e), .lst (rowsD m), .val (rowD r)] I =
    .nx [s0, .val (.int b), .val (.int e), .lst (rowsD (m ++ joinedS b e r)), .val (rowD r)] I := by
  have l : m.length < lim := lt_lim (by omega)
  have a1 : ∀ x y : Int, rowsD m ++ [.tup [.int x, .int y, .str r.2.2]] = rowsD (m ++ [(x, y, r.2.2)]) := fun x y => app_row m (x, y, r.2.2)
  have a2 : rowsD m ++ [rowD r] = rowsD (m ++ [r]) := app_row m r
  rw [loop_def]
  unfold joinedS
  by_cases h1 : r.1 = b
  · simp [joinB, h1, l, a1]
  · by_cases h2 : r.1 < b
    · simp [joinB, h1, h2, l, a2]
    · by_cases h3 : e ≤ r.1
      · simp [joinB, h1, h2, h3, l, a2]
      · by_cases h4 : e < r.2.1
        · simp [joinB, h1, h2, h3, h4, l, a1]
        · simp [joinB, h1, h2, h3, h4, l]
theorem joinF {cf : Str → Bool → List D → Is → R Sl} {b e : Int} {s0 : Sl} {ro : Bool} {I : Is} : ∀ {rs m : List (Rw Str)} {s4 : Sl}, m.length + rs.length < 100000 → ∃ s4', forL (loopB Γ.cn cf joinB ro) (.nm 4) (rowsD rs) [s0, .val (.int b), .val (.int e), .lst (rowsD m), s4] I =
    .nx [s0, .val (.int b), .val (.int e), .lst (rowsD (m ++ joinedL b e rs)), s4'] I
  | [], m, s4, _ => ⟨s4, by simp [joinedL]⟩
  | r :: rs, m, s4, h => by
    rw [List.length_cons] at h
    have h1 := joinedS_le b e r
    obtain ⟨s4', h2⟩ := joinF (cf := cf) (b := b) (e := e) (s0 := s0) (ro := ro) (I := I) (rs := rs) (m := m ++ joinedS b e r) (s4 := .val (rowD r)) (by rw [List.length_append]; omega)
    refine ⟨s4', ?_⟩
    rw [joinedL_cons, ← List.append_assoc, ← h2]
    simp only [rowsD_cons, forL, asgT, List.set_cons_succ, List.set_cons_zero]
    rw [joinB_run (by omega)]
theorem join_run (h : Γ.fn "joined" = some ⟨3, 5, [], joinS⟩) {rs : List (Rw Str)} {b e : Int} (hl : rs.length < 100000) (n : Nat) (ro : Bool) (I : Is) : callN Γ (n + 1) "joined" ro [.lst (rowsD rs), .int b, .int e] I = .ok (.lst (rowsD (joinedL b e rs))) I := by
  rw [call_body h]
  obtain ⟨s4, q⟩ := joinF (Γ := Γ) (cf := callN Γ n) (b := b) (e := e) (s0 := .val (.lst (rowsD rs))) (ro := ro) (I := I) (rs := rs) (m := []) (s4 := .no) (by simpa using hl)
  simp only [rowsD_nil, List.nil_append] at q
  simp [joinS, fillD, q]
/-! #### drawn rows -/
def drawB : Sm := (.cons (.asg 6 (.bin .add (.loc 4) (.sub (.lst (.cons (.cns (.int 0)) (.cons (.cns (.int 0)) (.cons (.cns (.int 0)) (.cons (.cns (.int 1)) (.cons (.cns (.int 2)) .nil)))))) (.call "_law_pick" (.cons (.loc 0) (.cons (.bin .add (.bin .add (.loc 1) (.cns (.int 71))) (.loc 5)) (.cons (.cns (.int 5)) .nil)))))))
      (.cons (.asg 7 (.bin .add (.loc 6) (.sub (.lst (.cons (.cns (.int 1)) (.cons (.cns (.int 2)) (.cons (.cns (.int 3)) (.cons (.cns (.int 4)) (.cons (.cns (.int 6)) .nil)))))) (.call "_law_pick" (.cons (.loc 0) (.cons (.bin .add (.bin .add (.loc 1) (.cns (.int 78))) (.loc 5)) (.cons (.cns (.int 5)) .nil)))))))
      (.cons (.iff (.cmp .le (.loc 7) (.cns (.int 24))) (.cons (.app 3 (.tup (.cons (.loc 6) (.cons (.loc 7) (.cons (.sub (.loc 2) (.call "_law_pick" (.cons (.loc 0) (.cons (.bin .add (.bin .add (.loc 1) (.cns (.int 85))) (.loc 5)) (.cons (.cns (.int 3)) .nil))))) .nil)))))
      (.cons (.asg 4 (.loc 7))
      .nil)) .nil)
      .nil)))
def drawS : Sm := (.cons (.par [(2, false), (3, true), (4, false)] (.cons (.call "_law_names" (.cons (.loc 0) (.cons (.loc 1) (.cons (.cns (.int 3)) .nil)))) (.cons (.lst .nil) (.cons (.cns (.int 0)) .nil))))
      (.cons (.for (.nm 5) (.rng1 (.bin .add (.cns (.int 1)) (.call "_law_pick" (.cons (.loc 0) (.cons (.bin .add (.loc 1) (.cns (.int 70))) (.cons (.cns (.int 6)) .nil)))))) drawB)
      (.cons (.frz 3)
      (.cons (.ret (.tup (.cons (.loc 3) (.cons (.loc 2) .nil))))
      .nil))))
variable (ns : List Int) (at_ : Int)
def gapF (k : Nat) : Int := ([0, 0, 0, 1, 2] : List Int).getD (pickF ns (at_ + 71 + k) 5).toNat 0
def lenF (k : Nat) : Int := ([1, 2, 3, 4, 6] : List Int).getD (pickF ns (at_ + 78 + k) 5).toNat 0
def drawN (k : Nat) : Str := S (nmL ns at_ (pickF ns (at_ + 85 + k) 3))
/-- the rows drawn in k turns, and where the next may begin -/
def drawF : Nat → List (Rw Str) × Int
  | 0 => ([], 0)
  | k + 1 => bif decide ((drawF k).2 + gapF ns at_ k + lenF ns at_ k ≤ 24) then ((drawF k).1 ++ [((drawF k).2 + gapF ns at_ k, (drawF k).2 + gapF ns at_ k + lenF ns at_ k, drawN ns at_ k)], (drawF k).2 + gapF ns at_ k + lenF ns at_ k) else drawF k
/-- how many turns -/
def drawK : Nat := 1 + (pickF ns (at_ + 70) 6).toNat
def drawnL : List (Rw Str) := (drawF ns at_ (drawK ns at_)).1
def namesD : List D := (nmsL ns at_ 3).map fun l => .str (S l)
theorem gapF_in (k : Nat) : 0 ≤ gapF ns at_ k ∧ gapF ns at_ k ≤ 2 := by
  obtain ⟨h1, h2⟩ := pickF_in ns (at_ + 71 + k) (m := 5) (by omega)
  unfold gapF
  generalize pickF ns (at_ + 71 + k) 5 = p at *
  obtain h | h | h | h | h : p = 0 ∨ p = 1 ∨ p = 2 ∨ p = 3 ∨ p = 4 := by omega
  all_goals subst h; decide
theorem lenF_in (k : Nat) : 1 ≤ lenF ns at_ k ∧ lenF ns at_ k ≤ 6 := by
  obtain ⟨h1, h2⟩ := pickF_in ns (at_ + 78 + k) (m := 5) (by omega)
  unfold lenF
  generalize pickF ns (at_ + 78 + k) 5 = p at *
  obtain h | h | h | h | h : p = 0 ∨ p = 1 ∨ p = 2 ∨ p = 3 ∨ p = 4 := by omega
  all_goals subst h; decide
theorem gap_at (k : Nat) {kd : Kd} {I : Is} : subD (.lst [.int 0, .int 0, .int 0, .int 1, .int 2]) (.int (pickF ns (at_ + 71 + k) 5)) kd I = .ok (.int (gapF ns at_ k), .fro) I := by
  obtain ⟨h1, h2⟩ := pickF_in ns (at_ + 71 + k) (m := 5) (by omega)
  unfold gapF
  generalize pickF ns (at_ + 71 + k) 5 = p at *
  obtain h | h | h | h | h : p = 0 ∨ p = 1 ∨ p = 2 ∨ p = 3 ∨ p = 4 := by omega
  all_goals subst h; rfl
theorem len_at (k : Nat) {kd : Kd} {I : Is} : subD (.lst [.int 1, .int 2, .int 3, .int 4, .int 6]) (.int (pickF ns (at_ + 78 + k) 5)) kd I = .ok (.int (lenF ns at_ k), .fro) I := by
  obtain ⟨h1, h2⟩ := pickF_in ns (at_ + 78 + k) (m := 5) (by omega)
  unfold lenF
  generalize pickF ns (at_ + 78 + k) 5 = p at *
  obtain h | h | h | h | h : p = 0 ∨ p = 1 ∨ p = 2 ∨ p = 3 ∨ p = 4 := by omega
  all_goals subst h; rfl
theorem name_at (k : Nat) {kd : Kd} {I : Is} : subD (.lst (namesD ns at_)) (.int (pickF ns (at_ + 85 + k) 3)) kd I = .ok (.str (drawN ns at_ k), .fro) I := by
  obtain ⟨h1, h2⟩ := pickF_in ns (at_ + 85 + k) (m := 3) (by omega)
  unfold drawN
  generalize pickF ns (at_ + 85 + k) 3 = p at *
  obtain h | h | h : p = 0 ∨ p = 1 ∨ p = 2 := by omega
  all_goals subst h; rfl
theorem drawN_in (k : Nat) : D.str (drawN ns at_ k) ∈ namesD ns at_ := by
  obtain ⟨h1, h2⟩ := pickF_in ns (at_ + 85 + k) (m := 3) (by omega)
  unfold drawN
  generalize pickF ns (at_ + 85 + k) 3 = p at *
  obtain h | h | h : p = 0 ∨ p = 1 ∨ p = 2 := by omega
  all_goals subst h; simp [namesD, nmsL, List.range_succ]
theorem drawF_ok : ∀ k, Vld 0 (drawF ns at_ k).2 (drawF ns at_ k).1 ∧ 0 ≤ (drawF ns at_ k).2 ∧ (drawF ns at_ k).2 ≤ 24 ∧ (drawF ns at_ k).1.length ≤ k ∧ (∀ r ∈ (drawF ns at_ k).1, D.str r.2.2 ∈ namesD ns at_)
  | 0 => ⟨trivial, by simp [drawF], by simp [drawF], by simp [drawF], by simp [drawF]⟩
  | k + 1 => by
    obtain ⟨h1, h2, h3, h4, h5⟩ := drawF_ok k
    obtain ⟨g1, g2⟩ := gapF_in ns at_ k
    obtain ⟨l1, l2⟩ := lenF_in ns at_ k
    have nm := drawN_in ns at_ k
    unfold drawF
    cases hc : decide ((drawF ns at_ k).2 + gapF ns at_ k + lenF ns at_ k ≤ 24) with
    | false => exact ⟨h1, h2, h3, by simp only [cond_false]; omega, h5⟩
    | true =>
      have hc := of_decide_eq_true hc
      refine ⟨?_, by simp only [cond_true]; omega, hc, by simp only [cond_true, List.length_append, List.length_cons, List.length_nil]; omega, ?_⟩
      · have hm := h1.mem
        simp only [cond_true]
        refine Vld.snoc (m := (drawF ns at_ k).2) (hi := (drawF ns at_ k).2 + gapF ns at_ k + lenF ns at_ k) ?_ h2 (fun x hx => (hm x hx).2.2) ?_
        · exact Vld.hi_le (by omega) h1
        · exact ⟨by simp only; omega, by simp only; omega, by simp only; omega, trivial⟩
      · intro r hr
        simp only [cond_true, List.mem_append, List.mem_cons, List.not_mem_nil, or_false] at hr
        rcases hr with hr | rfl
        · exact h5 r hr
        · exact nm
end
end Air
/-! Air: plain laws (8): drawn rows are drawn. -/
namespace Air
open PySem L2
section
variable {cn : Str → Option D} {cf : Str → Bool → List D → Is → R Sl} {ns : List Int} {I : Is} {at_ : Int} {ro : Bool}
theorem drawB_run (pk : Pk cf ns I) {k : Nat} {f : Int} {rs : List (Rw Str)} {s6 s7 : Sl} (hm : rs.length < 1000) (h0 : 0 ≤ at_) (h1 : at_ + k + 100 < 1000000) :
    ∃ s6' s7', loopB cn cf drawB ro [.val (.scr ns), .val (.int at_), .val (.lst (namesD ns at_)), .lst (rowsD rs), .val (.int f), .val (.int k), s6, s7] I =
      .nx [.val (.scr ns), .val (.int at_), .val (.lst (namesD ns at_)), .lst (rowsD (bif decide (f + gapF ns at_ k + lenF ns at_ k ≤ 24) then rs ++ [(f + gapF ns at_ k, f + gapF ns at_ k + lenF ns at_ k, drawN ns at_ k)] else rs)),
        .val (.int (bif decide (f + gapF ns at_ k + lenF ns at_ k ≤ 24) then f + gapF ns at_ k + lenF ns at_ k else f)), .val (.int k), s6', s7'] I := by
  have p1 := pk (at_ + 71 + k) 5 (by omega) (by omega) (by omega)
  have p2 := pk (at_ + 78 + k) 5 (by omega) (by omega) (by omega)
  have p3 := pk (at_ + 85 + k) 3 (by omega) (by omega) (by omega)
  have l : rs.length < lim := lt_lim (by omega)
  refine ⟨.val (.int (f + gapF ns at_ k)), .val (.int (f + gapF ns at_ k + lenF ns at_ k)), ?_⟩
  rw [loop_def]
  have a1 : ∀ x y : Int, rowsD rs ++ [.tup [.int x, .int y, .str (drawN ns at_ k)]] = rowsD (rs ++ [(x, y, drawN ns at_ k)]) := fun x y => app_row rs (x, y, drawN ns at_ k)
  by_cases hc : f + gapF ns at_ k + lenF ns at_ k ≤ 24
  · rw [decide_eq_true hc]
    simp [drawB, p1, p2, p3, gap_at, len_at, name_at, hc, l, a1]
  · rw [decide_eq_false hc]
    simp [drawB, p1, p2, p3, gap_at, len_at, name_at, hc, l, a1]
theorem drawF_run (pk : Pk cf ns I) (h0 : 0 ≤ at_) (h1 : at_ + 200 < 1000000) {s5 s6 s7 : Sl} {n : Nat} (hn : n ≤ 6) :
    ∃ s5' s6' s7', forL (loopB cn cf drawB ro) (.nm 5) (rngL 0 n) [.val (.scr ns), .val (.int at_), .val (.lst (namesD ns at_)), .lst [], .val (.int 0), s5, s6, s7] I =
      .nx [.val (.scr ns), .val (.int at_), .val (.lst (namesD ns at_)), .lst (rowsD (drawF ns at_ n).1), .val (.int (drawF ns at_ n).2), s5', s6', s7'] I := by
  obtain ⟨fr', e, s5', s6', s7', he⟩ := forL_ex (body := loopB cn cf drawB ro) (tg := .nm 5) (I := I)
    (fun k fr => ∃ b5 b6 b7, fr = [.val (.scr ns), .val (.int at_), .val (.lst (namesD ns at_)), .lst (rowsD (drawF ns at_ k).1), .val (.int (drawF ns at_ k).2), b5, b6, b7]) (rngL 0 n) 0 _ ⟨s5, s6, s7, rfl⟩ (by
    rintro k x fr hx ⟨b5, b6, b7, rfl⟩
    obtain ⟨rfl, hk⟩ := rngL_get hx
    rw [Int.zero_add] at hk ⊢
    rw [Nat.zero_add]
    obtain ⟨_, _, _, hl, _⟩ := drawF_ok ns at_ k
    obtain ⟨b6', b7', ho⟩ := drawB_run (cn := cn) (ro := ro) pk (k := k) (f := (drawF ns at_ k).2) (rs := (drawF ns at_ k).1) (s6 := b6) (s7 := b7) (by omega) h0 (by omega)
    refine ⟨_, _, rfl, .inl ho, .val (.int k), b6', b7', ?_⟩
    rw [drawF]
    cases hc : decide ((drawF ns at_ k).2 + gapF ns at_ k + lenF ns at_ k ≤ 24) <;> rfl)
  have hlen : (rngL 0 (n : Int)).length = n := by simp [rngL]
  rw [Nat.zero_add, hlen] at he
  exact ⟨s5', s6', s7', he ▸ e⟩
end
variable {Γ : Gm}
theorem drawK_le (ns : List Int) (at_ : Int) : 1 ≤ drawK ns at_ ∧ drawK ns at_ ≤ 6 := by
  obtain ⟨h1, h2⟩ := pickF_in ns (at_ + 70) (m := 6) (by omega)
  unfold drawK
  omega
theorem drawn_run (hp : Γ.fn "_law_pick" = some ⟨3, 7, [], pickS⟩) (hn : Γ.fn "_law_names" = some ⟨3, 9, [], namesS⟩) (hd : Γ.fn "_law_drawn_rows" = some ⟨2, 8, [], drawS⟩) {ns : List Int} {at_ : Int} (hl : ns.length ≤ 63) (h0 : 0 ≤ at_) (h1 : at_ + 200 < 1000000) (n : Nat) (ro : Bool) (I : Is) :
    callN Γ (n + 3) "_law_drawn_rows" ro [.scr ns, .int at_] I = .ok (.val (.tup [.lst (rowsD (drawnL ns at_)), .lst (namesD ns at_)])) I := by
  have pk : Pk (callN Γ (n + 2)) ns I := fun k q k0 k1 q0 ro => callD_of rfl (fun ro => pick_run hp hl k0 k1 q0 (n + 1) ro I) rfl
  have p1 := fun ro => pick_run (k := at_ + 70) (m := 6) hp hl (by omega) (by omega) (by omega) (n + 1) ro I
  obtain ⟨k1, k2⟩ := drawK_le ns at_
  obtain ⟨q0, q1⟩ := pickF_in ns (at_ + 70) (m := 6) (by omega)
  obtain ⟨s5, s6, s7, q⟩ := drawF_run (cn := Γ.cn) (ro := ro) pk h0 h1 (s5 := .no) (s6 := .no) (s7 := .no) k2
  have e1 : 1 + pickF ns (at_ + 70) 6 = (drawK ns at_ : Int) := by unfold drawK; omega
  have hb : big62 (drawK ns at_ : Int) = true := big_of (by omega) (by omega)
  have nm : ∀ ro, callN Γ (n + 2) "_law_names" ro [.scr ns, .int at_, .int 3] I = .ok (.lst (namesD ns at_)) I := fun ro => names_run hp hn (m := 3) hl h0 (by omega) n ro I
  rw [call_body hd]
  cases ro <;> simp [drawS, fillD, callD_frz, nm, p1, e1, hb, q, drawnL]
theorem drawn_vld (ns : List Int) (at_ : Int) : Vld 0 24 (drawnL ns at_) := Vld.hi_le (drawF_ok ns at_ _).2.2.1 (drawF_ok ns at_ _).1
theorem drawn_len (ns : List Int) (at_ : Int) : 1 ≤ (drawnL ns at_).length ∧ (drawnL ns at_).length ≤ 6 := by
  refine ⟨?_, Nat.le_trans (drawF_ok ns at_ _).2.2.2.1 (drawK_le ns at_).2⟩
  have up : ∀ k, (drawF ns at_ k).1.length ≤ (drawF ns at_ (k + 1)).1.length := fun k => by
    rw [drawF]
    cases decide ((drawF ns at_ k).2 + gapF ns at_ k + lenF ns at_ k ≤ 24) <;> simp
  have h1 : (drawF ns at_ 1).1.length = 1 := by
    have g := gapF_in ns at_ 0
    have l := lenF_in ns at_ 0
    rw [drawF, decide_eq_true (show (drawF ns at_ 0).2 + gapF ns at_ 0 + lenF ns at_ 0 ≤ 24 by simp only [drawF]; omega)]
    rfl
  have : ∀ k, 1 ≤ k → 1 ≤ (drawF ns at_ k).1.length := fun k hk => by
    induction k with
    | zero => omega
    | succ k ih =>
      cases k with
      | zero => exact Nat.le_of_eq h1.symm
      | succ k => exact Nat.le_trans (ih (by omega)) (up (k + 1))
  exact this _ (drawK_le ns at_).1
theorem drawn_names (ns : List Int) (at_ : Int) : ∀ r ∈ drawnL ns at_, D.str r.2.2 ∈ namesD ns at_ := (drawF_ok ns at_ _).2.2.2.2
end Air
/-! Air: plain laws (9): rows pushed. -/
namespace Air
open PySem L2
/-! #### cuts -/
theorem cut_to {xs : List D} {k : Nat} {kd : Kd} {I : Is} : slcD (.lst xs) kd none (some (k : Int)) I = .ok (.lst (xs.take k), .new) I := by
  show R.ok (D.lst (cutD xs none (some (k : Int))), Kd.new) I = _
  unfold cutD
  rw [HT.sIx_nat, HT.sIx_none, Nat.sub_zero, List.drop_zero, List.take_eq_take_iff.mpr (show min (min k xs.length) xs.length = min k xs.length by omega)]
theorem cut_from {xs : List D} {k : Nat} {kd : Kd} {I : Is} : slcD (.lst xs) kd (some (k : Int)) none I = .ok (.lst (xs.drop k), .new) I := by
  show R.ok (D.lst (cutD xs (some (k : Int)) none), Kd.new) I = _
  unfold cutD
  rw [HT.sIx_nat, HT.sIx_none]
  by_cases h : k ≤ xs.length
  · rw [Nat.min_eq_left h, List.take_of_length_le (by rw [List.length_drop]; omega)]
  · rw [Nat.min_eq_right (by omega), Nat.sub_self, List.take_zero, List.drop_eq_nil_of_le (by omega)]
theorem cut_one {xs : List D} {k : Nat} {kd : Kd} {I : Is} : slcD (.lst xs) kd (some (k : Int)) (some ((k : Int) + 1)) I = .ok (.lst ((xs.drop k).take 1), .new) I := by
  show R.ok (D.lst (cutD xs (some (k : Int)) (some ((k : Int) + 1))), Kd.new) I = _
  unfold cutD
  rw [show ((k : Int) + 1) = ((k + 1 : Nat) : Int) by omega, HT.sIx_nat, HT.sIx_nat]
  by_cases h : k < xs.length
  · rw [Nat.min_eq_left (by omega), Nat.min_eq_left (by omega), show k + 1 - k = 1 by omega]
  · rw [Nat.min_eq_right (show xs.length ≤ k by omega), Nat.min_eq_right (by omega), Nat.sub_self, List.take_zero, List.drop_eq_nil_of_le (show xs.length ≤ k by omega), List.take_nil]
theorem joinedL_le (b e : Int) : ∀ rs : List (Rw Str), (joinedL b e rs).length ≤ rs.length
  | [] => by simp [joinedL]
  | r :: rs => by
    have h1 := joinedS_le b e r
    have h2 := joinedL_le b e rs
    rw [joinedL_cons, List.length_append, List.length_cons]
    omega
theorem cut_last {xs : List D} {x : D} {kd : Kd} {I : Is} : slcD (.lst (xs ++ [x])) kd none (some (-1)) I = .ok (.lst xs, .new) I := by
  show R.ok (D.lst (cutD (xs ++ [x]) none (some (-1))), Kd.new) I = _
  unfold cutD
  rw [HT.sIx_none]
  have : HT.sIx (xs ++ [x]).length (xs ++ [x]).length (some (-1)) = xs.length := by
    unfold HT.sIx
    simp
    omega
  rw [this]; simp
theorem rows_take (rs : List (Rw Str)) (k : Nat) : (rowsD rs).take k = rowsD (rs.take k) := by simp [rowsD]
theorem rows_drop (rs : List (Rw Str)) (k : Nat) : (rowsD rs).drop k = rowsD (rs.drop k) := by simp [rowsD]
/-! #### names in a list of names -/
def strsL (F : List Str) : List D := F.map D.str
def fxF (F : List Str) (z : Str) : Bool := decide (z ∈ F)
section
variable {I : Is} {cn : Str → Option D} {cf : Str → Bool → List D → Is → R Sl}
theorem inD_strs (z : Str) : ∀ F : List Str, inD (.str z) (strsL F) = fxF F z
  | [] => rfl
  | y :: F => by
    have h : D.pyeq (.str y) (.str z) = decide (z = y) := pyeq_cl rfl rfl (by simp [eq_comm])
    have ih := inD_strs z F
    unfold inD strsL fxF at *
    rw [List.map_cons, List.any_cons, ih, h]
    by_cases h1 : z = y <;> by_cases h2 : z ∈ F <;> simp [h1, h2]
theorem flats_strs : ∀ F : List Str, D.flats (strsL F) = true
  | [] => rfl
  | y :: F => by
    have ih := flats_strs F
    unfold D.flats strsL at *
    rw [List.map_cons, List.all_cons, ih]; rfl
@[simp] theorem inn_strs (z : Str) (F : List Str) : cmpD .inn (.str z) (.lst (strsL F)) I = .ok (.bl (fxF F z), .fro) I := by
  have : inDD (.str z) (.lst (strsL F)) = some (fxF F z) := by
    show (bif D.isFlat (.str z) && D.flats (strsL F) then some (inD (.str z) (strsL F)) else _) = _
    rw [flats_strs, inD_strs]; rfl
  simp only [cmpD, this]
  rfl
theorem ints_map : ∀ M : List Int, intsD (M.map D.int) = some M
  | [] => rfl
  | m :: M => by simp [intsD, ints_map M]
theorem minL_head : ∀ {M : List Int} {m : Int}, (∀ x ∈ M, m ≤ x) → minL (m :: M) = m
  | [], m, _ => rfl
  | x :: M, m, h => by
    have h1 := h x List.mem_cons_self
    have : m ≤ minL (x :: M) := by
      have g : ∀ (M : List Int) (x : Int), m ≤ x → (∀ y ∈ M, m ≤ y) → m ≤ minL (x :: M) := by
        intro M
        induction M with
        | nil => intro x hx _; exact hx
        | cons y M ih =>
          intro x hx hM
          have := ih y (hM y List.mem_cons_self) fun z hz => hM z (List.mem_cons_of_mem _ hz)
          show m ≤ min x (minL (y :: M))
          omega
      exact g M x h1 fun y hy => h y (List.mem_cons_of_mem _ hy)
    show min m (minL (x :: M)) = m
    omega
def minO (last : Int) : List Int → Int
  | [] => last
  | m :: M => minL (m :: M)
/-- the first fixed one, of rows in order -/
theorem nf_filter {fx : Str → Bool} {last hi : Int} : ∀ {rs : List (Rw Str)} {lo : Int}, Vld lo hi rs → minO last ((rs.filter fun r => fx r.2.2).map fun r => r.1) = nfL fx last rs
  | [], _, _ => rfl
  | r :: rs, lo, v => by
    have ih := nf_filter (last := last) (fx := fx) v.2.2.2
    unfold nfL
    cases h : fx r.2.2 with
    | true =>
      rw [List.filter_cons, if_pos h, if_pos rfl, List.map_cons]
      exact minL_head fun x hx => by
        simp only [List.mem_map, List.mem_filter] at hx
        obtain ⟨y, ⟨h1, _⟩, rfl⟩ := hx
        have := (v.2.2.2.mem y h1).1
        have := v.2.1
        omega
    | false =>
      rw [List.filter_cons, if_neg (by simp [h]), if_neg (by simp)]
      exact ih
end
/-! #### next_fixed -/
def nfT : Tm := (.lc [("row", 4)] (.sub (.loc 4) (.cns (.int 0))) (.nm 4) (.cons (.loc 0) .nil) (.cons (.and (.cmp .ge (.sub (.loc 4) (.cns (.int 0))) (.loc 1)) (.cmp .inn (.sub (.loc 4) (.cns (.int 2))) (.loc 3))) .nil))
def nfS : Sm := (.cons (.ret (.blt .minD (.cons nfT (.cons (.loc 2) .nil))))
      .nil)
section
variable {Γ : Gm}
theorem nf_run (h : Γ.fn "next_fixed" = some ⟨4, 5, [], nfS⟩) {rs : List (Rw Str)} {x last : Int} {F : List Str} (hl : rs.length ≤ 1000) (n : Nat) (ro : Bool) (I : Is) : callN Γ (n + 1) "next_fixed" ro [.lst (rowsD rs), .int x, .int last, .lst (strsL F)] I = .ok (.val (.int (minO last ((rs.filter fun r => decide (x ≤ r.1) && fxF F r.2.2).map fun r => r.1)))) I := by
  rw [call_body h]
  have e0 : ∀ s, ev Γ.cn (callN Γ n) nfT ro [.val (.lst (rowsD rs)), .val (.int x), .val (.int last), .val (.lst (strsL F)), s] I = .ok (.lst (((rs.filter fun r => decide (x ≤ r.1) && fxF F r.2.2).map fun r => r.1).map D.int), .new) I := fun s => by
    rw [List.map_map]
    exact ev_lcF (xs := rs) rowD (fun r => decide (x ≤ r.1) && fxF F r.2.2) (fun r => D.int r.1) (k := .fro) (by simp [rowsD]) rfl (by omega) fun r hr => ⟨_, rfl, by simp [wipeF], fun _ => ⟨.fro, by simp [wipeF], .inl rfl⟩⟩
  have hm : ∀ M : List Int, biD .minD [(.lst (M.map D.int), .new), (.int last, .fro)] I = .ok (.int (minO last M), .fro) I := fun M => by
    simp only [biD, ints_map]
    cases M <;> rfl
  simp [nfS, fillD, e0, hm, -List.map_map]
theorem vld_filter {lo hi : Int} {fx : Str → Bool} {pre post : List (Rw Str)} {r : Rw Str} (v : Vld lo hi (pre ++ r :: post)) : ((pre ++ r :: post).filter fun s => decide (r.1 ≤ s.1) && fx s.2.2) = (r :: post).filter fun s => fx s.2.2 := by
  obtain ⟨v1, v2, v3⟩ := Vld.app v
  rw [List.filter_append]
  have a : (pre.filter fun s => decide (r.1 ≤ s.1) && fx s.2.2) = [] := by
    rw [List.filter_eq_nil_iff]
    intro s hs
    have h1 := v3 s hs r List.mem_cons_self
    have h2 := (v1.mem s hs).2.1
    simp
    omega
  have b : ((r :: post).filter fun s => decide (r.1 ≤ s.1) && fx s.2.2) = (r :: post).filter fun s => fx s.2.2 := by
    apply List.filter_congr
    intro s hs
    have : r.1 ≤ s.1 := by
      rcases List.mem_cons.mp hs with rfl | hs
      · exact Int.le_refl _
      · have := (v2.2.2.2.mem s hs).1
        have := v2.2.1
        omega
    rw [decide_eq_true this, Bool.true_and]
  rw [a, b, List.nil_append]
/-! #### pushed -/
def pushB : Sm := (.cons (.iff (.cmp .eq (.sub (.loc 7) (.cns (.int 0))) (.loc 1)) (.cons (.app 5 (.tup (.cons (.loc 1) (.cons (.loc 2) (.cons (.sub (.loc 7) (.cns (.int 2))) .nil)))))
      (.cons (.asg 6 (.loc 2))
      .nil)) (.cons (.iff (.cmp .ge (.sub (.loc 7) (.cns (.int 0))) (.loc 6)) (.cons (.app 5 (.loc 7))
      (.cons (.asg 6 (.sub (.loc 7) (.cns (.int 1))))
      .nil)) (.cons (.asg 8 (.blt .min2 (.cons (.bin .sub (.bin .add (.loc 6) (.sub (.loc 7) (.cns (.int 1)))) (.sub (.loc 7) (.cns (.int 0)))) (.cons (.call "next_fixed" (.cons (.loc 0) (.cons (.sub (.loc 7) (.cns (.int 0))) (.cons (.loc 3) (.cons (.loc 4) .nil))))) .nil))))
      (.cons (.iff (.cmp .gt (.loc 8) (.loc 6)) (.cons (.app 5 (.tup (.cons (.loc 6) (.cons (.loc 8) (.cons (.sub (.loc 7) (.cns (.int 2))) .nil)))))
      (.cons (.asg 6 (.loc 8))
      .nil)) .nil)
      .nil)))
      .nil))
      .nil)
def pushS : Sm := (.cons (.par [(5, true), (6, false)] (.cons (.lst .nil) (.cons (.cns (.int 0)) .nil)))
      (.cons (.for (.nm 7) (.cons (.loc 0) .nil) pushB)
      (.cons (.retOwn 5)
      .nil)))
def pushFr (rs : List (Rw Str)) (b e last : Int) (F : List Str) (m : List (Rw Str)) (a : Int) (s7 s8 : Sl) : Fr := [.val (.lst (rowsD rs)), .val (.int b), .val (.int e), .val (.int last), .val (.lst (strsL F)), .lst (rowsD m), .val (.int a), s7, s8]
section
variable {cn : Str → Option D} {cf : Str → Bool → List D → Is → R Sl} {rs : List (Rw Str)} {b e last : Int} {F : List Str} {ro : Bool} {I : Is}
/-- what next_fixed tells of a row -/
def NfOk (cf : Str → Bool → List D → Is → R Sl) (I : Is) (rs : List (Rw Str)) (last : Int) (F : List Str) (r : Rw Str) (v : Int) : Prop := ∀ ro, cf "next_fixed" ro [.lst (rowsD rs), .int r.1, .int last, .lst (strsL F)] I = .ok (.val (.int v)) I
theorem push_here {m : List (Rw Str)} {a : Int} {s8 : Sl} {r : Rw Str} (hm : m.length < 100000) (h1 : r.1 = b) : loopB cn cf pushB ro (pushFr rs b e last F m a (.val (rowD r)) s8) I =
    .nx (pushFr rs b e last F (m ++ [(b, e, r.2.2)]) e (.val (rowD r)) s8) I := by
  have l : m.length < lim := lt_lim (by omega)
  have a1 : ∀ x y : Int, rowsD m ++ [.tup [.int x, .int y, .str r.2.2]] = rowsD (m ++ [(x, y, r.2.2)]) := fun x y => app_row m (x, y, r.2.2)
  rw [loop_def]
  simp [pushB, pushFr, h1, l, a1]
theorem push_stay {m : List (Rw Str)} {a : Int} {s8 : Sl} {r : Rw Str} (hm : m.length < 100000) (h1 : r.1 ≠ b) (h2 : a ≤ r.1) : loopB cn cf pushB ro (pushFr rs b e last F m a (.val (rowD r)) s8) I =
    .nx (pushFr rs b e last F (m ++ [r]) r.2.1 (.val (rowD r)) s8) I := by
  have l : m.length < lim := lt_lim (by omega)
  have a2 : rowsD m ++ [rowD r] = rowsD (m ++ [r]) := app_row m r
  rw [loop_def]
  simp [pushB, pushFr, h1, h2, l, a2]
theorem push_move {m : List (Rw Str)} {a v : Int} {s8 : Sl} {r : Rw Str} (hm : m.length < 100000) (h1 : r.1 ≠ b) (h2 : r.1 < a) (hv : NfOk cf I rs last F r v) : ∃ s8', loopB cn cf pushB ro (pushFr rs b e last F m a (.val (rowD r)) s8) I =
    .nx (pushFr rs b e last F (bif decide (a < min (a + r.2.1 - r.1) v) then m ++ [(a, min (a + r.2.1 - r.1) v, r.2.2)] else m) (bif decide (a < min (a + r.2.1 - r.1) v) then min (a + r.2.1 - r.1) v else a) (.val (rowD r)) s8') I := by
  have l : m.length < lim := lt_lim (by omega)
  have a1 : ∀ x y : Int, rowsD m ++ [.tup [.int x, .int y, .str r.2.2]] = rowsD (m ++ [(x, y, r.2.2)]) := fun x y => app_row m (x, y, r.2.2)
  have q := fun ro => hv ro
  refine ⟨.val (.int (min (a + r.2.1 - r.1) v)), ?_⟩
  rw [loop_def]
  have h3 : ¬ a ≤ r.1 := by omega
  have mn : ∀ x y : Int, biD .min2 [(.int x, .fro), (.int y, .fro)] I = .ok (.int (min x y), .fro) I := fun _ _ => rfl
  generalize hst : min (a + r.2.1 - r.1) v = st
  by_cases h4 : a < st
  · cases ro <;> simp [pushB, pushFr, h1, h3, h4, l, a1, callD_frz, q, mn, hst]
  · cases ro <;> simp [pushB, pushFr, h1, h3, h4, l, a1, callD_frz, q, mn, hst]
theorem push_post (hi : Int) : ∀ {post m : List (Rw Str)} {lo a : Int} {s7 s8 : Sl}, m.length + post.length < 100000 → Vld lo hi post → b < lo → (∀ p1 r p2, post = p1 ++ r :: p2 → NfOk cf I rs last F r (nfL (fxF F) last (r :: p2))) →
    ∃ a' s7' s8', forL (loopB cn cf pushB ro) (.nm 7) (rowsD post) (pushFr rs b e last F m a s7 s8) I = .nx (pushFr rs b e last F (m ++ push1 (fxF F) last a post) a' s7' s8') I
  | [], m, lo, a, s7, s8, _, _, _, _ => ⟨a, s7, s8, by simp [push1]⟩
  | r :: post, m, lo, a, s7, s8, hm, v, hb, hn => by
    rw [List.length_cons] at hm
    have v1 := v.1
    have v2 := v.2.1
    have hn' : ∀ p1 s p2, post = p1 ++ s :: p2 → NfOk cf I rs last F s (nfL (fxF F) last (s :: p2)) := fun p1 s p2 h => hn (r :: p1) s p2 (by rw [h]; rfl)
    have as : asgT (.nm 7) (rowD r) (pushFr rs b e last F m a s7 s8) = some (pushFr rs b e last F m a (.val (rowD r)) s8) := rfl
    simp only [rowsD_cons, forL, as]
    by_cases h : a ≤ r.1
    · obtain ⟨a', s7', s8', q⟩ := push_post hi (post := post) (m := m ++ [r]) (a := r.2.1) (s7 := .val (rowD r)) (s8 := s8) (by rw [List.length_append]; simp; omega) v.2.2.2 (by omega) hn'
      refine ⟨a', s7', s8', ?_⟩
      rw [push_stay (by omega) (by omega) h]
      simp only [q, push1, if_pos h, List.append_assoc, List.cons_append, List.nil_append]
    · obtain ⟨t8, st⟩ := push_move (cn := cn) (cf := cf) (e := e) (ro := ro) (m := m) (a := a) (s8 := s8) (b := b) (by omega) (by omega) (by omega) (hn [] r post rfl)
      rw [st]
      rw [push1, if_neg h]
      generalize hs : min (a + r.2.1 - r.1) (nfL (fxF F) last (r :: post)) = w
      by_cases h4 : a < w
      · obtain ⟨a', s7', s8', q⟩ := push_post hi (post := post) (m := m ++ [(a, w, r.2.2)]) (a := w) (s7 := .val (rowD r)) (s8 := t8) (by rw [List.length_append]; simp; omega) v.2.2.2 (by omega) hn'
        refine ⟨a', s7', s8', ?_⟩
        rw [decide_eq_true h4, if_pos h4]
        simp only [cond_true, q, List.append_assoc, List.cons_append, List.nil_append]
      · obtain ⟨a', s7', s8', q⟩ := push_post hi (post := post) (m := m) (a := a) (s7 := .val (rowD r)) (s8 := t8) (by omega) v.2.2.2 (by omega) hn'
        refine ⟨a', s7', s8', ?_⟩
        rw [decide_eq_false h4, if_neg h4]
        simp only [cond_false, q]
theorem push_pre (hi : Int) {old : Int} {nm : Str} {post : List (Rw Str)} (hn : ∀ p1 r p2, post = p1 ++ r :: p2 → NfOk cf I rs last F r (nfL (fxF F) last (r :: p2))) : ∀ {pre m : List (Rw Str)} {a : Int} {s7 s8 : Sl}, m.length + pre.length + post.length + 1 < 100000 → Vld a hi (pre ++ (b, old, nm) :: post) →
    ∃ a' s7' s8', forL (loopB cn cf pushB ro) (.nm 7) (rowsD (pre ++ (b, old, nm) :: post)) (pushFr rs b e last F m a s7 s8) I = .nx (pushFr rs b e last F (m ++ (pre ++ (b, e, nm) :: push1 (fxF F) last e post)) a' s7' s8') I
  | [], m, a, s7, s8, hm, v => by
    have as : asgT (.nm 7) (rowD (b, old, nm)) (pushFr rs b e last F m a s7 s8) = some (pushFr rs b e last F m a (.val (rowD (b, old, nm))) s8) := rfl
    have v2 : b < old := v.2.1
    obtain ⟨a', s7', s8', q⟩ := push_post (cn := cn) (ro := ro) (e := e) hi (post := post) (m := m ++ [(b, e, nm)]) (a := e) (s7 := .val (rowD (b, old, nm))) (s8 := s8) (by rw [List.length_append]; simp at hm ⊢; omega) v.2.2.2 v2 hn
    refine ⟨a', s7', s8', ?_⟩
    simp only [List.nil_append, rowsD_cons, forL, as]
    rw [push_here (b := b) (r := (b, old, nm)) (by omega) rfl]
    simp only [q, List.append_assoc, List.cons_append, List.nil_append]
  | r :: pre, m, a, s7, s8, hm, v => by
    rw [List.length_cons] at hm
    have as : asgT (.nm 7) (rowD r) (pushFr rs b e last F m a s7 s8) = some (pushFr rs b e last F m a (.val (rowD r)) s8) := rfl
    have v1 : a ≤ r.1 := v.1
    have v2 : r.1 < r.2.1 := v.2.1
    have v4 : Vld r.2.1 hi (pre ++ (b, old, nm) :: post) := v.2.2.2
    have v5 : r.2.1 ≤ b := (v4.mem (b, old, nm) (by simp)).1
    obtain ⟨a', s7', s8', q⟩ := push_pre hi hn (pre := pre) (m := m ++ [r]) (a := r.2.1) (s7 := .val (rowD r)) (s8 := s8) (by rw [List.length_append]; simp at hm ⊢; omega) v4
    refine ⟨a', s7', s8', ?_⟩
    simp only [List.cons_append, rowsD_cons, forL, as]
    rw [push_stay (by omega) (by omega) v1]
    simp only [q, List.append_assoc, List.cons_append, List.nil_append]
end
theorem push_run (hp : Γ.fn "pushed" = some ⟨5, 9, [], pushS⟩) (hn : Γ.fn "next_fixed" = some ⟨4, 5, [], nfS⟩) {pre post : List (Rw Str)} {b old e last hi : Int} {nm : Str} {F : List Str} (v : Vld 0 hi (pre ++ (b, old, nm) :: post)) (hl : (pre ++ (b, old, nm) :: post).length ≤ 1000) (n : Nat) (ro : Bool) (I : Is) :
    callN Γ (n + 2) "pushed" ro [.lst (rowsD (pre ++ (b, old, nm) :: post)), .int b, .int e, .int last, .lst (strsL F)] I = .ok (.lst (rowsD (pre ++ (b, e, nm) :: push1 (fxF F) last e post))) I := by
  rw [call_body hp]
  have nf : ∀ p1 r p2, post = p1 ++ r :: p2 → NfOk (callN Γ (n + 1)) I (pre ++ (b, old, nm) :: post) last F r (nfL (fxF F) last (r :: p2)) := fun p1 r p2 h ro => by
    have e1 : pre ++ (b, old, nm) :: post = (pre ++ (b, old, nm) :: p1) ++ r :: p2 := by rw [h]; simp
    rw [nf_run hn hl]
    rw [e1, vld_filter (e1 ▸ v), nf_filter (Vld.app (e1 ▸ v)).2.1]
  obtain ⟨a', s7', s8', q⟩ := push_pre (cn := Γ.cn) (e := e) (ro := ro) hi nf (pre := pre) (m := []) (a := 0) (s7 := .no) (s8 := .no) (by simp at hl ⊢; omega) v
  simp only [pushFr, rowsD_nil, List.nil_append] at q
  generalize pre ++ (b, old, nm) :: post = rs at q ⊢
  simp [pushS, fillD, q]
end
end Air
/-! Air: plain laws (10): a drawn case of pushed. -/
namespace Air
open PySem L2
def caseT0 : Tm := (.lc [("_law_row", 6)] (.sub (.loc 6) (.cns (.int 1))) (.nm 6) (.cons (.loc 2) .nil) .nil)
def caseT1 : Tm := (.lc [("_law_row", 6)] (.sub (.loc 6) (.cns (.int 0))) (.nm 6) (.cons (.loc 2) .nil) (.cons (.and (.cmp .gt (.sub (.loc 6) (.cns (.int 0))) (.loc 8)) (.cmp .inn (.sub (.loc 6) (.cns (.int 2))) (.loc 4))) .nil))
def caseS : Sm := (.cons (.unp [2, 3] (.call "_law_drawn_rows" (.cons (.loc 0) (.cons (.loc 1) .nil))))
      (.cons (.asg 4 (.slc (.loc 3) .nil (.cons (.sub (.lst (.cons (.cns (.int 0)) (.cons (.cns (.int 1)) (.cons (.cns (.int 1)) (.cons (.cns (.int 2)) .nil))))) (.call "_law_pick" (.cons (.loc 0) (.cons (.bin .add (.loc 1) (.cns (.int 100))) (.cons (.cns (.int 4)) .nil))))) .nil)))
      (.cons (.asg 5 (.blt .max1 (.cons (.bin .add caseT0 (.lst (.cons (.sub (.lst (.cons (.cns (.int 0)) (.cons (.cns (.int 12)) (.cons (.cns (.int 20)) (.cons (.cns (.int 24)) .nil))))) (.call "_law_pick" (.cons (.loc 0) (.cons (.bin .add (.loc 1) (.cns (.int 101))) (.cons (.cns (.int 4)) .nil))))) .nil))) .nil)))
      (.cons (.asg 7 (.bin .mul (.call "_law_pick" (.cons (.loc 0) (.cons (.bin .add (.loc 1) (.cns (.int 102))) (.cons (.blt .len (.cons (.loc 2) .nil)) .nil)))) (.blt .int (.cons (.cmp .eq (.call "_law_pick" (.cons (.loc 0) (.cons (.bin .add (.loc 1) (.cns (.int 103))) (.cons (.cns (.int 3)) .nil)))) (.cns (.int 0))) .nil))))
      (.cons (.unp [8, 9] (.slc (.sub (.loc 2) (.loc 7)) .nil (.cons (.cns (.int 2)) .nil)))
      (.cons (.asg 10 (.blt .min1 (.cons (.bin .add caseT1 (.lst (.cons (.loc 5) .nil))) .nil)))
      (.cons (.asg 11 (.bin .add (.loc 9) (.sub (.lst (.cons (.bin .sub (.loc 10) (.loc 9)) (.cons (.cns (.int 0)) (.cons (.cns (.int 1)) (.cons (.cns (.int 2)) (.cons (.call "_law_pick" (.cons (.loc 0) (.cons (.bin .add (.loc 1) (.cns (.int 104))) (.cons (.bin .add (.bin .sub (.loc 10) (.loc 9)) (.cns (.int 1))) .nil)))) .nil)))))) (.call "_law_pick" (.cons (.loc 0) (.cons (.bin .add (.loc 1) (.cns (.int 105))) (.cons (.cns (.int 5)) .nil)))))))
      (.cons (.ret (.tup (.cons (.loc 2) (.cons (.loc 8) (.cons (.blt .min2 (.cons (.loc 11) (.cons (.loc 10) .nil))) (.cons (.loc 5) (.cons (.loc 4) .nil)))))))
      .nil))))))))
def namesL (ns : List Int) (at_ : Int) : List Str := (nmsL ns at_ 3).map S
theorem namesD_L (ns : List Int) (at_ : Int) : namesD ns at_ = strsL (namesL ns at_) := by simp [namesD, strsL, namesL]
theorem max_all {M : List Int} {hi : Int} (h : M ≠ []) : (∀ x ∈ M, x ≤ maxL M) ∧ ((∀ x ∈ M, x ≤ hi) → maxL M ≤ hi) := by
  induction M with
  | nil => exact absurd rfl h
  | cons m M ih =>
    cases M with
    | nil => exact ⟨fun x hx => by rw [List.mem_singleton.mp hx]; exact Int.le_refl _, fun h => h m List.mem_cons_self⟩
    | cons y M =>
      obtain ⟨h1, h2⟩ := ih (by simp)
      have e : maxL (m :: y :: M) = max m (maxL (y :: M)) := rfl
      rw [e]
      refine ⟨fun x hx => ?_, fun h => ?_⟩
      · rcases List.mem_cons.mp hx with rfl | hx
        · omega
        · have := h1 x hx; omega
      · have := h2 fun x hx => h x (List.mem_cons_of_mem _ hx)
        have := h m List.mem_cons_self
        omega
theorem vld_last {lo hi last : Int} : ∀ {rs : List (Rw Str)}, Vld lo hi rs → (∀ r ∈ rs, r.2.1 ≤ last) → ∀ {lo}, Vld lo hi rs → Vld lo last rs
  | [], _, _, _, _ => trivial
  | r :: rs, _, h, _, v => ⟨v.1, v.2.1, h r List.mem_cons_self, vld_last v.2.2.2 (fun x hx => h x (List.mem_cons_of_mem _ hx)) v.2.2.2⟩
theorem minL_snoc {last : Int} : ∀ {M : List Int}, (∀ x ∈ M, x ≤ last) → minL (M ++ [last]) = minO last M
  | [], _ => rfl
  | [m], h => by
    show min m last = m
    have := h m List.mem_cons_self
    omega
  | m :: x :: M, h => by
    have := minL_snoc (M := x :: M) fun y hy => h y (List.mem_cons_of_mem _ hy)
    show min m (minL (x :: M ++ [last])) = min m (minL (x :: M))
    rw [this]; rfl
variable {Γ : Gm}
/-- a drawn case -/
structure CaseOk (rs : List (Rw Str)) (pre : List (Rw Str)) (b old : Int) (nm : Str) (post : List (Rw Str)) (e last : Int) (F : List Str) : Prop where
  eq : rs = pre ++ (b, old, nm) :: post
  vld : Vld 0 last rs
  l24 : last ≤ 24
  len : rs.length ≤ 6
  lo : old ≤ e
  hi : e ≤ nfL (fxF F) last post
  sub : ∃ k, F = (F.take k) ∧ F.length ≤ 2
theorem case_run (hp : Γ.fn "_law_pick" = some ⟨3, 7, [], pickS⟩) (hn : Γ.fn "_law_names" = some ⟨3, 9, [], namesS⟩) (hd : Γ.fn "_law_drawn_rows" = some ⟨2, 8, [], drawS⟩) (hc : Γ.fn "_law_push_case" = some ⟨2, 12, [], caseS⟩) {ns : List Int} {at_ : Int} (hl : ns.length ≤ 63) (h0 : 0 ≤ at_) (h1 : at_ + 300 < 1000000) :
    ∃ rs pre b old nm post e last F, CaseOk rs pre b old nm post e last F ∧ ∀ (n : Nat) (ro : Bool) (I : Is), callN Γ (n + 4) "_law_push_case" ro [.scr ns, .int at_] I = .ok (.val (.tup [.lst (rowsD rs), .int b, .int e, .int last, .lst (strsL F)])) I := by
  have v := drawn_vld ns at_
  obtain ⟨l1, l6⟩ := drawn_len ns at_
  have dr := fun n ro I => drawn_run hp hn hd (at_ := at_) hl h0 (by omega) n ro I
  generalize drawnL ns at_ = rs at *
  rw [namesD_L] at dr
  have lnm : (namesL ns at_).length = 3 := by simp [namesL, nmsL]
  generalize namesL ns at_ = nms at *
  have pk := fun k m (h1 : (0 : Int) ≤ k) (h2 : k < 1000000) (h3 : (0 : Int) < m) n ro I => pick_run hp hl h1 h2 h3 n ro I
  have p100 := pk (at_ + 100) 4 (by omega) (by omega) (by omega)
  have p101 := pk (at_ + 101) 4 (by omega) (by omega) (by omega)
  have p102 := pk (at_ + 102) rs.length (by omega) (by omega) (by omega)
  have p103 := pk (at_ + 103) 3 (by omega) (by omega) (by omega)
  have p104 := fun m h => pk (at_ + 104) m (by omega) (by omega) h
  have p105 := pk (at_ + 105) 5 (by omega) (by omega) (by omega)
  obtain ⟨a0, a1⟩ := pickF_in ns (at_ + 100) (m := 4) (by omega)
  obtain ⟨b0, b1⟩ := pickF_in ns (at_ + 101) (m := 4) (by omega)
  obtain ⟨c0, c1⟩ := pickF_in ns (at_ + 102) (m := rs.length) (by omega)
  have d104 := fun m h => pickF_in ns (at_ + 104) (m := m) h
  obtain ⟨e0, e1⟩ := pickF_in ns (at_ + 105) (m := 5) (by omega)
  generalize pickF ns (at_ + 100) 4 = x100 at *
  generalize pickF ns (at_ + 101) 4 = x101 at *
  generalize pickF ns (at_ + 102) rs.length = x102 at *
  generalize pickF ns (at_ + 103) 3 = x103 at *
  generalize pickF ns (at_ + 105) 5 = x105 at *
  -- fixed
  obtain ⟨k, hk, sk⟩ : ∃ k : Nat, k ≤ 2 ∧ ∀ kd I, subD (.lst [.int 0, .int 1, .int 1, .int 2]) (.int x100) kd I = .ok (.int (k : Int), .fro) I := by
    obtain h | h | h | h : x100 = 0 ∨ x100 = 1 ∨ x100 = 2 ∨ x100 = 3 := by omega
    all_goals subst h
    · exact ⟨0, by omega, fun _ _ => rfl⟩
    · exact ⟨1, by omega, fun _ _ => rfl⟩
    · exact ⟨1, by omega, fun _ _ => rfl⟩
    · exact ⟨2, by omega, fun _ _ => rfl⟩
  have sF : ∀ kd I, slcD (.lst (strsL nms)) kd none (some (k : Int)) I = .ok (.lst (strsL (nms.take k)), .new) I := fun kd I => by rw [cut_to]; simp [strsL]
  have lF : (nms.take k).length ≤ 2 := by rw [List.length_take]; omega
  generalize hF : nms.take k = F at *
  -- the last hour
  obtain ⟨q, hq0, hq, sq⟩ : ∃ q : Int, 0 ≤ q ∧ q ≤ 24 ∧ ∀ kd I, subD (.lst [.int 0, .int 12, .int 20, .int 24]) (.int x101) kd I = .ok (.int q, .fro) I := by
    obtain h | h | h | h : x101 = 0 ∨ x101 = 1 ∨ x101 = 2 ∨ x101 = 3 := by omega
    all_goals subst h
    · exact ⟨0, by omega, by omega, fun _ _ => rfl⟩
    · exact ⟨12, by omega, by omega, fun _ _ => rfl⟩
    · exact ⟨20, by omega, by omega, fun _ _ => rfl⟩
    · exact ⟨24, by omega, by omega, fun _ _ => rfl⟩
  have t0 : ∀ {cf : Str → Bool → List D → Is → R Sl} {ro I} (s0 s1 s3 s4 s5 s6 s7 s8 s9 s10 s11 : Sl), ev Γ.cn cf caseT0 ro [s0, s1, .val (.lst (rowsD rs)), s3, s4, s5, s6, s7, s8, s9, s10, s11] I = .ok (.lst ((rs.map fun r => r.2.1).map D.int), .new) I := fun s0 s1 s3 s4 s5 s6 s7 s8 s9 s10 s11 => by
    rw [List.map_map]
    exact ev_lcM (xs := rs) rowD (fun r => D.int r.2.1) (k := .fro) (by simp [rowsD]) rfl (by omega) fun r hr => ⟨_, rfl, .fro, by simp [wipeF], .inl rfl⟩
  have ad0 : ∀ I, binD .add (.lst ((rs.map fun r => r.2.1).map D.int)) (.lst [.int q]) I = .ok (.lst (((rs.map fun r => r.2.1) ++ [q]).map D.int), .new) I := fun I => by
    rw [add_lst' (by simp; omega)]; simp
  have mx := max_all (M := (rs.map fun r => r.2.1) ++ [q]) (hi := 24) (by simp)
  have bm : ∀ I, biD .max1 [(.lst (((rs.map fun r => r.2.1) ++ [q]).map D.int), .new)] I = .ok (.int (maxL ((rs.map fun r => r.2.1) ++ [q])), .fro) I := fun I => by
    have hne : (rs.map fun r => r.2.1) ++ [q] ≠ [] := by simp
    generalize (rs.map fun r => r.2.1) ++ [q] = M at hne ⊢
    simp only [biD, ints_map]
    cases M with
    | nil => exact absurd rfl hne
    | cons m M => rfl
  have h24 : maxL ((rs.map fun r => r.2.1) ++ [q]) ≤ 24 := mx.2 fun x hx => by
    rcases List.mem_append.mp hx with hx | hx
    · obtain ⟨r, hr, rfl⟩ := List.mem_map.mp hx
      exact (v.mem r hr).2.2
    · rw [List.mem_singleton.mp hx]; exact hq
  have hrl : ∀ r ∈ rs, r.2.1 ≤ maxL ((rs.map fun r => r.2.1) ++ [q]) := fun r hr => mx.1 _ (List.mem_append_left _ (List.mem_map.mpr ⟨r, hr, rfl⟩))
  generalize maxL ((rs.map fun r => r.2.1) ++ [q]) = last at *
  have vl : Vld 0 last rs := vld_last v hrl v
  -- the row
  obtain ⟨i, hi, hx⟩ : ∃ i : Nat, i < rs.length ∧ x102 * (bif decide (x103 = 0) then 1 else 0) = (i : Int) := by
    by_cases h : x103 = 0
    · exact ⟨x102.toNat, by omega, by simp [h]; omega⟩
    · exact ⟨0, by omega, by simp [h]⟩
  have hs : rs = rs.take i ++ rs[i] :: rs.drop (i + 1) := by simp
  obtain ⟨⟨b, old, nm⟩, hr⟩ : ∃ r, rs[i]? = some r := ⟨_, List.getElem?_eq_getElem hi⟩
  have hri : rs[i] = (b, old, nm) := by rw [List.getElem?_eq_getElem hi] at hr; injection hr
  rw [hri] at hs
  have sub_i : ∀ kd I, subD (.lst (rowsD rs)) (.int i) kd I = .ok (rowD (b, old, nm), .fro) I := fun kd I => sub_nat (rows_get hr)
  have hmul : ∀ I, binD .mul (.int x102) (.int (bif decide (x103 = 0) then 1 else 0)) I = .ok (.int (i : Int), .fro) I := fun I => by
    have h1 : small (bif decide (x103 = 0) then 1 else 0) = true := by cases decide (x103 = 0) <;> decide
    rw [mulR_int _ h1, hx]
  have s2 : ∀ I, slcD (rowD (b, old, nm)) .fro none (some 2) I = .ok (.tup [.int b, .int old], .fro) I := fun I => rfl
  generalize rs.take i = pre at *
  generalize rs.drop (i + 1) = post at *
  -- the most
  obtain ⟨vp, vq, vr⟩ := Vld.app (hs ▸ vl)
  obtain ⟨w1, w2, w3, w4⟩ := vq
  have w1 : 0 ≤ b := w1
  have w2 : b < old := w2
  have w3 : old ≤ last := w3
  have w4 : Vld old last post := w4
  have t1 : ∀ {cf : Str → Bool → List D → Is → R Sl} {ro I} (s0 s1 s3 s5 s6 s7 s9 s10 s11 : Sl), ev Γ.cn cf caseT1 ro [s0, s1, .val (.lst (rowsD rs)), s3, .val (.lst (strsL F)), s5, s6, s7, .val (.int b), s9, s10, s11] I = .ok (.lst (((post.filter fun r => fxF F r.2.2).map fun r => r.1).map D.int), .new) I := fun s0 s1 s3 s5 s6 s7 s9 s10 s11 => by
    have e : (rs.filter fun r => decide (b < r.1) && fxF F r.2.2) = post.filter fun r => fxF F r.2.2 := by
      rw [hs, List.filter_append, List.filter_cons]
      have a : (pre.filter fun r => decide (b < r.1) && fxF F r.2.2) = [] := by
        rw [List.filter_eq_nil_iff]
        intro r hr
        have h1 := vr r hr _ List.mem_cons_self
        have h2 := (vp.mem r hr).2.1
        simp at h1 ⊢
        omega
      rw [a, if_neg (by simp), List.nil_append]
      apply List.filter_congr
      intro r hr
      have := (w4.mem r hr).1
      rw [decide_eq_true (show b < r.1 by omega), Bool.true_and]
    rw [List.map_map, ← e]
    exact ev_lcF (xs := rs) rowD (fun r => decide (b < r.1) && fxF F r.2.2) (fun r => D.int r.1) (k := .fro) (by simp [rowsD]) rfl (by omega) fun r hr => ⟨_, rfl, by simp [wipeF], fun _ => ⟨.fro, by simp [wipeF], .inl rfl⟩⟩
  have lp : post.length ≤ 6 := by have := congrArg List.length hs; rw [List.length_append, List.length_cons] at this; omega
  have ad1 : ∀ I, binD .add (.lst (((post.filter fun r => fxF F r.2.2).map fun r => r.1).map D.int)) (.lst [.int last]) I = .ok (.lst ((((post.filter fun r => fxF F r.2.2).map fun r => r.1) ++ [last]).map D.int), .new) I := fun I => by
    rw [add_lst' (by rw [List.length_map, List.length_map]; have := List.length_filter_le (fun r : Rw Str => fxF F r.2.2) post; simp; omega)]; simp
  have bmin : ∀ I, biD .min1 [(.lst ((((post.filter fun r => fxF F r.2.2).map fun r => r.1) ++ [last]).map D.int), .new)] I = .ok (.int (nfL (fxF F) last post), .fro) I := fun I => by
    rw [← nf_filter w4, ← minL_snoc (M := (post.filter fun r => fxF F r.2.2).map fun r => r.1) fun x hx => by
      simp only [List.mem_map, List.mem_filter] at hx
      obtain ⟨r, ⟨h1, _⟩, rfl⟩ := hx
      have := w4.mem r h1
      omega]
    have hne : ((post.filter fun r => fxF F r.2.2).map fun r => r.1) ++ [last] ≠ [] := by simp
    generalize ((post.filter fun r => fxF F r.2.2).map fun r => r.1) ++ [last] = M at hne ⊢
    simp only [biD, ints_map]
    cases M with
    | nil => exact absurd rfl hne
    | cons m M => rfl
  have nlo := nf_low (fx := fxF F) w4 w3
  generalize hN : nfL (fxF F) last post = most at *
  have p4 := p104 (most - old + 1) (by omega)
  obtain ⟨f0, f1⟩ := d104 (most - old + 1) (by omega)
  generalize pickF ns (at_ + 104) (most - old + 1) = x104 at *
  obtain ⟨g, hg, sg⟩ : ∃ g : Int, 0 ≤ g ∧ ∀ kd I, subD (.lst [.int (most - old), .int 0, .int 1, .int 2, .int x104]) (.int x105) kd I = .ok (.int g, .fro) I := by
    obtain h | h | h | h | h : x105 = 0 ∨ x105 = 1 ∨ x105 = 2 ∨ x105 = 3 ∨ x105 = 4 := by omega
    all_goals subst h
    · exact ⟨_, by omega, fun _ _ => rfl⟩
    · exact ⟨0, by omega, fun _ _ => rfl⟩
    · exact ⟨1, by omega, fun _ _ => rfl⟩
    · exact ⟨2, by omega, fun _ _ => rfl⟩
    · exact ⟨_, f0, fun _ _ => rfl⟩
  refine ⟨rs, pre, b, old, nm, post, min (old + g) most, last, F, ⟨hs, vl, h24, l6, by omega, by rw [hN]; omega, ⟨2, by rw [List.take_of_length_le lF], lF⟩⟩, fun n ro I => ?_⟩
  rw [call_body hc]
  have r1 := fun ro => p100 (n + 2) ro I
  have r2 := fun ro => p101 (n + 2) ro I
  have r3 := fun ro => p102 (n + 2) ro I
  have r4 := fun ro => p103 (n + 2) ro I
  have r5 := fun ro => p4 (n + 2) ro I
  have r6 := fun ro => p105 (n + 2) ro I
  have dr := fun ro => dr n ro I
  have bi : ∀ b : Bool, biD .int [(.bl b, .fro)] I = .ok (.int (bif b then 1 else 0), .fro) I := fun _ => rfl
  have mn : ∀ x y : Int, biD .min2 [(.int x, .fro), (.int y, .fro)] I = .ok (.int (min x y), .fro) I := fun _ _ => rfl
  cases ro <;> simp [caseS, fillD, asgT, callD_frz, dr, r1, r2, r3, r4, r5, r6, sk, sF, sq, t0, ad0, bm, hmul, sub_i, s2, t1, ad1, bmin, sg, bi, mn, -List.map_map, -List.map_append]
end Air
namespace K05
open PySem PySem.Spec PyProof.Rows L2 Air
/-! ### the defs as terms (printed) -/
def b0_laid : Air.Sm := (.cons (.iff (.or (.cmp .le (.sub (.loc 4) (.cns (.int 1))) (.loc 1)) (.cmp .ge (.sub (.loc 4) (.cns (.int 0))) (.loc 2))) (.cons (.app 3 (.loc 4))
      .nil) (.cons (.iff (.cmp .lt (.sub (.loc 4) (.cns (.int 0))) (.loc 1)) (.cons (.app 3 (.tup (.cons (.sub (.loc 4) (.cns (.int 0))) (.cons (.loc 1) (.cons (.sub (.loc 4) (.cns (.int 2))) .nil)))))
      .nil) .nil)
      .nil))
      .nil)
def m_laid : Sm := (.cons (.own 3 (.lst .nil))
      (.cons (.for (.nm 4) (.cons (.loc 0) .nil) b0_laid)
      (.cons (.retOwn 3)
      .nil)))
def d_laid : Fd := ⟨3, 5, [], m_laid⟩
def m__law_pick : Sm := (.cons (.asg 3 (.ite (.cmp .ne (.loc 0) (.lst .nil)) (.sub (.loc 0) (.bin .md (.loc 1) (.blt .len (.cons (.loc 0) .nil)))) (.cns (.int 0))))
      (.cons (.par [(4, false), (5, false)] (.cons (.bin .fdiv (.loc 3) (.bin .pow (.cns (.int 10)) (.cns (.int 18)))) (.cons (.bin .fdiv (.loc 1) (.blt .max2 (.cons (.blt .len (.cons (.loc 0) .nil)) (.cons (.cns (.int 1)) .nil)))) .nil)))
      (.cons (.whl 1000000 (.and (.cmp .gt (.loc 4) (.cns (.int 0))) (.cmp .gt (.loc 5) (.cns (.int 0)))) (.cons (.par [(4, false), (5, false)] (.cons (.bin .fdiv (.loc 4) (.cns (.int 840))) (.cons (.bin .sub (.loc 5) (.cns (.int 1))) .nil)))
      .nil))
      (.cons (.iff (.cmp .gt (.loc 4) (.cns (.int 0))) (.cons (.ret (.bin .md (.bin .md (.loc 4) (.cns (.int 840))) (.loc 2)))
      .nil) .nil)
      (.cons (.asg 6 (.bin .md (.bin .mul (.bin .add (.bin .mul (.loc 3) (.cns (.int 31))) (.bin .mul (.cns (.int 6151)) (.bin .add (.loc 1) (.cns (.int 1))))) (.cns (.int 40692))) (.cns (.int 2147483399))))
      (.cons (.ret (.bin .md (.bin .md (.bin .add (.bin .mul (.loc 6) (.loc 6)) (.bin .fdiv (.loc 6) (.cns (.int 31)))) (.cns (.int 2147483629))) (.loc 2)))
      .nil))))))
def d__law_pick : Fd := ⟨3, 7, [], m__law_pick⟩
def b0__law_names : Air.Sm := (.cons (.asg 6 (.bin .add (.loc 6) (.sub (.loc 3) (.call "_law_pick" (.cons (.loc 0) (.cons (.bin .add (.bin .add (.bin .add (.loc 1) (.bin .mul (.cns (.int 7)) (.loc 5))) (.loc 7)) (.cns (.int 1))) (.cons (.cns (.int 26)) .nil)))))))
      .nil)
def b1__law_names : Air.Sm := (.cons (.asg 6 (.cns (.str "")))
      (.cons (.for (.nm 7) (.rng1 (.sub (.lst (.cons (.cns (.int 0)) (.cons (.cns (.int 0)) (.cons (.cns (.int 1)) (.cons (.cns (.int 2)) (.cons (.cns (.int 5)) .nil)))))) (.call "_law_pick" (.cons (.loc 0) (.cons (.bin .add (.loc 1) (.bin .mul (.cns (.int 7)) (.loc 5))) (.cons (.cns (.int 5)) .nil)))))) b0__law_names)
      (.cons (.asg 8 (.sub (.loc 3) (.bin .md (.bin .add (.call "_law_pick" (.cons (.loc 0) (.cons (.bin .add (.loc 1) (.cns (.int 60))) (.cons (.cns (.int 26)) .nil)))) (.loc 5)) (.cns (.int 26)))))
      (.cons (.app 4 (.ite (.cmp .eq (.call "_law_pick" (.cons (.loc 0) (.cons (.bin .add (.loc 1) (.cns (.int 61))) (.cons (.cns (.int 2)) .nil)))) (.cns (.int 0))) (.bin .add (.loc 6) (.loc 8)) (.bin .add (.loc 8) (.loc 6))))
      .nil))))
def m__law_names : Sm := (.cons (.par [(3, false), (4, true)] (.cons (.cns (.str "abcdefghijklmnopqrstuvwxyz")) (.cons (.lst .nil) .nil)))
      (.cons (.for (.nm 5) (.rng1 (.loc 2)) b1__law_names)
      (.cons (.retOwn 4)
      .nil)))
def d__law_names : Fd := ⟨3, 9, [], m__law_names⟩
def b0__law_drawn_rows : Air.Sm := (.cons (.asg 6 (.bin .add (.loc 4) (.sub (.lst (.cons (.cns (.int 0)) (.cons (.cns (.int 0)) (.cons (.cns (.int 0)) (.cons (.cns (.int 1)) (.cons (.cns (.int 2)) .nil)))))) (.call "_law_pick" (.cons (.loc 0) (.cons (.bin .add (.bin .add (.loc 1) (.cns (.int 71))) (.loc 5)) (.cons (.cns (.int 5)) .nil)))))))
      (.cons (.asg 7 (.bin .add (.loc 6) (.sub (.lst (.cons (.cns (.int 1)) (.cons (.cns (.int 2)) (.cons (.cns (.int 3)) (.cons (.cns (.int 4)) (.cons (.cns (.int 6)) .nil)))))) (.call "_law_pick" (.cons (.loc 0) (.cons (.bin .add (.bin .add (.loc 1) (.cns (.int 78))) (.loc 5)) (.cons (.cns (.int 5)) .nil)))))))
      (.cons (.iff (.cmp .le (.loc 7) (.cns (.int 24))) (.cons (.app 3 (.tup (.cons (.loc 6) (.cons (.loc 7) (.cons (.sub (.loc 2) (.call "_law_pick" (.cons (.loc 0) (.cons (.bin .add (.bin .add (.loc 1) (.cns (.int 85))) (.loc 5)) (.cons (.cns (.int 3)) .nil))))) .nil)))))
      (.cons (.asg 4 (.loc 7))
      .nil)) .nil)
      .nil)))
def m__law_drawn_rows : Sm := (.cons (.par [(2, false), (3, true), (4, false)] (.cons (.call "_law_names" (.cons (.loc 0) (.cons (.loc 1) (.cons (.cns (.int 3)) .nil)))) (.cons (.lst .nil) (.cons (.cns (.int 0)) .nil))))
      (.cons (.for (.nm 5) (.rng1 (.bin .add (.cns (.int 1)) (.call "_law_pick" (.cons (.loc 0) (.cons (.bin .add (.loc 1) (.cns (.int 70))) (.cons (.cns (.int 6)) .nil)))))) b0__law_drawn_rows)
      (.cons (.frz 3)
      (.cons (.ret (.tup (.cons (.loc 3) (.cons (.loc 2) .nil))))
      .nil))))
def d__law_drawn_rows : Fd := ⟨2, 8, [], m__law_drawn_rows⟩
def t0__law_at : Air.Tm := (.lc [("_law_row", 3)] (.loc 3) (.nm 3) (.cons (.loc 0) .nil) (.cons (.ch2 .le .lt (.sub (.loc 3) (.cns (.int 0))) (.loc 1) (.sub (.loc 3) (.cns (.int 1)))) .nil))
def m__law_at : Sm := (.cons (.asg 2 t0__law_at)
      (.cons (.ret (.ite (.cmp .eq (.blt .len (.cons (.loc 2) .nil)) (.cns (.int 1))) (.sub (.loc 2) (.cns (.int 0))) (.cns .non)))
      .nil))
def d__law_at : Fd := ⟨2, 4, [], m__law_at⟩
def t0_law : Air.Tm := (.lc [("_law_row", 6)] (.sub (.loc 6) (.cns (.int 0))) (.nm 6) (.cons (.loc 1) .nil) .nil)
def t1_law : Air.Tm := (.lc [("_law_row", 6)] (.sub (.loc 6) (.cns (.int 1))) (.nm 6) (.cons (.loc 1) .nil) .nil)
def t2_law : Air.Tm := (.lc [("_law_one", 8)] (.loc 8) (.nm 8) (.cons (.loc 5) .nil) (.cons (.cmp .gt (.loc 8) (.loc 3)) .nil))
def t3_law : Air.Tm := (.lc [("_law_row", 6)] (.bin .sub (.sub (.loc 6) (.cns (.int 1))) (.sub (.loc 6) (.cns (.int 0)))) (.nm 6) (.cons (.loc 1) .nil) .nil)
def t4_law : Air.Tm := (.lc [("_law_row", 6)] (.tup (.cons (.bin .add (.sub (.loc 6) (.cns (.int 0))) (.cns (.int 1))) (.cons (.bin .sub (.sub (.loc 6) (.cns (.int 1))) (.cns (.int 1))) .nil))) (.nm 6) (.cons (.loc 1) .nil) (.cons (.cmp .eq (.bin .sub (.sub (.loc 6) (.cns (.int 1))) (.sub (.loc 6) (.cns (.int 0)))) (.loc 9)) .nil))
def t5_law : Air.Tm := (.or (.not (.isi (.loc 6) ["tuple"])) (.or (.cmp .ne (.blt .len (.cons (.loc 6) .nil)) (.cns (.int 3))) (.not (.cmp .lt (.sub (.loc 6) (.cns (.int 0))) (.sub (.loc 6) (.cns (.int 1)))))))
def t6_law : Air.Tm := (.lc [("_law_row", 6)] (.sub (.loc 6) (.cns (.int 0))) (.nm 6) (.cons (.loc 11) .nil) .nil)
def t7_law : Air.Tm := (.lc [("_law_row", 6)] (.sub (.loc 6) (.cns (.int 0))) (.nm 6) (.cons (.loc 1) .nil) (.cons (.or (.cmp .lt (.sub (.loc 6) (.cns (.int 0))) (.loc 3)) (.cmp .ge (.sub (.loc 6) (.cns (.int 0))) (.loc 4))) .nil))
def b0_law : Air.Sm := (.cons (.asg 13 (.call "_law_at" (.cons (.loc 1) (.cons (.loc 12) .nil))))
      (.cons (.iff (.and (.isn true (.loc 13)) (.ch2 .lt .lt (.sub (.loc 13) (.cns (.int 0))) (.loc 3) (.sub (.loc 13) (.cns (.int 1))))) (.cons (.asg 13 (.tup (.cons (.sub (.loc 13) (.cns (.int 0))) (.cons (.loc 3) (.cons (.sub (.loc 13) (.cns (.int 2))) .nil)))))
      .nil) .nil)
      (.cons (.iff (.and (.isn true (.loc 13)) (.and (.cmp .ge (.loc 12) (.loc 3)) (.cmp .lt (.sub (.loc 13) (.cns (.int 0))) (.loc 4)))) (.cons (.asg 13 (.cns .non))
      .nil) .nil)
      (.cons (.iff (.cmp .ne (.call "_law_at" (.cons (.loc 11) (.cons (.loc 12) .nil))) (.loc 13)) (.cons (.ret (.cns (.bl false)))
      .nil) .nil)
      .nil))))
def m_law : Sm := (.cons (.unp [1, 2] (.call "_law_drawn_rows" (.cons (.loc 0) (.cons (.cns (.int 0)) .nil))))
      (.cons (.asg 3 (.call "_law_pick" (.cons (.loc 0) (.cons (.cns (.int 100)) (.cons (.cns (.int 23)) .nil)))))
      (.cons (.asg 4 (.bin .add (.bin .add (.loc 3) (.cns (.int 1))) (.call "_law_pick" (.cons (.loc 0) (.cons (.cns (.int 101)) (.cons (.bin .sub (.cns (.int 24)) (.loc 3)) .nil))))))
      (.cons (.asg 5 (.blt .sset (.cons (.bin .add (.bin .add t0_law t1_law) (.lst (.cons (.cns (.int 0)) (.cons (.cns (.int 24)) .nil)))) .nil)))
      (.cons (.iff (.cmp .gt (.call "_law_pick" (.cons (.loc 0) (.cons (.cns (.int 102)) (.cons (.cns (.int 3)) .nil)))) (.cns (.int 0))) (.cons (.asg 7 (.call "_law_pick" (.cons (.loc 0) (.cons (.cns (.int 103)) (.cons (.bin .sub (.blt .len (.cons (.loc 5) .nil)) (.cns (.int 1))) .nil)))))
      (.cons (.par [(3, false), (4, false)] (.cons (.sub (.loc 5) (.loc 7)) (.cons (.sub (.loc 5) (.bin .add (.bin .add (.loc 7) (.cns (.int 1))) (.call "_law_pick" (.cons (.loc 0) (.cons (.cns (.int 104)) (.cons (.bin .sub (.bin .sub (.blt .len (.cons (.loc 5) .nil)) (.cns (.int 1))) (.loc 7)) .nil)))))) .nil)))
      .nil)) (.cons (.iff (.cmp .eq (.call "_law_pick" (.cons (.loc 0) (.cons (.cns (.int 105)) (.cons (.cns (.int 2)) .nil)))) (.cns (.int 0))) (.cons (.asg 4 (.sub t2_law (.cns (.int 0))))
      .nil) .nil)
      .nil))
      (.cons (.asg 9 (.blt .max1 (.cons t3_law .nil)))
      (.cons (.iff (.and (.cmp .gt (.loc 9) (.cns (.int 2))) (.cmp .eq (.call "_law_pick" (.cons (.loc 0) (.cons (.cns (.int 106)) (.cons (.cns (.int 4)) .nil)))) (.cns (.int 0)))) (.cons (.unp [3, 4] (.sub t4_law (.cns (.int 0))))
      .nil) .nil)
      (.cons (.asg 10 (.blt .list (.cons (.loc 1) .nil)))
      (.cons (.own 11 (.call "laid" (.cons (.loc 1) (.cons (.loc 3) (.cons (.loc 4) .nil)))))
      (.cons (.iff (.or (.not (.isi (.loc 11) ["list"])) (.or (.cmp .ne (.loc 1) (.loc 10)) (.cmp .ne (.loc 11) (.blt .sorted (.cons (.loc 11) .nil))))) (.cons (.ret (.cns (.bl false)))
      .nil) .nil)
      (.cons (.forR (.nm 6) (.cons (.loc 11) .nil) t5_law (.bl false))
      (.cons (.iff (.cmp .ne t6_law t7_law) (.cons (.ret (.cns (.bl false)))
      .nil) .nil)
      (.cons (.for (.nm 12) (.rng1 (.cns (.int 24))) b0_law)
      (.cons (.app 11 (.tup (.cons (.cns (.int 24)) (.cons (.cns (.int 25)) (.cons (.cns (.str "x")) .nil)))))
      (.cons (.frz 11)
      (.cons (.ret (.and (.cmp .eq (.loc 1) (.loc 10)) (.and (.cmp .eq (.call "laid" (.cons (.loc 1) (.cons (.loc 3) (.cons (.loc 4) .nil)))) (.slc (.loc 11) .nil (.cons (.neg (.cns (.int 1))) .nil))) (.cmp .eq (.call "laid" (.cons (.lst .nil) (.cons (.loc 3) (.cons (.loc 4) .nil)))) (.lst .nil)))))
      .nil))))))))))))))))
def d_law : Fd := ⟨1, 14, [], m_law⟩
def cnT : List (Str × D) := []
def fnT : List (Str × Fd) := [("laid", d_laid), ("_law_pick", d__law_pick), ("_law_names", d__law_names), ("_law_drawn_rows", d__law_drawn_rows), ("_law_at", d__law_at), ("law", d_law)]
def knT : List (Str × (Nat × Nat)) := [("laid", (3, 0)), ("_law_pick", (3, 0)), ("_law_names", (3, 0)), ("_law_drawn_rows", (2, 0)), ("_law_at", (2, 0)), ("law", (1, 0))]
def Γ : Gm := ⟨fun x => cnT.lookup x, fun x => fnT.lookup x⟩
def kn (x : Str) : Option (Nat × Nat) := knT.lookup x
end K05
namespace Air
open PySem L2
/-! #### laid -/
def laidB : Sm := (.cons (.iff (.or (.cmp .le (.sub (.loc 4) (.cns (.int 1))) (.loc 1)) (.cmp .ge (.sub (.loc 4) (.cns (.int 0))) (.loc 2))) (.cons (.app 3 (.loc 4))
      .nil) (.cons (.iff (.cmp .lt (.sub (.loc 4) (.cns (.int 0))) (.loc 1)) (.cons (.app 3 (.tup (.cons (.sub (.loc 4) (.cns (.int 0))) (.cons (.loc 1) (.cons (.sub (.loc 4) (.cns (.int 2))) .nil)))))
      .nil) .nil)
      .nil))
      .nil)
def laidS : Sm := (.cons (.own 3 (.lst .nil))
      (.cons (.for (.nm 4) (.cons (.loc 0) .nil) laidB)
      (.cons (.retOwn 3)
      .nil)))
theorem laid1_le (b e : Int) (r : Rw Str) : (laid1 b e r).length ≤ 1 := by
  unfold laid1
  split <;> (try split) <;> simp
theorem laidL_le (b e : Int) : ∀ rs : List (Rw Str), (laidL b e rs).length ≤ rs.length
  | [] => by simp [laidL]
  | r :: rs => by
    have h1 := laid1_le b e r
    have h2 := laidL_le b e rs
    rw [laidL_cons, List.length_append, List.length_cons]
    omega
theorem laidB_run {cn : Str → Option D} {cf : Str → Bool → List D → Is → R Sl} {b e : Int} {r : Rw Str} {m : List (Rw Str)} {s0 : Sl} {ro : Bool} {I : Is} (hm : m.length < 100000) : loopB cn cf laidB ro [s0, .val (.int b), .val (.int e), .lst (rowsD m), .val (rowD r)] I =
    .nx [s0, .val (.int b), .val (.int e), .lst (rowsD (m ++ laid1 b e r)), .val (rowD r)] I := by
  have l : m.length < lim := lt_lim (by omega)
  have a1 : ∀ x y : Int, rowsD m ++ [.tup [.int x, .int y, .str r.2.2]] = rowsD (m ++ [(x, y, r.2.2)]) := fun x y => app_row m (x, y, r.2.2)
  have a2 : rowsD m ++ [rowD r] = rowsD (m ++ [r]) := app_row m r
  rw [loop_def]
  unfold laid1
  by_cases h1 : r.2.1 ≤ b
  · simp [laidB, h1, l, a2]
  · by_cases h2 : e ≤ r.1
    · simp [laidB, h1, h2, l, a2]
    · by_cases h3 : r.1 < b
      · simp [laidB, h1, h2, h3, l, a1]
      · simp [laidB, h1, h2, h3, l]
theorem laidF_run {cn : Str → Option D} {cf : Str → Bool → List D → Is → R Sl} {b e : Int} {s0 : Sl} {ro : Bool} {I : Is} : ∀ {rs m : List (Rw Str)} {s4 : Sl}, m.length + rs.length < 100000 → ∃ s4', forL (loopB cn cf laidB ro) (.nm 4) (rowsD rs) [s0, .val (.int b), .val (.int e), .lst (rowsD m), s4] I =
    .nx [s0, .val (.int b), .val (.int e), .lst (rowsD (m ++ laidL b e rs)), s4'] I
  | [], m, s4, _ => ⟨s4, by simp [laidL]⟩
  | r :: rs, m, s4, h => by
    rw [List.length_cons] at h
    have h1 := laid1_le b e r
    obtain ⟨s4', h2⟩ := laidF_run (cn := cn) (cf := cf) (b := b) (e := e) (s0 := s0) (ro := ro) (I := I) (rs := rs) (m := m ++ laid1 b e r) (s4 := .val (rowD r)) (by rw [List.length_append]; omega)
    refine ⟨s4', ?_⟩
    rw [laidL_cons, ← List.append_assoc, ← h2]
    simp only [rowsD_cons, forL, asgT, List.set_cons_succ, List.set_cons_zero]
    rw [laidB_run (by omega)]
theorem laid_run {Γ : Gm} (h : Γ.fn "laid" = some ⟨3, 5, [], laidS⟩) {rs : List (Rw Str)} {b e : Int} (hl : rs.length < 100000) (n : Nat) (ro : Bool) (I : Is) : callN Γ (n + 1) "laid" ro [.lst (rowsD rs), .int b, .int e] I = .ok (.lst (rowsD (laidL b e rs))) I := by
  rw [call_body h]
  obtain ⟨s4, q⟩ := laidF_run (cn := Γ.cn) (cf := callN Γ n) (b := b) (e := e) (s0 := .val (.lst (rowsD rs))) (ro := ro) (I := I) (rs := rs) (m := []) (s4 := .no) (by simpa using hl)
  simp only [rowsD_nil, List.nil_append] at q
  simp [laidS, fillD, q]
/-! #### rows in order are sorted -/
theorem le_row {r s : Rw Str} (h : r.1 < s.1) : D.le (rowD r) (rowD s) = true := by
  show (!(PyProof.Rows.lexLt PyProof.Rows.itemOrd [.inl s.1, .inl s.2.1, .inr s.2.2.cps.toList] [.inl r.1, .inl r.2.1, .inr r.2.2.cps.toList])) = _
  simp only [PyProof.Rows.lexLt]
  show (!(decide (s.1 < r.1) || (!decide (r.1 < s.1) && _))) = _
  simp [h, show ¬ s.1 < r.1 by omega]
theorem sort_rows {hi : Int} : ∀ {rs : List (Rw Str)} {lo : Int}, Vld lo hi rs → sortD (rowsD rs) = rowsD rs
  | [], _, _ => rfl
  | [r], _, _ => rfl
  | r :: s :: rs, lo, v => by
    have ih := sort_rows v.2.2.2
    have h1 := v.2.1
    have h2 := v.2.2.2.1
    rw [rowsD_cons, sortD, ih, rowsD_cons, insD, le_row (by omega)]; rfl
theorem sortable_rows : ∀ rs : List (Rw Str), sortable (rowsD rs) = true
  | [] => rfl
  | r :: rs => by
    have : sortT (rowsD (r :: rs)) = true := by
      rw [rowsD_cons]
      unfold sortT
      rw [Bool.and_eq_true]
      refine ⟨rfl, List.all_eq_true.mpr fun x hx => ?_⟩
      obtain ⟨y, _, rfl⟩ := List.mem_map.mp hx
      rfl
    unfold sortable
    rw [this]; simp
/-! #### the row of an hour -/
def atT : Tm := (.lc [("_law_row", 3)] (.loc 3) (.nm 3) (.cons (.loc 0) .nil) (.cons (.ch2 .le .lt (.sub (.loc 3) (.cns (.int 0))) (.loc 1) (.sub (.loc 3) (.cns (.int 1)))) .nil))
def atS : Sm := (.cons (.asg 2 atT)
      (.cons (.ret (.ite (.cmp .eq (.blt .len (.cons (.loc 2) .nil)) (.cns (.int 1))) (.sub (.loc 2) (.cns (.int 0))) (.cns .non)))
      .nil))
def optD : Option (Rw Str) → D
  | none => .non
  | some r => rowD r
def oneO : List (Rw Str) → Option (Rw Str)
  | [r] => some r
  | _ => none
theorem at_run {Γ : Gm} (h : Γ.fn "_law_at" = some ⟨2, 4, [], atS⟩) {rs : List (Rw Str)} {x : Int} (hl : rs.length ≤ 1000) (n : Nat) (ro : Bool) (I : Is) : callN Γ (n + 1) "_law_at" ro [.lst (rowsD rs), .int x] I = .ok (.val (optD (oneO (rs.filter (inR x))))) I := by
  rw [call_body h]
  have e0 : ∀ s2 s3, ev Γ.cn (callN Γ n) atT ro [.val (.lst (rowsD rs)), .val (.int x), s2, s3] I = .ok (.lst (rowsD (rs.filter (inR x))), .new) I := fun s2 s3 =>
    ev_lcF (xs := rs) rowD (inR x) rowD (k := .fro) (by simp [rowsD]) rfl (by omega) fun r hr => ⟨_, rfl, by simp [wipeF, inR], fun _ => ⟨.fro, rfl, .inl rfl⟩⟩
  generalize rs.filter (inR x) = L at *
  rcases L with _ | ⟨r, _ | ⟨s, L⟩⟩
  · simp [atS, fillD, e0, oneO, optD]
  · have : subD (.lst [rowD r]) (.int 0) .fro I = .ok (rowD r, .fro) I := rfl
    simp [atS, fillD, e0, oneO, optD, this]
  · have : ¬ ((L.length : Int) + 1 + 1 = 1) := by omega
    simp [atS, fillD, e0, oneO, optD, this]
@[simp] theorem kIsn_row (ng : Bool) (r : Rw Str) (k : Kd) {I : Is} : kIsn ng (rowD r, k) I = .ok (.bl ng, .fro) I := id rfl
@[simp] theorem lenT_row (r : Rw Str) {I : Is} : biD .len [(rowD r, .fro)] I = .ok (.int 3, .fro) I := id rfl
end Air
namespace K05
open PySem L2 Air
theorem pickG : Γ.fn "_law_pick" = some ⟨3, 7, [], pickS⟩ := rfl
theorem namesG : Γ.fn "_law_names" = some ⟨3, 9, [], namesS⟩ := rfl
theorem drawG : Γ.fn "_law_drawn_rows" = some ⟨2, 8, [], drawS⟩ := rfl
theorem laidG : Γ.fn "laid" = some ⟨3, 5, [], laidS⟩ := rfl
theorem atG : Γ.fn "_law_at" = some ⟨2, 4, [], atS⟩ := rfl
/-! #### the hours -/
theorem optD_eqc (o : Option (Rw Str)) : (optD o).eqc = true ∧ (optD o).dep ≤ 64 := by
  cases o with
  | none => exact ⟨rfl, by simp [optD]⟩
  | some r => exact ⟨rfl, by rw [optD, rowD_dep]; omega⟩
theorem hour_run {b e h : Int} {rs : List (Rw Str)} (he : b < e) (v : Vld 0 24 rs) (hl : rs.length ≤ 1000) {s0 s2 s5 s6 s7 s8 s9 s10 s13 : Sl} : ∃ t13,
    loopB Γ.cn (callN Γ 24) b0_law false [s0, .val (.lst (rowsD rs)), s2, .val (.int b), .val (.int e), s5, s6, s7, s8, s9, s10, .lst (rowsD (laidL b e rs)), .val (.int h), s13] [] =
      .nx [s0, .val (.lst (rowsD rs)), s2, .val (.int b), .val (.int e), s5, s6, s7, s8, s9, s10, .lst (rowsD (laidL b e rs)), .val (.int h), .val t13] [] := by
  have a1 := fun ro => at_run atG (x := h) hl 23 ro []
  have a2 := at_run atG (rs := laidL b e rs) (x := h) (by have := laidL_le b e rs; omega) 23 true []
  have a2 : callD (callN Γ 24) "_law_at" false [(.lst (rowsD (laidL b e rs)), .own), (.int h, .fro)] [] = .ok (optD (oneO ((laidL b e rs).filter (inR h))), .fro) [] := callD_own rfl rfl a2 (by cases oneO ((laidL b e rs).filter (inR h)) <;> rfl)
  rw [laid_at he] at a2
  rw [loop_def]
  rcases v.one (h := h) with q | ⟨r, _, q, h1, h2⟩
  · rw [q] at a1 a2
    refine ⟨.non, ?_⟩
    have e2 : oneO ((([] : List (Rw Str)).flatMap fun r => (dueF b e h r).toList)) = none := rfl
    rw [e2] at a2
    simp only [oneO, optD] at a1 a2
    simp [b0_law, callD_frz, a1, a2, cmp_ne_self]
  · rw [q] at a1 a2
    have e2 : oneO (([r] : List (Rw Str)).flatMap fun r => (dueF b e h r).toList) = dueF b e h r := by
      rw [List.flatMap_singleton]
      cases dueF b e h r <;> rfl
    rw [e2] at a2
    refine ⟨optD (dueF b e h r), ?_⟩
    simp only [oneO, optD] at a1
    obtain ⟨ne1, ne2⟩ := optD_eqc (dueF b e h r)
    have ne := cmp_ne_self (I := []) ne1 ne2
    revert a2 ne
    unfold dueF
    by_cases c1 : r.1 < b ∧ b < r.2.1
    · rw [if_pos c1]
      by_cases c2 : b ≤ h ∧ r.1 < e
      · rw [if_pos c2]
        intro a2 ne
        simp only [optD] at a2 ne
        have T : subD (.tup [.int r.1, .int b, .str r.2.2]) (.int 0) .fro [] = .ok (.int r.1, .fro) [] := rfl
        simp [b0_law, callD_frz, a1, a2, c1, c2, ne, T, optD]
      · rw [if_neg c2]
        intro a2 ne
        simp only [optD] at a2 ne
        have T : subD (.tup [.int r.1, .int b, .str r.2.2]) (.int 0) .fro [] = .ok (.int r.1, .fro) [] := rfl
        have R0 : rowD (r.1, b, r.2.2) = .tup [.int r.1, .int b, .str r.2.2] := rfl
        rw [R0] at a2 ne
        by_cases c3 : b ≤ h
        · have c4 : ¬ r.1 < e := fun z => c2 ⟨c3, z⟩
          simp [b0_law, callD_frz, a1, a2, c1, c3, c4, ne, T, optD, R0]
        · simp [b0_law, callD_frz, a1, a2, c1, c3, ne, T, optD, R0]
    · rw [if_neg c1]
      have c1' : (decide (r.1 < b) && decide (b < r.2.1)) = false := by
        simp only [Bool.and_eq_false_iff, decide_eq_false_iff_not]; omega
      by_cases c2 : b ≤ h ∧ r.1 < e
      · rw [if_pos c2]
        intro a2 ne
        simp only [optD] at a2 ne
        by_cases d1 : r.1 < b
        · have d2 : ¬ b < r.2.1 := fun z => c1 ⟨d1, z⟩
          simp [b0_law, callD_frz, a1, a2, d1, d2, c2, ne, optD]
        · simp [b0_law, callD_frz, a1, a2, d1, c2, ne, optD]
      · rw [if_neg c2]
        intro a2 ne
        simp only [optD] at a2 ne
        by_cases d1 : r.1 < b
        · have d2 : ¬ b < r.2.1 := fun z => c1 ⟨d1, z⟩
          by_cases c3 : b ≤ h
          · have c4 : ¬ r.1 < e := fun z => c2 ⟨c3, z⟩
            simp [b0_law, callD_frz, a1, a2, d1, d2, c3, c4, ne, optD]
          · simp [b0_law, callD_frz, a1, a2, d1, d2, c3, ne, optD]
        · by_cases c3 : b ≤ h
          · have c4 : ¬ r.1 < e := fun z => c2 ⟨c3, z⟩
            simp [b0_law, callD_frz, a1, a2, d1, c3, c4, ne, optD]
          · simp [b0_law, callD_frz, a1, a2, d1, c3, ne, optD]
end K05
namespace Air
open PySem L2
section
variable {cn : Str → Option D} {cf : Str → Bool → List D → Is → R Sl} {ro : Bool} {fr : Fr} {I : Is}
def frT (cn : Str → Option D) (cf : Str → Bool → List D → Is → R Sl) (c : Tm) (ro : Bool) (fr : Fr) (I : Is) : R Bool := (ev cn cf c ro fr I).tst kC
def kFrR (cn : Str → Option D) (cf : Str → Bool → List D → Is → R Sl) (tg : Tg) (c : Tm) (r : Cs) (ro : Bool) (fr : Fr) (p : List D × Kd) (I : Is) : Xr := frL (frT cn cf c (roK ro p.2)) r.d tg p.1 fr I
@[simp high] theorem ex_forR' (tg : Tg) (it c : Tm) (r : Cs) : exec cn cf (.forR tg it c r) ro fr I = (evI cn cf it ro fr I).stm fr (kFrR cn cf tg c r ro fr) := id rfl
@[simp] theorem kFrR_ok (tg : Tg) (c : Tm) (r : Cs) (xs : List D) (k : Kd) : kFrR cn cf tg c r ro fr (xs, k) I = frL (frT cn cf c (roK ro k)) r.d tg xs fr I := id rfl
end
end Air
namespace K05
open PySem L2 Air
section
variable {cf : Str → Bool → List D → Is → R Sl} {s0 s1 s2 s3 s4 s5 s7 s8 s9 s10 s11 s12 s13 : Sl}
theorem tst_run {r : Rw Str} (h : r.1 < r.2.1) : frT Γ.cn cf t5_law false [s0, s1, s2, s3, s4, s5, .val (rowD r), s7, s8, s9, s10, s11, s12, s13] [] = .ok false [] := by
  unfold frT
  simp [t5_law, h]
theorem rows_ok : ∀ {rs : List (Rw Str)} {s6 : Sl}, (∀ r ∈ rs, r.1 < r.2.1) → ∃ s6', frL (frT Γ.cn cf t5_law false) (.bl false) (.nm 6) (rowsD rs) [s0, s1, s2, s3, s4, s5, s6, s7, s8, s9, s10, s11, s12, s13] [] = .nx [s0, s1, s2, s3, s4, s5, s6', s7, s8, s9, s10, s11, s12, s13] []
  | [], s6, _ => ⟨s6, rfl⟩
  | r :: rs, s6, h => by
    obtain ⟨s6', q⟩ := rows_ok (rs := rs) (s6 := .val (rowD r)) fun x hx => h x (List.mem_cons_of_mem _ hx)
    refine ⟨s6', ?_⟩
    rw [rowsD_cons, frL]
    simp only [asgT, List.set_cons_succ, List.set_cons_zero, tst_run (h r List.mem_cons_self), stm_ok, cond_false, q]
end
def tlS : Sm := (.cons (.asg 10 (.blt .list (.cons (.loc 1) .nil)))
      (.cons (.own 11 (.call "laid" (.cons (.loc 1) (.cons (.loc 3) (.cons (.loc 4) .nil)))))
      (.cons (.iff (.or (.not (.isi (.loc 11) ["list"])) (.or (.cmp .ne (.loc 1) (.loc 10)) (.cmp .ne (.loc 11) (.blt .sorted (.cons (.loc 11) .nil))))) (.cons (.ret (.cns (.bl false)))
      .nil) .nil)
      (.cons (.forR (.nm 6) (.cons (.loc 11) .nil) t5_law (.bl false))
      (.cons (.iff (.cmp .ne t6_law t7_law) (.cons (.ret (.cns (.bl false)))
      .nil) .nil)
      (.cons (.for (.nm 12) (.rng1 (.cns (.int 24))) b0_law)
      (.cons (.app 11 (.tup (.cons (.cns (.int 24)) (.cons (.cns (.int 25)) (.cons (.cns (.str "x")) .nil)))))
      (.cons (.frz 11)
      (.cons (.ret (.and (.cmp .eq (.loc 1) (.loc 10)) (.and (.cmp .eq (.call "laid" (.cons (.loc 1) (.cons (.loc 3) (.cons (.loc 4) .nil)))) (.slc (.loc 11) .nil (.cons (.neg (.cns (.int 1))) .nil))) (.cmp .eq (.call "laid" (.cons (.lst .nil) (.cons (.loc 3) (.cons (.loc 4) .nil)))) (.lst .nil)))))
      .nil)))))))))
theorem tail_run {b e : Int} {rs : List (Rw Str)} (he : b < e) (v : Vld 0 24 rs) (hl : rs.length ≤ 6) {s0 s2 s5 s6 s7 s8 s9 s10 s11 s12 s13 : Sl} : exec Γ.cn (callN Γ 24) tlS false [s0, .val (.lst (rowsD rs)), s2, .val (.int b), .val (.int e), s5, s6, s7, s8, s9, s10, s11, s12, s13] [] = .rt (.val (.bl true)) [] := by
  have vL := laid_vld (b := b) (e := e) v
  have lL := laidL_le b e rs
  have L := fun ro => laid_run laidG (rs := rs) (b := b) (e := e) (by omega) 23 ro []
  have L0 := fun ro => laid_run laidG (rs := []) (b := b) (e := e) (by simp) 23 ro []
  have el : laidL b e ([] : List (Rw Str)) = [] := rfl
  simp only [el, rowsD_nil] at L0
  have so : biD .sorted [(.lst (rowsD (laidL b e rs)), .own)] [] = .ok (.lst (rowsD (laidL b e rs)), .new) [] := by
    show (bif sortable (rowsD (laidL b e rs)) then R.ok (D.lst (sortD (rowsD (laidL b e rs))), Kd.new) [] else .bad) = _
    rw [sortable_rows, sort_rows vL]; rfl
  obtain ⟨s6', fR⟩ := rows_ok (cf := callN Γ 24) (s0 := s0) (s1 := .val (.lst (rowsD rs))) (s2 := s2) (s3 := .val (.int b)) (s4 := .val (.int e)) (s5 := s5) (s7 := s7) (s8 := s8) (s9 := s9) (s10 := .val (.lst (rowsD rs))) (s11 := .lst (rowsD (laidL b e rs))) (s12 := s12) (s13 := s13) (rs := laidL b e rs) (s6 := s6) fun r hr => (vL.mem r hr).2.1
  have t6 : ev Γ.cn (callN Γ 24) t6_law false [s0, .val (.lst (rowsD rs)), s2, .val (.int b), .val (.int e), s5, s6', s7, s8, s9, .val (.lst (rowsD rs)), .lst (rowsD (laidL b e rs)), s12, s13] [] = .ok (.lst (((laidL b e rs).map fun r => r.1).map D.int), .new) [] := by
    rw [List.map_map]
    exact ev_lcM (xs := laidL b e rs) rowD (fun r => D.int r.1) (k := .own) (by simp [rowsD]) rfl (by omega) fun r hr => ⟨_, rfl, .fro, by simp [wipeF], .inl rfl⟩
  have t7 : ev Γ.cn (callN Γ 24) t7_law false [s0, .val (.lst (rowsD rs)), s2, .val (.int b), .val (.int e), s5, s6', s7, s8, s9, .val (.lst (rowsD rs)), .lst (rowsD (laidL b e rs)), s12, s13] [] = .ok (.lst (((laidL b e rs).map fun r => r.1).map D.int), .new) [] := by
    rw [laid_begins he v, List.map_map]
    exact ev_lcF (xs := rs) rowD (fun r => decide (r.1 < b) || decide (e ≤ r.1)) (fun r => D.int r.1) (k := .fro) (by simp [rowsD]) rfl (by omega) fun r hr => ⟨_, rfl, by simp [wipeF], fun _ => ⟨.fro, by simp [wipeF], .inl rfl⟩⟩
  have neI : ∀ M : List Int, cmpD .ne (.lst (M.map D.int)) (.lst (M.map D.int)) [] = .ok (.bl false, .fro) [] := fun M => by
    have h1 : D.cls (M.map D.int) = true := cls_all fun d hd => by
      obtain ⟨i, _, rfl⟩ := List.mem_map.mp hd
      rfl
    have h2 : D.deps (M.map D.int) ≤ 1 := by
      induction M with
      | nil => simp
      | cons m M ih =>
        have := ih (cls_all fun d hd => by
          obtain ⟨i, _, rfl⟩ := List.mem_map.mp hd
          rfl)
        rw [List.map_cons, deps_cons, dep_int]; omega
    exact cmp_ne_self (cl_eqc _ (by simpa [D.cl] using h1)) (by simp; omega)
  obtain ⟨fr1, L1, s12', s13', rfl⟩ := loop_all (B := loopB Γ.cn (callN Γ 24) b0_law false) (tg := .nm 12) (I := []) (fun fr => ∃ s12 s13, fr = [s0, .val (.lst (rowsD rs)), s2, .val (.int b), .val (.int e), s5, s6', s7, s8, s9, .val (.lst (rowsD rs)), .lst (rowsD (laidL b e rs)), s12, s13]) (xs := rngL 0 24) (fun x hx fr hp => by
    obtain ⟨s12, s13, rfl⟩ := hp
    obtain ⟨k, _, rfl⟩ := List.mem_map.mp hx
    obtain ⟨t13, q⟩ := hour_run (h := 0 + (k : Int)) he v (by omega) (s0 := s0) (s2 := s2) (s5 := s5) (s6 := s6') (s7 := s7) (s8 := s8) (s9 := s9) (s10 := .val (.lst (rowsD rs))) (s13 := s13)
    exact ⟨_, _, rfl, .inl q, _, _, rfl⟩) ⟨s12, s13, rfl⟩
  have en : rowsD (laidL b e rs) ++ [.tup [.int 24, .int 25, .str "x"]] = rowsD (laidL b e rs ++ [((24, 25, "x") : Rw Str)]) := app_row (laidL b e rs) (24, 25, "x")
  have cu : ∀ kd, slcD (.lst (rowsD (laidL b e rs ++ [((24, 25, "x") : Rw Str)]))) kd none (some (-1)) [] = .ok (.lst (rowsD (laidL b e rs)), .new) [] := fun kd => by
    rw [rowsD_app]; exact cut_last
  have ll : (laidL b e rs).length < lim := lt_lim (by omega)
  have b24 : big62 24 = true := rfl
  have li : ∀ xs : List D, biD .list [(.lst xs, .fro)] [] = .ok (.lst xs, .new) [] := fun _ => rfl
  have nil : cmpD .eq (.lst []) (.lst []) [] = .ok (.bl true, .fro) [] := rfl
  simp [tlS, callD_frz, li, L, L0, so, fR, t6, t7, neI, b24, L1, en, cu, ll, eq_rows, ne_rows, nil, -List.map_map]
end K05
namespace K05
open PySem L2 Air
def mdS : Sm := (.cons (.asg 9 (.blt .max1 (.cons t3_law .nil)))
      (.cons (.iff (.and (.cmp .gt (.loc 9) (.cns (.int 2))) (.cmp .eq (.call "_law_pick" (.cons (.loc 0) (.cons (.cns (.int 106)) (.cons (.cns (.int 4)) .nil)))) (.cns (.int 0)))) (.cons (.unp [3, 4] (.sub t4_law (.cns (.int 0))))
      .nil) .nil)
      tlS))
theorem max_in : ∀ {M : List Int}, M ≠ [] → maxL M ∈ M
  | [], h => absurd rfl h
  | [m], _ => by simp [maxL]
  | m :: x :: M, _ => by
    have ih := max_in (M := x :: M) (by simp)
    show max m (maxL (x :: M)) ∈ _
    by_cases h : maxL (x :: M) ≤ m
    · rw [Int.max_eq_left h]; exact List.mem_cons_self
    · rw [Int.max_eq_right (by omega)]; exact List.mem_cons_of_mem _ ih
theorem mid_run {ns : List Int} {b e : Int} {rs : List (Rw Str)} (hns : ns.length ≤ 63) (he : b < e) (v : Vld 0 24 rs) (h1 : 1 ≤ rs.length) (hl : rs.length ≤ 6) {s2 s5 s6 s7 s8 s9 s10 s11 s12 s13 : Sl} : exec Γ.cn (callN Γ 24) mdS false [.val (.scr ns), .val (.lst (rowsD rs)), s2, .val (.int b), .val (.int e), s5, s6, s7, s8, s9, s10, s11, s12, s13] [] = .rt (.val (.bl true)) [] := by
  have p := fun ro => pick_run (k := 106) (m := 4) pickG hns (by omega) (by omega) (by omega) 23 ro []
  have T := fun (b e : Int) (he : b < e) (s9 : Sl) => tail_run he v hl (s0 := .val (.scr ns)) (s2 := s2) (s5 := s5) (s6 := s6) (s7 := s7) (s8 := s8) (s9 := s9) (s10 := s10) (s11 := s11) (s12 := s12) (s13 := s13)
  have t3 : ev Γ.cn (callN Γ 24) t3_law false [.val (.scr ns), .val (.lst (rowsD rs)), s2, .val (.int b), .val (.int e), s5, s6, s7, s8, s9, s10, s11, s12, s13] [] = .ok (.lst ((rs.map fun r => r.2.1 - r.1).map D.int), .new) [] := by
    rw [List.map_map]
    exact ev_lcM (xs := rs) rowD (fun r => D.int (r.2.1 - r.1)) (k := .fro) (by simp [rowsD]) rfl (by omega) fun r hr => ⟨_, rfl, .fro, by simp [wipeF], .inl rfl⟩
  have hne : (rs.map fun r => r.2.1 - r.1) ≠ [] := by
    intro h
    have := congrArg List.length h
    simp at this
    subst this
    simp at h1
  have bm : biD .max1 [(.lst ((rs.map fun r => r.2.1 - r.1).map D.int), .new)] [] = .ok (.int (maxL (rs.map fun r => r.2.1 - r.1)), .fro) [] := by
    generalize (rs.map fun r => r.2.1 - r.1) = M at hne ⊢
    simp only [biD, ints_map]
    cases M with
    | nil => exact absurd rfl hne
    | cons m M => rfl
  have mi := max_in hne
  generalize maxL (rs.map fun r => r.2.1 - r.1) = m at *
  have t4 : ev Γ.cn (callN Γ 24) t4_law false [.val (.scr ns), .val (.lst (rowsD rs)), s2, .val (.int b), .val (.int e), s5, s6, s7, s8, .val (.int m), s10, s11, s12, s13] [] = .ok (.lst ((rs.filter fun r => decide (r.2.1 - r.1 = m)).map fun r => .tup [.int (r.1 + 1), .int (r.2.1 - 1)]), .new) [] :=
    ev_lcF (xs := rs) rowD (fun r => decide (r.2.1 - r.1 = m)) (fun r => .tup [.int (r.1 + 1), .int (r.2.1 - 1)]) (k := .fro) (by simp [rowsD]) rfl (by omega) fun r hr => ⟨_, rfl, by simp [wipeF], fun _ => ⟨.fro, by simp [wipeF], .inl rfl⟩⟩
  obtain ⟨r0, hr0, hm0⟩ := List.mem_map.mp mi
  obtain ⟨r, F', hF⟩ : ∃ r F', (rs.filter fun r => decide (r.2.1 - r.1 = m)) = r :: F' := by
    have : r0 ∈ rs.filter fun r => decide (r.2.1 - r.1 = m) := List.mem_filter.mpr ⟨hr0, by simp [hm0]⟩
    generalize (rs.filter fun r => decide (r.2.1 - r.1 = m)) = G at *
    cases G with
    | nil => cases this
    | cons x G => exact ⟨x, G, rfl⟩
  have hr : r.2.1 - r.1 = m := by
    have : r ∈ rs.filter fun r => decide (r.2.1 - r.1 = m) := by rw [hF]; exact List.mem_cons_self
    simpa using (List.mem_filter.mp this).2
  rw [hF, List.map_cons] at t4
  have s0 : ∀ X : List D, subD (.lst (.tup [.int (r.1 + 1), .int (r.2.1 - 1)] :: X)) (.int 0) .new [] = .ok (.tup [.int (r.1 + 1), .int (r.2.1 - 1)], .fro) [] := fun X => sub_nat (k := 0) rfl
  generalize pickF ns 106 4 = x106 at *
  by_cases c1 : 2 < m
  · by_cases c2 : x106 = 0
    · have T1 := T (r.1 + 1) (r.2.1 - 1) (by omega) (.val (.int m))
      simp [mdS, callD_frz, t3, bm, c1, c2, p, t4, s0, asgT, T1, -List.map_map]
    · have T1 := T b e he (.val (.int m))
      simp [mdS, callD_frz, t3, bm, c1, c2, p, T1, -List.map_map]
  · have T1 := T b e he (.val (.int m))
    simp [mdS, callD_frz, t3, bm, c1, p, T1, -List.map_map]
end K05
namespace K05
open PySem L2 Air
theorem addU_len (x : Int) : ∀ l : List Int, (addU x l).length ≤ l.length + 1
  | [] => by simp [addU]
  | y :: l => by
    unfold addU
    have := addU_len x l
    cases decide (x < y) <;> cases decide (x = y) <;> simp <;> omega
theorem setL_len : ∀ l : List Int, (setL l).length ≤ l.length
  | [] => by simp [setL]
  | x :: l => by
    have h1 := addU_len x (setL l)
    have h2 := setL_len l
    rw [setL, List.length_cons]
    omega
theorem m_eq : m_law = (.cons (.unp [1, 2] (.call "_law_drawn_rows" (.cons (.loc 0) (.cons (.cns (.int 0)) .nil))))
      (.cons (.asg 3 (.call "_law_pick" (.cons (.loc 0) (.cons (.cns (.int 100)) (.cons (.cns (.int 23)) .nil)))))
      (.cons (.asg 4 (.bin .add (.bin .add (.loc 3) (.cns (.int 1))) (.call "_law_pick" (.cons (.loc 0) (.cons (.cns (.int 101)) (.cons (.bin .sub (.cns (.int 24)) (.loc 3)) .nil))))))
      (.cons (.asg 5 (.blt .sset (.cons (.bin .add (.bin .add t0_law t1_law) (.lst (.cons (.cns (.int 0)) (.cons (.cns (.int 24)) .nil)))) .nil)))
      (.cons (.iff (.cmp .gt (.call "_law_pick" (.cons (.loc 0) (.cons (.cns (.int 102)) (.cons (.cns (.int 3)) .nil)))) (.cns (.int 0))) (.cons (.asg 7 (.call "_law_pick" (.cons (.loc 0) (.cons (.cns (.int 103)) (.cons (.bin .sub (.blt .len (.cons (.loc 5) .nil)) (.cns (.int 1))) .nil)))))
      (.cons (.par [(3, false), (4, false)] (.cons (.sub (.loc 5) (.loc 7)) (.cons (.sub (.loc 5) (.bin .add (.bin .add (.loc 7) (.cns (.int 1))) (.call "_law_pick" (.cons (.loc 0) (.cons (.cns (.int 104)) (.cons (.bin .sub (.bin .sub (.blt .len (.cons (.loc 5) .nil)) (.cns (.int 1))) (.loc 7)) .nil)))))) .nil)))
      .nil)) (.cons (.iff (.cmp .eq (.call "_law_pick" (.cons (.loc 0) (.cons (.cns (.int 105)) (.cons (.cns (.int 2)) .nil)))) (.cns (.int 0))) (.cons (.asg 4 (.sub t2_law (.cns (.int 0))))
      .nil) .nil)
      .nil))
      mdS))))) := rfl
theorem plain (ns : List Int) (hl : ns.length ≤ 63) : ∃ J, bodyN Γ 24 d_law false [.scr ns] [] = .ok (.val (.bl true)) J := by
  refine ⟨[], ?_⟩
  have pk := fun k m (h1 : (0 : Int) ≤ k) (h2 : k < 1000000) (h3 : (0 : Int) < m) ro => pick_run pickG hl h1 h2 h3 23 ro []
  have dr := fun ro => drawn_run pickG namesG drawG (at_ := 0) hl (by omega) (by omega) 21 ro []
  have v := drawn_vld ns 0
  obtain ⟨l1, l6⟩ := drawn_len ns 0
  generalize drawnL ns 0 = rs at *
  generalize namesD ns 0 = nms at *
  have p100 := pk 100 23 (by omega) (by omega) (by omega)
  obtain ⟨a0, a1⟩ := pickF_in ns 100 (m := 23) (by omega)
  generalize pickF ns 100 23 = b at *
  have p101 := pk 101 (24 - b) (by omega) (by omega) (by omega)
  obtain ⟨b0, b1⟩ := pickF_in ns 101 (m := 24 - b) (by omega)
  generalize pickF ns 101 (24 - b) = x101 at *
  have p102 := pk 102 3 (by omega) (by omega) (by omega)
  have p105 := pk 105 2 (by omega) (by omega) (by omega)
  generalize pickF ns 102 3 = x102 at *
  generalize pickF ns 105 2 = x105 at *
  have t0 : ∀ s3 s4 s5 s6 s7 s8 s9 s10 s11 s12 s13, ev Γ.cn (callN Γ 24) t0_law false [.val (.scr ns), .val (.lst (rowsD rs)), .val (.lst nms), s3, s4, s5, s6, s7, s8, s9, s10, s11, s12, s13] [] = .ok (.lst ((rs.map fun r => r.1).map D.int), .new) [] := fun s3 s4 s5 s6 s7 s8 s9 s10 s11 s12 s13 => by
    rw [List.map_map]
    exact ev_lcM (xs := rs) rowD (fun r => D.int r.1) (k := .fro) (by simp [rowsD]) rfl (by omega) fun r hr => ⟨_, rfl, .fro, by simp [wipeF], .inl rfl⟩
  have t1 : ∀ s3 s4 s5 s6 s7 s8 s9 s10 s11 s12 s13, ev Γ.cn (callN Γ 24) t1_law false [.val (.scr ns), .val (.lst (rowsD rs)), .val (.lst nms), s3, s4, s5, s6, s7, s8, s9, s10, s11, s12, s13] [] = .ok (.lst ((rs.map fun r => r.2.1).map D.int), .new) [] := fun s3 s4 s5 s6 s7 s8 s9 s10 s11 s12 s13 => by
    rw [List.map_map]
    exact ev_lcM (xs := rs) rowD (fun r => D.int r.2.1) (k := .fro) (by simp [rowsD]) rfl (by omega) fun r hr => ⟨_, rfl, .fro, by simp [wipeF], .inl rfl⟩
  have la : (rs.map fun r => r.1).length ≤ 6 := by rw [List.length_map]; exact l6
  have lb : (rs.map fun r => r.2.1).length ≤ 6 := by rw [List.length_map]; exact l6
  generalize (rs.map fun r => r.1) = A at *
  generalize (rs.map fun r => r.2.1) = B at *
  have ad1 : binD .add (.lst (A.map D.int)) (.lst (B.map D.int)) [] = .ok (.lst ((A ++ B).map D.int), .new) [] := by
    rw [add_lst' (by rw [List.length_map, List.length_map]; omega), List.map_append]
  have ad2 : binD .add (.lst ((A ++ B).map D.int)) (.lst [.int 0, .int 24]) [] = .ok (.lst ((A ++ B ++ [0, 24]).map D.int), .new) [] := by
    rw [add_lst' (by simp; omega)]; simp
  have lM : (A ++ B ++ [0, 24]).length < 64 := by simp; omega
  have m0 : (0 : Int) ∈ A ++ B ++ [0, 24] := by simp
  have m24 : (24 : Int) ∈ A ++ B ++ [0, 24] := by simp
  generalize A ++ B = AB at *
  generalize AB ++ [0, 24] = M at *
  have ss : biD .sset [(.lst (M.map D.int), .new)] [] = .ok (.lst ((setL M).map D.int), .new) [] := by
    simp only [biD, ints_map]
    rw [decide_eq_true lM]; rfl
  have e0 := (setL_mem M 0).mpr m0
  have e24 := (setL_mem M 24).mpr m24
  have ep := setL_pw M
  have lS := setL_len M
  generalize setL M = E at *
  have lE : 2 ≤ E.length := by
    rcases E with _ | ⟨x, _ | ⟨y, E⟩⟩
    · cases e0
    · simp at e0 e24; omega
    · simp
  have p103 := pk 103 ((E.length : Int) - 1) (by omega) (by omega) (by omega)
  obtain ⟨c0, c1⟩ := pickF_in ns 103 (m := (E.length : Int) - 1) (by omega)
  generalize pickF ns 103 ((E.length : Int) - 1) = k at *
  have p104 := pk 104 ((E.length : Int) - 1 - k) (by omega) (by omega) (by omega)
  obtain ⟨d0, d1⟩ := pickF_in ns 104 (m := (E.length : Int) - 1 - k) (by omega)
  generalize pickF ns 104 ((E.length : Int) - 1 - k) = j at *
  have at_ : ∀ i : Int, 0 ≤ i → (hi : i.toNat < E.length) → ∀ kd, subD (.lst (E.map D.int)) (.int i) kd [] = .ok (.int (E[i.toNat]'hi), .fro) [] := fun i h0 hi kd => by
    have := sub_nat (xs := E.map D.int) (k := i.toNat) (d := .int E[i.toNat]) (kd := kd) (I := []) (by simp [hi])
    rwa [Int.toNat_of_nonneg h0] at this
  have ek := at_ k (by omega) (by omega)
  have ej := at_ (k + 1 + j) (by omega) (by omega)
  have hlt : E[k.toNat]'(by omega) < E[(k + 1 + j).toNat]'(by omega) := List.pairwise_iff_getElem.mp ep _ _ _ _ (by omega)
  generalize E[k.toNat]'(by omega) = eb at *
  generalize E[(k + 1 + j).toNat]'(by omega) = ee at *
  have t2 : ∀ s4 s6 s7 s8 s9 s10 s11 s12 s13, ev Γ.cn (callN Γ 24) t2_law false [.val (.scr ns), .val (.lst (rowsD rs)), .val (.lst nms), .val (.int b), s4, .val (.lst (E.map D.int)), s6, s7, s8, s9, s10, s11, s12, s13] [] = .ok (.lst ((E.filter fun x => decide (b < x)).map D.int), .new) [] := fun s4 s6 s7 s8 s9 s10 s11 s12 s13 => by
    have lE2 : E.length ≤ 1000000 := by omega
    exact ev_lcF (xs := E) D.int (fun x => decide (b < x)) D.int (k := .fro) (by simp) rfl lE2 fun r hr => ⟨_, rfl, by simp [wipeF], fun _ => ⟨.fro, by simp [wipeF], .inl rfl⟩⟩
  obtain ⟨x, X, hX⟩ : ∃ x X, E.filter (fun x => decide (b < x)) = x :: X := by
    have : (24 : Int) ∈ E.filter fun x => decide (b < x) := List.mem_filter.mpr ⟨e24, by simp; omega⟩
    generalize E.filter (fun x => decide (b < x)) = G at *
    cases G with
    | nil => cases this
    | cons x G => exact ⟨x, G, rfl⟩
  have hx : b < x := by
    have : x ∈ E.filter fun x => decide (b < x) := by rw [hX]; exact List.mem_cons_self
    simpa using (List.mem_filter.mp this).2
  simp only [hX, List.map_cons] at t2
  have s0 : subD (.lst (.int x :: X.map D.int)) (.int 0) .new [] = .ok (.int x, .fro) [] := sub_nat (k := 0) rfl
  rw [body_def]
  by_cases q1 : 0 < x102
  · have T := fun (s2 s5 s6 s7 s8 s9 s10 s11 s12 s13) => mid_run hl hlt v l1 l6 (s2 := s2) (s5 := s5) (s6 := s6) (s7 := s7) (s8 := s8) (s9 := s9) (s10 := s10) (s11 := s11) (s12 := s12) (s13 := s13)
    simp [d_law, m_eq, callD_frz, dr, asgT, p100, p101, p102, p103, p104, p105, t0, t1, ad1, ad2, ss, q1, ek, ej, T, -List.map_map, -List.map_append]
  · by_cases q2 : x105 = 0
    · have T := fun (s2 s5 s6 s7 s8 s9 s10 s11 s12 s13) => mid_run hl hx v l1 l6 (s2 := s2) (s5 := s5) (s6 := s6) (s7 := s7) (s8 := s8) (s9 := s9) (s10 := s10) (s11 := s11) (s12 := s12) (s13 := s13)
      simp [d_law, m_eq, callD_frz, dr, asgT, p100, p101, p102, p105, t0, t1, ad1, ad2, ss, q1, q2, t2, s0, T, -List.map_map, -List.map_append]
    · have T := fun (s2 s5 s6 s7 s8 s9 s10 s11 s12 s13) => mid_run hl (show b < b + 1 + x101 by omega) v l1 l6 (s2 := s2) (s5 := s5) (s6 := s6) (s7 := s7) (s8 := s8) (s9 := s9) (s10 := s10) (s11 := s11) (s12 := s12) (s13 := s13)
      simp [d_law, m_eq, callD_frz, dr, asgT, p100, p101, p102, p105, t0, t1, ad1, ad2, ss, q1, q2, T, -List.map_map, -List.map_append]
end K05
namespace K05
open PySem PySem.Spec PyProof.Rows L2 Air
theorem lookup_mem {α : Type} {x : Str} {v : α} : ∀ {l : List (Str × α)}, l.lookup x = some v → (x, v) ∈ l
  | [], h => by cases h
  | (y, u) :: r, h => by
    rw [List.lookup_cons] at h
    cases q : x == y with
    | true => rw [q] at h; cases h; rw [eq_of_beq q]; exact List.mem_cons_self
    | false => rw [q] at h; exact List.mem_cons_of_mem _ (lookup_mem h)
theorem kn_cst (x : Str) : kn x ≠ some (0, 1) := by
  intro h
  have m := lookup_mem (show knT.lookup x = some (0, 1) from h)
  simp only [knT, List.mem_cons, List.not_mem_nil, or_false, Prod.mk.injEq] at m

  rcases m with ⟨rfl, h1, h2⟩ | ⟨rfl, h1, h2⟩ | ⟨rfl, h1, h2⟩ | ⟨rfl, h1, h2⟩ | ⟨rfl, h1, h2⟩ | ⟨rfl, h1, h2⟩ <;> first | (cases h1; done) | (cases h2; done) | simp
def xcT : List Str := []
theorem kn_xc (x : Str) : kn x ≠ some (0, 3) := by
  intro h
  have m := lookup_mem (show knT.lookup x = some (0, 3) from h)
  simp only [knT, List.mem_cons, List.not_mem_nil, or_false, Prod.mk.injEq] at m
  rcases m with ⟨rfl, h1, h2⟩ | ⟨rfl, h1, h2⟩ | ⟨rfl, h1, h2⟩ | ⟨rfl, h1, h2⟩ | ⟨rfl, h1, h2⟩ | ⟨rfl, h1, h2⟩ <;> first | (cases h1; done) | (cases h2; done) | simp
theorem kn_def (x : Str) (np nd : Nat) (h : kn x = some (np, nd)) (hd : nd ≤ np) : (x = "laid" ∧ np = 3 ∧ nd = 0) ∨ (x = "_law_pick" ∧ np = 3 ∧ nd = 0) ∨ (x = "_law_names" ∧ np = 3 ∧ nd = 0) ∨ (x = "_law_drawn_rows" ∧ np = 2 ∧ nd = 0) ∨ (x = "_law_at" ∧ np = 2 ∧ nd = 0) ∨ (x = "law" ∧ np = 1 ∧ nd = 0) := by
  have m := lookup_mem (show knT.lookup x = some (np, nd) from h)
  simp only [knT, List.mem_cons, List.not_mem_nil, or_false, Prod.mk.injEq] at m
  rcases m with ⟨rfl, rfl, rfl⟩ | ⟨rfl, rfl, rfl⟩ | ⟨rfl, rfl, rfl⟩ | ⟨rfl, rfl, rfl⟩ | ⟨rfl, rfl, rfl⟩ | ⟨rfl, rfl, rfl⟩ <;> first | (exact absurd hd (by decide)) | simp
def top (i : Nat) : Stmt := PySem.Challenge.pw_airhours_k05_whole_laid.main.body.getD i (.Pass ⟨0, 0, 0, 0⟩)
def N_laid : List Str := ["rows", "begin", "end", "made", "row"]
def p_laid : List Str := ["rows", "begin", "end"]
def D_laid : He.DefD := ⟨("laid", none), "laid", "laid", defArgs (top 1), defBody (top 1), defScope (top 1), [], []⟩
theorem c_laid : chkB (knB false kn) (fun _ => true) m_laid (defScope (top 1)) N_laid (defBody (top 1)) = true := by decide +kernel
theorem s_laid : FnScope N_laid p_laid (defScope (top 1)) := ⟨rfl, rfl, rfl, by decide +kernel, by decide +kernel, by decide +kernel, by decide +kernel⟩
def N__law_pick : List Str := ["_law_script", "_law_k", "_law_many", "_law_cell", "_law_rest", "_law_turn", "_law_drawn"]
def p__law_pick : List Str := ["_law_script", "_law_k", "_law_many"]
def D__law_pick : He.DefD := ⟨("_law_pick", none), "_law_pick", "_law_pick", defArgs (top 3), defBody (top 3), defScope (top 3), [], []⟩
theorem c__law_pick : chkB (knB false kn) (fun _ => true) m__law_pick (defScope (top 3)) N__law_pick (defBody (top 3)) = true := by decide +kernel
theorem s__law_pick : FnScope N__law_pick p__law_pick (defScope (top 3)) := ⟨rfl, rfl, rfl, by decide +kernel, by decide +kernel, by decide +kernel, by decide +kernel⟩
def N__law_names : List Str := ["_law_script", "_law_at_here", "_law_many", "_law_letters", "_law_made", "_law_k", "_law_rest", "_law_j", "_law_mark"]
def p__law_names : List Str := ["_law_script", "_law_at_here", "_law_many"]
def D__law_names : He.DefD := ⟨("_law_names", none), "_law_names", "_law_names", defArgs (top 4), defBody (top 4), defScope (top 4), [], []⟩
theorem c__law_names : chkB (knB false kn) (fun _ => true) m__law_names (defScope (top 4)) N__law_names (defBody (top 4)) = true := by decide +kernel
theorem s__law_names : FnScope N__law_names p__law_names (defScope (top 4)) := ⟨rfl, rfl, rfl, by decide +kernel, by decide +kernel, by decide +kernel, by decide +kernel⟩
def N__law_drawn_rows : List Str := ["_law_script", "_law_at_here", "_law_names_here", "_law_made", "_law_hour", "_law_k", "_law_begin", "_law_end"]
def p__law_drawn_rows : List Str := ["_law_script", "_law_at_here"]
def D__law_drawn_rows : He.DefD := ⟨("_law_drawn_rows", none), "_law_drawn_rows", "_law_drawn_rows", defArgs (top 5), defBody (top 5), defScope (top 5), [], []⟩
theorem c__law_drawn_rows : chkB (knB false kn) (fun _ => true) m__law_drawn_rows (defScope (top 5)) N__law_drawn_rows (defBody (top 5)) = true := by decide +kernel
theorem s__law_drawn_rows : FnScope N__law_drawn_rows p__law_drawn_rows (defScope (top 5)) := ⟨rfl, rfl, rfl, by decide +kernel, by decide +kernel, by decide +kernel, by decide +kernel⟩
def N__law_at : List Str := ["_law_rows", "_law_hour", "_law_some", "_law_row"]
def p__law_at : List Str := ["_law_rows", "_law_hour"]
def D__law_at : He.DefD := ⟨("_law_at", none), "_law_at", "_law_at", defArgs (top 6), defBody (top 6), defScope (top 6), [], []⟩
theorem c__law_at : chkB (knB false kn) (fun _ => true) m__law_at (defScope (top 6)) N__law_at (defBody (top 6)) = true := by decide +kernel
theorem s__law_at : FnScope N__law_at p__law_at (defScope (top 6)) := ⟨rfl, rfl, rfl, by decide +kernel, by decide +kernel, by decide +kernel, by decide +kernel⟩
def N_law : List Str := ["_law_script", "_law_rows", "_law_names_here", "_law_begin", "_law_end", "_law_edges", "_law_row", "_law_k", "_law_one", "_law_longest", "_law_kept", "_law_told", "_law_hour", "_law_due"]
def p_law : List Str := ["_law_script"]
def D_law : He.DefD := ⟨("law", none), "law", "law", defArgs (top 7), defBody (top 7), defScope (top 7), [], []⟩
theorem c_law : chkB (knB false kn) (fun _ => true) m_law (defScope (top 7)) N_law (defBody (top 7)) = true := by decide +kernel
theorem s_law : FnScope N_law p_law (defScope (top 7)) := ⟨rfl, rfl, rfl, by decide +kernel, by decide +kernel, by decide +kernel, by decide +kernel⟩
def fn : List He.DefD := [D_laid, D__law_pick, D__law_names, D__law_drawn_rows, D__law_at, D_law]
def tf : List He.Defn := []
def fa : List He.Fa := [.glo "laid", .glo "_law_pick", .glo "_law_names", .glo "_law_drawn_rows", .glo "_law_at", .glo "law", .free "len", .free "all", .free "any", .free "sorted", .free "list", .free "tuple", .free "min", .free "max", .free "int", .free "str", .free "divmod", .free "dict", .free "sum", .free "isinstance", .free "range", .free "enumerate", .free "zip", .free "set", .free "bool"]
def ex (K : PySem.W.Frag) : Bool := true
abbrev R : PySem.W.OpenRow := PySem.W.OpenLaw.row PySem.Challenge.rw_airhours_k05_whole_laid
abbrev hk : PySem.W.Hook := He.hookX 4 fa fn [] tf ex
def ob (s : PySem.W.SharedT) : He.AlX := He.obsX 4 fa fn [] tf ex (HandSHeadRun.getT s)
theorem ob_eq (s : PySem.W.SharedT) : ob s = hk.obs s.abs := He.obsX_eq (HandSHeadRun.getT_eq s)
def loose : List Str := .cons "laid" (.cons "_law_pick" (.cons "_law_names" (.cons "_law_drawn_rows" (.cons "_law_at" (.nil)))))
theorem run (w : World) : HandSHeadRun.RunEq R (PySem.W.view R.prog [7]) hk ob 20000 loose w := by
  intro os
  kernel_rfl
section
variable {K : PySem.W.Frag} {h : Heap} {mg : Str → Option Value}
theorem modOk (X : K.In h) (G : h.Ns mainGlobals mg) (c : He.SaysD fa fn K) (cx : ex K = true) : letI : Kf := ⟨K⟩; ModOk Γ kn mg (tf.map (He.cT K)) (tbOf K tf) := by
  letI : Kf := ⟨K⟩
  refine ⟨?_, ?_, ?_, ?_, ?_⟩
  · intro x hx
    simp only [List.mem_cons, List.not_mem_nil, or_false] at hx
    rcases hx with rfl | rfl | rfl | rfl | rfl | rfl | rfl | rfl | rfl | rfl | rfl | rfl | rfl | rfl | rfl | rfl | rfl | rfl | rfl
    · exact He.free_ok X G (c.fact 6 (f := .free "len") rfl)
    · exact He.free_ok X G (c.fact 7 (f := .free "all") rfl)
    · exact He.free_ok X G (c.fact 8 (f := .free "any") rfl)
    · exact He.free_ok X G (c.fact 9 (f := .free "sorted") rfl)
    · exact He.free_ok X G (c.fact 10 (f := .free "list") rfl)
    · exact He.free_ok X G (c.fact 11 (f := .free "tuple") rfl)
    · exact He.free_ok X G (c.fact 12 (f := .free "min") rfl)
    · exact He.free_ok X G (c.fact 13 (f := .free "max") rfl)
    · exact He.free_ok X G (c.fact 14 (f := .free "int") rfl)
    · exact He.free_ok X G (c.fact 15 (f := .free "str") rfl)
    · exact He.free_ok X G (c.fact 16 (f := .free "divmod") rfl)
    · exact He.free_ok X G (c.fact 17 (f := .free "dict") rfl)
    · exact He.free_ok X G (c.fact 18 (f := .free "sum") rfl)
    · exact He.free_ok X G (c.fact 19 (f := .free "isinstance") rfl)
    · exact He.free_ok X G (c.fact 20 (f := .free "range") rfl)
    · exact He.free_ok X G (c.fact 21 (f := .free "enumerate") rfl)
    · exact He.free_ok X G (c.fact 22 (f := .free "zip") rfl)
    · exact He.free_ok X G (c.fact 23 (f := .free "set") rfl)
    · exact He.free_ok X G (c.fact 24 (f := .free "bool") rfl)
  · intro x hx
    exact absurd hx (kn_cst x)
  · intro x hx
    exact absurd hx (kn_xc x)
  · exact fun hx => absurd hx (by decide +kernel)
  · intro x np nd hx hd
    rcases kn_def x np nd hx hd with ⟨rfl, rfl, rfl⟩ | ⟨rfl, rfl, rfl⟩ | ⟨rfl, rfl, rfl⟩ | ⟨rfl, rfl, rfl⟩ | ⟨rfl, rfl, rfl⟩ | ⟨rfl, rfl, rfl⟩
    · obtain ⟨fd, F⟩ := c.def_ 0 (d := D_laid) rfl
      have b : Binds K fd p_laid [] := FunD.bindsN (ps := p_laid) F fun _ _ _ _ _ _ us hl => match us, hl with | [_, _, _], _ => rfl
      exact ⟨d_laid, He.ga K "laid", fd, N_laid, p_laid, [], [], rfl, rfl, rfl, ⟨He.glo_ok X G (c.fact 0 (f := .glo "laid") rfl), ⟨_, _, _, _, _, fun _ => true, false, F, s_laid, c_laid, fun h => nomatch h⟩, rfl, rfl, .nil, Nat.zero_le _, rfl, fun m hm => ⟨[], b, by rw [List.drop_nil]; exact .nil⟩⟩⟩
    · obtain ⟨fd, F⟩ := c.def_ 1 (d := D__law_pick) rfl
      have b : Binds K fd p__law_pick [] := FunD.bindsN (ps := p__law_pick) F fun _ _ _ _ _ _ us hl => match us, hl with | [_, _, _], _ => rfl
      exact ⟨d__law_pick, He.ga K "_law_pick", fd, N__law_pick, p__law_pick, [], [], rfl, rfl, rfl, ⟨He.glo_ok X G (c.fact 1 (f := .glo "_law_pick") rfl), ⟨_, _, _, _, _, fun _ => true, false, F, s__law_pick, c__law_pick, fun h => nomatch h⟩, rfl, rfl, .nil, Nat.zero_le _, rfl, fun m hm => ⟨[], b, by rw [List.drop_nil]; exact .nil⟩⟩⟩
    · obtain ⟨fd, F⟩ := c.def_ 2 (d := D__law_names) rfl
      have b : Binds K fd p__law_names [] := FunD.bindsN (ps := p__law_names) F fun _ _ _ _ _ _ us hl => match us, hl with | [_, _, _], _ => rfl
      exact ⟨d__law_names, He.ga K "_law_names", fd, N__law_names, p__law_names, [], [], rfl, rfl, rfl, ⟨He.glo_ok X G (c.fact 2 (f := .glo "_law_names") rfl), ⟨_, _, _, _, _, fun _ => true, false, F, s__law_names, c__law_names, fun h => nomatch h⟩, rfl, rfl, .nil, Nat.zero_le _, rfl, fun m hm => ⟨[], b, by rw [List.drop_nil]; exact .nil⟩⟩⟩
    · obtain ⟨fd, F⟩ := c.def_ 3 (d := D__law_drawn_rows) rfl
      have b : Binds K fd p__law_drawn_rows [] := FunD.bindsN (ps := p__law_drawn_rows) F fun _ _ _ _ _ _ us hl => match us, hl with | [_, _], _ => rfl
      exact ⟨d__law_drawn_rows, He.ga K "_law_drawn_rows", fd, N__law_drawn_rows, p__law_drawn_rows, [], [], rfl, rfl, rfl, ⟨He.glo_ok X G (c.fact 3 (f := .glo "_law_drawn_rows") rfl), ⟨_, _, _, _, _, fun _ => true, false, F, s__law_drawn_rows, c__law_drawn_rows, fun h => nomatch h⟩, rfl, rfl, .nil, Nat.zero_le _, rfl, fun m hm => ⟨[], b, by rw [List.drop_nil]; exact .nil⟩⟩⟩
    · obtain ⟨fd, F⟩ := c.def_ 4 (d := D__law_at) rfl
      have b : Binds K fd p__law_at [] := FunD.bindsN (ps := p__law_at) F fun _ _ _ _ _ _ us hl => match us, hl with | [_, _], _ => rfl
      exact ⟨d__law_at, He.ga K "_law_at", fd, N__law_at, p__law_at, [], [], rfl, rfl, rfl, ⟨He.glo_ok X G (c.fact 4 (f := .glo "_law_at") rfl), ⟨_, _, _, _, _, fun _ => true, false, F, s__law_at, c__law_at, fun h => nomatch h⟩, rfl, rfl, .nil, Nat.zero_le _, rfl, fun m hm => ⟨[], b, by rw [List.drop_nil]; exact .nil⟩⟩⟩
    · obtain ⟨fd, F⟩ := c.def_ 5 (d := D_law) rfl
      have b : Binds K fd p_law [] := FunD.bindsN (ps := p_law) F fun _ _ _ _ _ _ us hl => match us, hl with | [_], _ => rfl
      exact ⟨d_law, He.ga K "law", fd, N_law, p_law, [], [], rfl, rfl, rfl, ⟨He.glo_ok X G (c.fact 5 (f := .glo "law") rfl), ⟨_, _, _, _, _, fun _ => true, false, F, s_law, c_law, fun h => nomatch h⟩, rfl, rfl, .nil, Nat.zero_le _, rfl, fun m hm => ⟨[], b, by rw [List.drop_nil]; exact .nil⟩⟩⟩
theorem lawOk (X : K.In h) (G : h.Ns mainGlobals mg) (c : He.SaysD fa fn K) (cx : ex K = true) : letI : Kf := ⟨K⟩; ∃ fd, DefOk kn mg (tf.map (He.cT K)) (tbOf K tf) "law" (He.ga K "law") fd N_law p_law [] [] d_law ∧ ∀ (s : Shared) (u : Value), BindsTo s fd ⟨[u], []⟩ [("_law_script", u)] := by
  letI : Kf := ⟨K⟩
  obtain ⟨fd, F⟩ := c.def_ 5 (d := D_law) rfl
  have b : Binds K fd p_law [] := FunD.bindsN (ps := p_law) F fun _ _ _ _ _ _ us hl => match us, hl with | [_], _ => rfl
  have b2 := FunD.bindsA (ps := p_law) F fun _ _ _ _ _ _ us hl => match us, hl with | [_], _ => rfl
  exact ⟨fd, ⟨He.glo_ok X G (c.fact 5 (f := .glo "law") rfl), ⟨_, _, _, _, _, fun _ => true, false, F, s_law, c_law, fun h => nomatch h⟩, rfl, rfl, .nil, Nat.zero_le _, rfl, fun m hm => ⟨[], b, by rw [List.drop_nil]; exact .nil⟩⟩, fun s u => b2 s [u] rfl⟩
end
end K05
open PySem PySem.W PySem.Calls PyProof.Rows
theorem K05.end_of (plain : ∀ ns : List Int, ns.length ≤ 63 → ∃ J, Air.bodyN K05.Γ 24 K05.d_law false [.scr ns] [] = .ok (.val (.bl true)) J) : PySem.Challenge.rw_airhours_k05_whole_laid.Holds := by
  w_on; o_law
  refine HandSHeadRun.head_any (r := OpenLaw.row PySem.Challenge.rw_airhours_k05_whole_laid) (q := view (OpenLaw.row PySem.Challenge.rw_airhours_k05_whole_laid).prog [7]) (H := K05.hk) (ob := K05.ob) (M := 20000) (loose := K05.loose) (d := HandSHeadRun.topDef (OpenLaw.row PySem.Challenge.rw_airhours_k05_whole_laid).prog 7) (kwd := []) K05.ob_eq
    (by kernel_rfl) (fun s => by kernel_rfl) K05.run (by kernel_rfl) (by kernel_rfl) (by kernel_rfl) (by rfl) (by first | assumption | decide +kernel) (by decide +kernel) ⟨rfl, rfl, rfl, rfl, rfl, by decide +kernel⟩ ?hw ?hc
  case hw => w_witness2
  case hc =>
    refine LamX.walk_ofTsE (l := PySem.Challenge.rw_airhours_k05_whole_laid) (n := 63) (k := 4 * (24 + 1)) (x := "_law_script") (CX := fun _ => L2.CX0) rfl (by decide) (by kernel_rfl) ⟨rfl, by decide, by decide⟩ ?F (fun _ _ _ _ _ z => z)
    intro w mg fa h Y G hmg0
    obtain ⟨K, KX, c⟩ := Y
    have hmg : mg ("law" : PySem.Str) = some (.ref fa) := by
      have e : (HandSHeadRun.topDef (OpenLaw.row PySem.Challenge.rw_airhours_k05_whole_laid).prog 7).name = ("law" : PySem.Str) := by kernel_rfl
      rw [← e]
      exact hmg0
    letI : Air.Kf := ⟨K⟩
    have m : Air.ModOk K05.Γ K05.kn mg _ _ := K05.modOk KX G c.t.d c.more
    obtain ⟨fd, D, hb⟩ := K05.lawOk KX G c.t.d c.more
    have e := hmg.symm.trans D.at_
    cases e
    refine ⟨K, KX, fd, K05.tf.map (He.cT K), _, Air.tabs_empty c, Air.tabs_out c, Air.tabs_hd KX c, hb, fun H a ns hl _ hH hS => ?_, fun base _ _ hT => Air.law_ok (P := (PySem.Challenge.rw_airhours_k05_whole_laid).prog) (w := w) (base := base) (c := ⟨0, Air.tbOf K K05.tf⟩) (n := 24) m hT D⟩
    obtain ⟨J, hp⟩ := plain ns hl
    exact Air.law_sp hp (Air.tabs_at hH) hS
theorem PySem.Challenge.cw_airhours_k05_whole_laid_holds : PySem.Challenge.rw_airhours_k05_whole_laid.Holds :=
  K05.end_of K05.plain
