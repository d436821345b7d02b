import PyProof.Rows.All
import Wide.All
import OpenK.AllK
import Wide.FinOn
import HandS.ForMost
import HandS.Wide
import KE.KSortTupG
import HandS.Lambda
import HandS.IsInst
import HandS.Walk
import HandS.ExcCtx
import HandS.CallSlots
import HandS.HotCalls
import HandS.SetFor
import KE.KExcIs
import HandS.HeadHook4
import HandS.Style
import KE.KDictCopyH
import KE.KDictOf
import HandS.SortInts
import HandS.TupSets
import HandS.Defaults
import HandS.MakeKw
import HandS.NoneIn
import HandS.Zip
import KE.DataMinMax
import HandS.SortKw
import HandS.CallRecv
import KE.KDictList
import HandS.SuiteRaise
import HandS.RaiseFrom
import HandS.RaiseOp
import HandS.ExcBuiltin
import HandS.HeadEnd
import HandS.HeadWalk
import KE.KNestM
import KE.KStateDown
import Lean
import HandS.Head0
import HandS.Head1
import HandS.Head2
import HandS.HeadHook1
import HandS.HeadHook2
import HandS.HeadHook3
import PySem.Challenge.RW_airhours_k11_stations_refused
set_option Elab.async false
set_option linter.all false
set_option maxRecDepth 100000
set_option maxHeartbeats 0
/-! Air: a small language of terms and blocks, evaluated over values without addresses. -/
namespace Air
open PySem L2

abbrev Ky := Sum Int Str
/-- values: what stands still has no address; an instance has a number -/
inductive D where
  | non | bl (b : Bool) | int (i : Int) | str (z : Str)
  | tup (xs : List D) | lst (xs : List D)
  | dK (ks : List Ky) (vs : List D) | dT (ks : List (List Ky)) (vs : List D)
  | scr (ns : List Int) | ins (k : Nat)
  deriving Inhabited
/-- what a name, an attribute holds: nothing, a value, a container of its own -/
inductive Sl where
  | no | val (d : D) | lst (xs : List D) | dK (ks : List Ky) (vs : List D) | dT (ks : List (List Ky)) (vs : List D)
  deriving Inhabited
abbrev Ob := List (Str × Sl)
abbrev Is := List Ob
abbrev Fr := List Sl
structure Ex where
  cls : Str
  fs : List (Str × D)
/-- how a value lies: still; in a name's own container; in an instance's; new; written at the top -/
inductive Kd where
  | fro | own | inst | new | cst
  deriving DecidableEq, Inhabited
inductive R (α : Type) where
  | ok (a : α) (I : Is) | exc (x : Ex) (I : Is) | bad
def R.bind {α β : Type} (r : R α) (f : α → Is → R β) : R β := match r with
  | .ok a I => f a I
  | .exc x I => .exc x I
  | .bad => .bad
inductive Xr where
  | nx (fr : Fr) (I : Is) | rt (r : Sl) (I : Is) | bk (fr : Fr) (I : Is) | ct (fr : Fr) (I : Is) | exc (x : Ex) (fr : Fr) (I : Is) | bad
def R.stm {α : Type} (r : R α) (fr : Fr) (f : α → Is → Xr) : Xr := match r with
  | .ok a I => f a I
  | .exc x I => .exc x fr I
  | .bad => .bad

inductive Cs where
  | non | bl (b : Bool) | int (i : Int) | str (z : Str)
  deriving DecidableEq
def Cs.d : Cs → D
  | .non => .non
  | .bl b => .bl b
  | .int i => .int i
  | .str z => .str z
def Cs.v : Cs → V
  | .non => .non
  | .bl b => .bl b
  | .int i => .int i
  | .str z => .str z
/-- a method's, a field's name in the table -/
def mkey (m : Str) : Str := ("House." : Str) ++ m
def fkey (m : Str) : Str := ("House:" : Str) ++ m
def mkB (x : Str) : Bool := decide (x.cps.toList.take 6 = ("House." : Str).cps.toList)
/-- the table of calls with keywords -/
abbrev Kwt := Str → Nat → List Str → Option (List (Sum Nat Cs))
inductive Bo where
  | add | sub | mul | fdiv | md | pow
  deriving DecidableEq
inductive Co where
  | eq | ne | lt | le | gt | ge | inn | nin
  deriving DecidableEq
/-- built-in functions by name -/
inductive Bi where
  | len | all | any | sorted | list | tuple | min1 | max1 | min2 | max2 | minD | int | str | divmod | dict | sum | sset
  deriving DecidableEq
inductive Tg where
  | nm (i : Nat) | tp (is : List Nat)
  deriving DecidableEq
inductive Tm where
  | cns (c : Cs) | loc (i : Nat) | gk (x : Str)
  | nil | cons (a b : Tm)
  | bin (o : Bo) (a b : Tm) | neg (a : Tm)
  | cmp (o : Co) (a b : Tm) | isn (ng : Bool) (a : Tm) | isb (ng k : Bool) (a : Tm)
  | ch2 (o1 o2 : Co) (a b c : Tm) | ch3 (o1 o2 o3 : Co) (a b c d : Tm)
  | and (a b : Tm) | or (a b : Tm) | not (a : Tm) | ite (c a b : Tm)
  | tup (es : Tm) | lst (es : Tm)
  | sub (a i : Tm) | slc (a lo hi : Tm) | rev (a : Tm)
  | call (x : Str) (es : Tm)
  | blt (f : Bi) (es : Tm)
  | isi (a : Tm) (ks : List Str)
  | lc (own : List (Str × Nat)) (elt : Tm) (tg : Tg) (it : Tm) (cond : Tm)
  | rng1 (a : Tm) | rng2 (a b : Tm) | enm (a : Tm) | zp (a b : Tm)
  | told (e : Tm)
  | fld (a : Tm) (x : Str)
  | meth (a : Tm) (m x : Str) (es : Tm)
  | callK (x : Str) (n : Nat) (ks : List Str) (pm : List (Sum Nat Cs)) (es : Tm)
  | methK (a : Tm) (m x : Str) (n : Nat) (ks : List Str) (pm : List (Sum Nat Cs)) (es : Tm)
  | new
  | dnew (t : Bool)
  | disp (ks : List Str) (vs : Tm)
  | get2 (a k d : Tm)
  | vals (a : Tm)
  | lcD (own : List (Str × Nat)) (elt : Tm) (tg : Tg) (a : Tm) (cond : Tm)
/-- statements; a block is a row of them -/
inductive Sm where
  | nil | cons (s rest : Sm)
  | pass
  | asg (i : Nat) (e : Tm) | own (i : Nat) (e : Tm)
  | par (tg : List (Nat × Bool)) (es : Tm)
  | unp (tg : List Nat) (e : Tm)
  | app (i : Nat) (e : Tm) | ext (i : Nat) (e : Tm) | rem (i : Nat) (e : Tm)
  | expr (e : Tm)
  | iff (c : Tm) (a b : Sm)
  | for (tg : Tg) (it : Tm) (body : Sm)
  | forR (tg : Tg) (it : Tm) (c : Tm) (r : Cs)
  | whl (fuel : Nat) (c : Tm) (body : Sm)
  | ret (e : Tm) | retOwn (i : Nat) | bk | ct
  | frz (i : Nat)
  | rais (c : Str)
  | fset (i : Nat) (x : Str) (e : Tm)
  | fapp (i : Nat) (x : Str) (e : Tm)
  | fput (i : Nat) (x : Str) (k v : Tm)
  | put (i : Nat) (k v : Tm)
  | put2 (i : Nat) (k a k2 v : Tm)
  | getOr (a k : Tm) (c : Str)
  | raisF (c : Str) (fs : List Str) (pm : List Nat) (es : Tm)
  | forD (tg : Tg) (a : Tm) (body : Sm)

/-! ### operations on values -/
def lim : Nat := 16777216
def D.isFlat : D → Bool
  | .non | .bl _ | .int _ | .str _ => true
  | _ => false
mutual
/-- no list, no dict, no instance within -/
def D.still : D → Bool
  | .non | .bl _ | .int _ | .str _ => true
  | .tup xs => D.stills xs
  | _ => false
def D.stills : List D → Bool
  | [] => true
  | x :: xs => D.still x && D.stills xs
end
mutual
def D.py : D → PyData
  | .non => .none
  | .bl b => .bool b
  | .int i => .int i
  | .str z => .str z
  | .tup xs => .tuple (D.pys xs)
  | .lst xs => .list (D.pys xs)
  | .scr ns => .list (ns.map PyData.int)
  | .dK _ _ | .dT _ _ | .ins _ => .dict []
def D.pys : List D → List PyData
  | [] => []
  | x :: xs => D.py x :: D.pys xs
end
mutual
/-- may be compared by == -/
def D.eqc : D → Bool
  | .non | .bl _ | .int _ | .str _ => true
  | .tup xs => D.eqcs xs
  | .lst xs => D.eqcs xs
  | .scr _ => true
  | .dK _ _ | .dT _ _ | .ins _ => false
def D.eqcs : List D → Bool
  | [] => true
  | x :: xs => D.eqc x && D.eqcs xs
end
mutual
def D.dep : D → Nat
  | .tup xs => D.deps xs + 1
  | .lst xs => D.deps xs + 1
  | .scr _ => 2
  | _ => 1
def D.deps : List D → Nat
  | [] => 0
  | x :: xs => max (D.dep x) (D.deps xs)
end
def D.pyeq (a b : D) : Bool := PyData.eqv a.py b.py
def small (i : Int) : Bool := decide (-18446744073709551616 < i) && decide (i < 18446744073709551616)
def binD (o : Bo) (a b : D) (I : Is) : R (D × Kd) := match o, a, b with
  | .add, .int i, .int j => .ok (.int (i + j), .fro) I
  | .add, .str x, .str y => bif decide (x.length + y.length ≤ lim) then .ok (.str (x ++ y), .fro) I else .bad
  | .add, .lst x, .lst y => bif decide (x.length + y.length ≤ lim) then .ok (.lst (x ++ y), .new) I else .bad
  | .add, .tup x, .tup y => bif !x.isEmpty && !y.isEmpty && decide (x.length + y.length ≤ lim) then .ok (.tup (x ++ y), .fro) I else .bad
  | .sub, .int i, .int j => .ok (.int (i - j), .fro) I
  | .mul, .int i, .int j => bif small i || small j then .ok (.int (i * j), .fro) I else .bad
  | .mul, .lst x, .int j => bif decide (0 ≤ j) && decide (j < 1000000) && decide (x.length * j.toNat ≤ lim) then .ok (.lst (List.replicate j.toNat x).flatten, .new) I else .bad
  | .fdiv, .int i, .int j => bif decide (0 < j) && small j then .ok (.int (i / j), .fro) I else .bad
  | .md, .int i, .int j => bif decide (0 < j) then .ok (.int (i % j), .fro) I else .bad
  | .pow, .int i, .int j => bif small i && decide (0 ≤ j) && decide (j ≤ 1000000) then .ok (.int (i ^ j.toNat), .fro) I else .bad
  | _, _, _ => .bad
def b2 (b : Bool) (I : Is) : R (D × Kd) := .ok (.bl b, .fro) I
def D.flats (xs : List D) : Bool := xs.all D.isFlat
/-- x in xs, flat things -/
def inD (x : D) (xs : List D) : Bool := xs.any fun y => D.pyeq y x
/-- a text of one sign -/
def sgnD (x : Str) : Option Nat := match x with
  | ⟨⟨l⟩⟩ => match l with
    | [c] => some c
    | _ => none
/-! dicts -/
def kyOk : Ky → Bool
  | .inl _ => true
  | .inr z => PyData.strOk z
def kysOk (k : List Ky) : Bool := k.all kyOk
def ky1 : D → Option Ky
  | .int i => some (.inl i)
  | .str z => some (.inr z)
  | _ => none
def kyL : List D → Option (List Ky)
  | [] => some []
  | d :: r => match ky1 d, kyL r with
    | some k, some ks => some (k :: ks)
    | _, _ => none
def kyT : D → Option (List Ky)
  | .tup xs => kyL xs
  | _ => none
def getV {κ : Type} [DecidableEq κ] : List κ → List D → κ → Option D
  | k :: ks, v :: vs, j => bif decide (k = j) then some v else getV ks vs j
  | _, _, _ => none
def putKs {κ : Type} [DecidableEq κ] (ks : List κ) (k : κ) : List κ := bif ks.any (fun j => decide (j = k)) then ks else ks ++ [k]
def repV {κ : Type} [DecidableEq κ] (k : κ) (v : D) : List κ → List D → List D
  | j :: ks, w :: vs => (bif decide (j = k) then v else w) :: repV k v ks vs
  | _, _ => []
def putVs {κ : Type} [DecidableEq κ] (ks : List κ) (vs : List D) (k : κ) (v : D) : List D := bif ks.any (fun j => decide (j = k)) then repV k v ks vs else vs ++ [v]
/-- what a dict holds at a key -/
def lookD (a k : D) : Option (Option D) := match a with
  | .dK ks vs => (ky1 k).map (getV ks vs)
  | .dT ks vs => (kyT k).map (getV ks vs)
  | _ => none
def isDc : D → Bool
  | .dK _ _ => true
  | .dT _ _ => true
  | _ => false
def inDD (a b : D) : Option Bool := match b with
  | .str z => (match a with
    | .str x => (match sgnD x with
      | some c => some (decide (c ∈ z.cps.toList))
      | none => none)
    | _ => none)
  | .lst ys => bif D.isFlat a && D.flats ys then some (inD a ys) else bif D.eqc a && D.eqcs ys && decide (D.dep a ≤ 60) then some (inD a ys) else none
  | .tup ys => bif D.isFlat a && D.flats ys then some (inD a ys) else none
  | .dK ks vs => (lookD (.dK ks vs) a).map (·.isSome)
  | .dT ks vs => (lookD (.dT ks vs) a).map (·.isSome)
  | _ => none
def cmpD (o : Co) (a b : D) (I : Is) : R (D × Kd) := match o with
  | .eq => bif D.eqc a && D.eqc b && decide (min a.dep b.dep ≤ 64) then b2 (D.pyeq a b) I else .bad
  | .ne => bif D.eqc a && D.eqc b && decide (min a.dep b.dep ≤ 64) then b2 (!D.pyeq a b) I else .bad
  | .lt => (match a, b with
    | .int i, .int j => b2 (decide (i < j)) I
    | _, _ => .bad)
  | .le => (match a, b with
    | .int i, .int j => b2 (decide (i ≤ j)) I
    | _, _ => .bad)
  | .gt => (match a, b with
    | .int i, .int j => b2 (decide (j < i)) I
    | _, _ => .bad)
  | .ge => (match a, b with
    | .int i, .int j => b2 (decide (j ≤ i)) I
    | _, _ => .bad)
  | .inn => (match inDD a b with
    | some k => b2 k I
    | none => .bad)
  | .nin => (match inDD a b with
    | some k => b2 (!k) I
    | none => .bad)

/-- an item by its place, from behind where it is less than 0 -/
def subD (a i : D) (k : Kd) (I : Is) : R (D × Kd) := match a, i with
  | .lst xs, .int j => (match atI xs j with
    | some d => .ok (d, .fro) I
    | none => .bad)
  | .tup xs, .int j => (match atI xs j with
    | some d => bif decide (k = .cst) then .bad else .ok (d, .fro) I
    | none => .bad)
  | .scr ns, .int j => (match atI ns j with
    | some d => .ok (.int d, .fro) I
    | none => .bad)
  | .str z, .int j => bif decide (z.length ≤ lim) then (match atI z.cps.toList j with
    | some c => .ok (.str ⟨#[c]⟩, .fro) I
    | none => .bad) else .bad
  | .dK ks vs, i => (match lookD (.dK ks vs) i with
    | some (some d) => .ok (d, .fro) I
    | _ => .bad)
  | .dT ks vs, i => (match lookD (.dT ks vs) i with
    | some (some d) => .ok (d, .fro) I
    | _ => .bad)
  | _, _ => .bad
/-- places of a cut -/
def cutI (n d : Nat) : Option Int → Nat := HT.sIx n d
def cutD (xs : List D) (lo hi : Option Int) : List D := (xs.drop (HT.sIx xs.length 0 lo)).take (HT.sIx xs.length xs.length hi - HT.sIx xs.length 0 lo)
def slcD (a : D) (k : Kd) (lo hi : Option Int) (I : Is) : R (D × Kd) := match a with
  | .lst xs => .ok (.lst (cutD xs lo hi), .new) I
  | .tup xs => bif decide (k = .cst) || decide (HT.sIx xs.length 0 lo = 0 ∧ HT.sIx xs.length xs.length hi = xs.length) then .bad else .ok (.tup (cutD xs lo hi), .fro) I
  | .str z => bif decide (z.length ≤ lim) then .ok (.str (cutS z lo hi), .fro) I else .bad
  | _ => .bad
def isiD : D → Str → Option Bool
  | .ins _, _ => none
  | .dT _ _, _ => none
  | d, k => bif decide (k = "int") then some (match d with | .int _ => true | .bl _ => true | _ => false)
    else bif decide (k = "bool") then some (match d with | .bl _ => true | _ => false)
    else bif decide (k = "str") then some (match d with | .str _ => true | _ => false)
    else bif decide (k = "tuple") then some (match d with | .tup _ => true | _ => false)
    else bif decide (k = "list") then some (match d with | .lst _ => true | .scr _ => true | _ => false)
    else none
def intsD : List D → Option (List Int)
  | [] => some []
  | .int i :: r => (intsD r).map (i :: ·)
  | _ :: _ => none
def strsD : List D → Option (List Str)
  | [] => some []
  | .str i :: r => (strsD r).map (i :: ·)
  | _ :: _ => none
def blsD : List D → Option (List Bool)
  | [] => some []
  | .bl i :: r => (blsD r).map (i :: ·)
  | _ :: _ => none
/-! ### order -/
abbrev Ik := Sum Int (List Nat)
def ltK (a b : List Ik) : Bool := PyProof.Rows.lexLt PyProof.Rows.itemOrd a b
def ikD : D → Option Ik
  | .int i => some (.inl i)
  | .str z => some (.inr z.cps.toList)
  | _ => none
def iksD : List D → Option (List Ik)
  | [] => some []
  | d :: r => match ikD d, iksD r with
    | some k, some ks => some (k :: ks)
    | _, _ => none
def D.key : D → List Ik
  | .tup xs => (iksD xs).getD []
  | d => (ikD d).toList
def D.le (a b : D) : Bool := !ltK b.key a.key
def insD (x : D) : List D → List D
  | [] => [x]
  | y :: r => bif D.le x y then x :: y :: r else y :: insD x r
def sortD : List D → List D
  | [] => []
  | x :: r => insD x (sortD r)
def isStr : Ik → Bool
  | .inl _ => false
  | .inr _ => true
def D.shape : D → Option (List Bool)
  | .tup xs => (iksD xs).map (·.map isStr)
  | _ => none
/-- all whole numbers, or all texts, or all tuples of such, alike -/
def sortT : List D → Bool
  | d :: ds => (match D.shape d with
    | some (_ :: _) => true
    | _ => false) && ds.all fun e => decide (D.shape e = D.shape d)
  | [] => false
def sortable (xs : List D) : Bool := (intsD xs).isSome || (strsD xs).isSome || sortT xs
def maxL : List Int → Int
  | [] => 0
  | [a] => a
  | a :: r => max a (maxL r)
def minL : List Int → Int
  | [] => 0
  | [a] => a
  | a :: r => min a (minL r)
def addU (x : Int) : List Int → List Int
  | [] => [x]
  | y :: r => bif decide (x < y) then x :: y :: r else bif decide (x = y) then y :: r else y :: addU x r
/-- the numbers, each once, rising -/
def setL : List Int → List Int
  | [] => []
  | x :: r => addU x (setL r)
def kyD : Ky → D
  | .inl i => .int i
  | .inr z => .str z
/-- the keys of a dict, as they are walked -/
def keysD : D → Option (List D)
  | .dK ks _ => some (ks.map kyD)
  | .dT ks _ => some (ks.map fun k => .tup (k.map kyD))
  | _ => none
def strKs : List Ky → Option (List Str)
  | [] => some []
  | .inr z :: r => (strKs r).map (z :: ·)
  | _ :: _ => none
/-- pairs of a key and a value -/
def pairK : List D → Option (List (Ky × D))
  | [] => some []
  | .tup [k, v] :: r => (match ky1 k, pairK r with
    | some j, some m => some ((j, v) :: m)
    | _, _ => none)
  | _ :: _ => none
def mergeD (ps : List (Ky × D)) : List Ky × List D := ps.foldl (fun a p => (putKs a.1 p.1, putVs a.1 a.2 p.1 p.2)) ([], [])
def biD (f : Bi) (as : List (D × Kd)) (I : Is) : R (D × Kd) := match f, as with
  | .len, [(.str z, _)] => bif decide (z.length ≤ lim) then .ok (.int z.length, .fro) I else .bad
  | .len, [(.lst xs, _)] => .ok (.int xs.length, .fro) I
  | .len, [(.tup xs, k)] => bif decide (k = .cst) then .bad else .ok (.int xs.length, .fro) I
  | .len, [(.scr xs, _)] => .ok (.int xs.length, .fro) I
  | .len, [(.dK ks _, _)] => .ok (.int ks.length, .fro) I
  | .dict, [(.dK ks vs, _)] => .ok (.dK ks vs, .new) I
  | .dict, [(.dT ks vs, _)] => bif decide (ks.length ≤ 1) then .ok (.dT ks vs, .new) I else .bad
  | .sorted, [(.dK ks _, _)] => (match strKs ks with
    | some zs => bif decide (zs.length < 64) then .ok (.lst (sortD (zs.map D.str)), .new) I else .bad
    | none => .bad)
  | .all, [(.lst xs, _)] => (match blsD xs with
    | some bs => .ok (.bl (bs.all id), .fro) I
    | none => .bad)
  | .any, [(.lst xs, _)] => (match blsD xs with
    | some bs => .ok (.bl (bs.any id), .fro) I
    | none => .bad)
  | .sum, [(.lst xs, _)] => (match intsD xs with
    | some ns => .ok (.int ns.sum, .fro) I
    | none => .bad)
  | .sorted, [(.lst xs, _)] => bif sortable xs then .ok (.lst (sortD xs), .new) I else .bad
  | .sset, [(.lst xs, _)] => (match intsD xs with
    | some ns => bif decide (ns.length < 64) then .ok (.lst ((setL ns).map D.int), .new) I else .bad
    | none => .bad)
  | .list, [(.lst xs, _)] => .ok (.lst xs, .new) I
  | .list, [(.tup xs, k)] => bif decide (k = .cst) then .bad else .ok (.lst xs, .new) I
  | .tuple, [(.lst xs, _)] => .ok (.tup xs, .fro) I
  | .tuple, [(.tup xs, k)] => bif decide (k = .cst) then .bad else .ok (.tup xs, .fro) I
  | .max1, [(.lst xs, _)] => (match intsD xs with
    | some (n :: ns) => .ok (.int (maxL (n :: ns)), .fro) I
    | _ => .bad)
  | .min1, [(.lst xs, _)] => (match intsD xs with
    | some (n :: ns) => .ok (.int (minL (n :: ns)), .fro) I
    | _ => .bad)
  | .minD, [(.lst xs, _), (.int d, _)] => (match intsD xs with
    | some [] => .ok (.int d, .fro) I
    | some (n :: ns) => .ok (.int (minL (n :: ns)), .fro) I
    | none => .bad)
  | .max2, [(.int a, _), (.int b, _)] => .ok (.int (max a b), .fro) I
  | .min2, [(.int a, _), (.int b, _)] => .ok (.int (min a b), .fro) I
  | .divmod, [(.int a, _), (.int b, _)] => bif decide (0 < b) && decide (b < 1000000) then .ok (.tup [.int (a / b), .int (a % b)], .fro) I else .bad
  | .int, [(.int a, _)] => .ok (.int a, .fro) I
  | .int, [(.bl b, _)] => .ok (.int (bif b then 1 else 0), .fro) I
  | _, _ => .bad

/-- the names of exceptions that can be told -/
def tellN : List Str := ["NoName", "NoDay", "NoHour", "NoMore", "NoShow", "NoSort", "NoStation", "NoRule", "Full", "Taken", "NoRights", "Settled", "TooLate", "NoRow", "NotLive", "TooLong", "NewsAhead", "Clash", "NoWish", "NoDeeds", "NoText"]
/-- what is told of what was raised -/
def tellR : R (D × Kd) → R (D × Kd)
  | .ok p I => .ok p I
  | .exc x I => bif decide (x.cls ∈ tellN) then .ok (.tup [.str "refused", .str x.cls], .fro) I else .bad
  | .bad => .bad
/-! ### names -/
def asgT : Tg → D → Fr → Option Fr
  | .nm i, d, fr => some (fr.set i (.val d))
  | .tp is, .tup ds, fr => bif decide (is.length = ds.length) then some ((is.zip ds).foldl (fun fr p => fr.set p.1 (.val p.2)) fr) else none
  | .tp is, .lst ds, fr => bif decide (is.length = ds.length) then some ((is.zip ds).foldl (fun fr p => fr.set p.1 (.val p.2)) fr) else none
  | _, _, _ => none
def wipeF (fr : Fr) (own : List (Str × Nat)) : Fr := own.foldr (fun p fr => fr.set p.2 .no) fr
/-- a value that stands still from now on -/
def frzK : D × Kd → Option D
  | (d, .fro) => some d
  | (d, .new) => some d
  | _ => none
def frzAll : List (D × Kd) → Option (List D)
  | [] => some []
  | p :: r => match frzK p, frzAll r with
    | some d, some ds => some (d :: ds)
    | _, _ => none
def R.fz {β : Type} (r : R (D × Kd)) (f : D → Is → R β) : R β := r.bind fun p I => match frzK p with
  | some d => f d I
  | none => .bad
def R.tst {β : Type} (r : R (D × Kd)) (f : Bool → Is → R β) : R β := r.bind fun p I => match p.1 with
  | .bl b => f b I
  | _ => .bad
/-- the table as it was -/
def R.reset {α : Type} (I : Is) : R α → R α
  | .ok a _ => .ok a I
  | .exc x _ => .exc x I
  | .bad => .bad
/-- a field of an instance -/
def fldD (I : Is) (k : Nat) (x : Str) : Option Sl := match I[k]? with
  | some ob => ob.lookup x
  | none => none
def noFld (I : Is) (k : Nat) (m : Str) : Bool := match I[k]? with
  | some ob => (ob.lookup m).isNone
  | none => false
def putOb (x : Str) (s : Sl) : Ob → Ob
  | [] => [(x, s)]
  | (y, t) :: r => bif decide (y = x) then (y, s) :: r else (y, t) :: putOb x s r
def setFld (I : Is) (k : Nat) (x : Str) (s : Sl) : Option Is := match I[k]? with
  | some ob => bif decide (ob.length < 100) then some (I.set k (putOb x s ob)) else none
  | none => none
/-- a slot as it is read -/
def Sl.rd : Sl → Option (D × Kd)
  | .no => none
  | .val d => some (d, .fro)
  | .lst xs => some (.lst xs, .inst)
  | .dK ks vs => some (.dK ks vs, .inst)
  | .dT ks vs => some (.dT ks vs, .inst)
/-- an item of a container of one's own -/
def ixN' (n : Nat) (i : Int) : Option Nat := bif decide (0 ≤ i) then (bif decide (i < n) then some i.toNat else none) else bif decide (0 ≤ i + n) then some (i + n).toNat else none
def putS (c : Sl) (q : D × Kd) (v : D) : Option Sl := match c with
  | .dK ks vs => (match ky1 q.1 with
    | some j => bif decide (ks.length < lim) then some (.dK (putKs ks j) (putVs ks vs j v)) else none
    | none => none)
  | .dT ks vs => (match kyT q.1 with
    | some j => bif decide (q.2 = .fro) && decide (ks.length < lim) then some (.dT (putKs ks j) (putVs ks vs j v)) else none
    | none => none)
  | .lst xs => (match q.1 with
    | .int i => (match ixN' xs.length i with
      | some j => some (.lst (xs.set j v))
      | none => none)
    | _ => none)
  | _ => none
def conS : Sl → Bool
  | .lst _ => true
  | .dK _ _ => true
  | .dT _ _ => true
  | _ => false
/-- what is written, by parameters -/
def pmD (pm : List (Sum Nat Cs)) (ps : List (D × Kd)) : Option (List (D × Kd)) := match pm with
  | [] => some []
  | .inl j :: r => (match ps[j]?, pmD r ps with
    | some p, some qs => some (p :: qs)
    | _, _ => none)
  | .inr c :: r => (pmD r ps).map ((c.d, Kd.fro) :: ·)
def pmX (pm : List Nat) (ds : List D) : Option (List D) := match pm with
  | [] => some []
  | j :: r => (match ds[j]?, pmX r ds with
    | some p, some qs => some (p :: qs)
    | _, _ => none)
/-- nothing may be raised here -/
def R.quiet {α : Type} : R α → R α
  | .exc _ _ => .bad
  | r => r
def Sl.out : Sl → Option (D × Kd)
  | .no => none
  | .val d => some (d, .fro)
  | .lst xs => some (.lst xs, .new)
  | .dK ks vs => some (.dK ks vs, .new)
  | .dT ks vs => some (.dT ks vs, .new)
def Sl.inn : D → Option Sl
  | .lst xs => some (.lst xs)
  | .dK ks vs => some (.dK ks vs)
  | .dT ks vs => some (.dT ks vs)
  | _ => none
/-- stored by a name: a new container as its own where that is wanted -/
def stoK (own : Bool) : D × Kd → Option Sl
  | (d, .fro) => some (.val d)
  | (d, .new) => bif own then Sl.inn d else some (.val d)
  | _ => none
def isInst : Kd → Bool
  | .inst => true
  | _ => false
def lcL (step : Fr → Is → R (Option D)) (tg : Tg) (fr : Fr) : List D → Is → R (List D)
  | [], I => .ok [] I
  | x :: xs, I => match asgT tg x fr with
    | none => .bad
    | some fr' => (step fr' I).bind fun o I => (lcL step tg fr xs I).bind fun ys I => .ok (o.toList ++ ys) I
def rngL (lo hi : Int) : List D := (List.range (hi - lo).toNat).map fun (k : Nat) => D.int (lo + (k : Int))
def enmL : Nat → List D → List D
  | _, [] => []
  | k, x :: xs => .tup [.int k, x] :: enmL (k + 1) xs
def zpL : List D → List D → List D
  | x :: xs, y :: ys => .tup [x, y] :: zpL xs ys
  | _, _ => []
def zpK (p q : Kd) : Option Kd := bif isInst p || isInst q then (bif decide (p = .own) || decide (q = .own) then none else some .inst) else bif decide (p = .own) || decide (q = .own) then some .own else some .fro
def big62 (i : Int) : Bool := decide (-4611686018427387904 ≤ i) && decide (i < 4611686018427387904)
section
variable (cn : Str → Option D) (cf : Str → Bool → List D → Is → R Sl)
/-- the items of what is walked, and how it lies -/
def itD : D × Kd → Option (List D × Kd)
  | (.lst xs, k) => some (xs, k)
  | (.tup xs, k) => bif decide (k = .cst) then none else some (xs, k)
  | (.scr ns, k) => some (ns.map D.int, k)
  | (.str z, k) => some (z.cps.toList.map fun c => D.str ⟨#[c]⟩, k)
  | _ => none
def callD (x : Str) (ro : Bool) (as : List (D × Kd)) (I : Is) : R (D × Kd) := match frzAll as with
  | some ds => (bif ro then (cf x true ds I).reset I else cf x false ds I).bind fun s I => (match s.out with
    | some p => .ok p I
    | none => .bad)
  | none => bif as.any (fun p => decide (p.2 = .cst) || decide (p.2 = .inst)) then .bad else (((cf x true (as.map (·.1)) I).reset I).quiet).bind fun s I => (match s with
    | .val d => bif d.still then .ok (d, .fro) I else .bad
    | _ => .bad)
mutual
def ev : Tm → Bool → Fr → Is → R (D × Kd)
  | .cns c, _, _, I => .ok (c.d, .fro) I
  | .loc i, _, fr, I => (match fr[i]? with
    | some (.val d) => .ok (d, .fro) I
    | some (.lst xs) => .ok (.lst xs, .own) I
    | some (.dK ks vs) => .ok (.dK ks vs, .own) I
    | some (.dT ks vs) => .ok (.dT ks vs, .own) I
    | _ => .bad)
  | .gk x, _, _, I => (match cn x with
    | some (.int i) => .ok (.int i, .fro) I
    | some (.str z) => .ok (.str z, .fro) I
    | some (.tup xs) => .ok (.tup xs, .cst) I
    | _ => .bad)
  | .bin o a b, ro, fr, I => (ev a ro fr I).bind fun p I => (ev b (ro || isInst p.2) fr I).bind fun q I => binD o p.1 q.1 I
  | .neg a, ro, fr, I => (ev a ro fr I).bind fun p I => (match p.1 with
    | .int i => .ok (.int (-i), .fro) I
    | _ => .bad)
  | .cmp o a b, ro, fr, I => (ev a ro fr I).bind fun p I => (ev b (ro || isInst p.2) fr I).bind fun q I => cmpD o p.1 q.1 I
  | .isn ng a, ro, fr, I => (ev a ro fr I).bind fun p I => (match p.1 with
    | .non => b2 (!ng) I
    | _ => b2 ng I)
  | .isb ng k a, ro, fr, I => (ev a ro fr I).bind fun p I => (match p.1 with
    | .bl b => b2 (xor ng (b == k)) I
    | _ => .bad)
  | .ch2 o1 o2 a b c, ro, fr, I => (ev a ro fr I).bind fun p I => (ev b (ro || isInst p.2) fr I).bind fun q I => (cmpD o1 p.1 q.1 I).tst fun t I =>
      bif t then (ev c (ro || isInst q.2) fr I).bind fun r I => cmpD o2 q.1 r.1 I else b2 false I
  | .ch3 o1 o2 o3 a b c d, ro, fr, I => (ev a ro fr I).bind fun p I => (ev b (ro || isInst p.2) fr I).bind fun q I => (cmpD o1 p.1 q.1 I).tst fun t I =>
      bif t then (ev c (ro || isInst q.2) fr I).bind fun r I => (cmpD o2 q.1 r.1 I).tst fun t I =>
        bif t then (ev d (ro || isInst r.2) fr I).bind fun u I => cmpD o3 r.1 u.1 I else b2 false I
      else b2 false I
  | .and a b, ro, fr, I => (ev a ro fr I).tst fun t I => bif t then (ev b ro fr I).tst fun u I => b2 u I else b2 false I
  | .or a b, ro, fr, I => (ev a ro fr I).tst fun t I => bif t then b2 true I else (ev b ro fr I).tst fun u I => b2 u I
  | .not a, ro, fr, I => (ev a ro fr I).tst fun t I => b2 (!t) I
  | .ite c a b, ro, fr, I => (ev c ro fr I).tst fun t I => bif t then ev a ro fr I else ev b ro fr I
  | .tup es, ro, fr, I => (evK es ro fr I).bind fun ps I => (match frzAll ps with
    | some ds => bif decide (ds.length ≤ lim) then .ok (.tup ds, .fro) I else .bad
    | none => .bad)
  | .lst es, ro, fr, I => (evK es ro fr I).bind fun ps I => (match frzAll ps with
    | some ds => bif decide (ds.length ≤ lim) then .ok (.lst ds, .new) I else .bad
    | none => .bad)
  | .sub a i, ro, fr, I => (ev a ro fr I).bind fun p I => (ev i (ro || isInst p.2) fr I).bind fun q I => subD p.1 q.1 p.2 I
  | .slc a lo hi, ro, fr, I => (ev a ro fr I).bind fun p I => (evP lo (ro || isInst p.2) fr I).bind fun l I => (evP hi (ro || isInst p.2) fr I).bind fun h I => slcD p.1 p.2 l h I
  | .rev a, ro, fr, I => (ev a ro fr I).bind fun p I => (match p.1 with
    | .lst xs => .ok (.lst xs.reverse, .new) I
    | _ => .bad)
  | .call x es, ro, fr, I => (evK es ro fr I).bind fun ps I => callD cf x ro ps I
  | .blt f es, ro, fr, I => (evK es ro fr I).bind fun ps I => biD f ps I
  | .isi a ks, ro, fr, I => (ev a ro fr I).bind fun p I => (match ks with
    | [k] => (match isiD p.1 k with
      | some b => b2 b I
      | none => .bad)
    | _ => .bad)
  | .lc own elt tg it cond, ro, fr, I => (evI it ro fr I).bind fun p I =>
      ((lcL (fun fr I => (evC cond (ro || isInst p.2) fr I).bind fun t I => bif t then (ev elt (ro || isInst p.2) fr I).fz fun d I => .ok (some d) I else .ok none I) tg (wipeF fr own) p.1 I).quiet).bind fun ds I =>
        bif decide (ds.length ≤ lim) then .ok (.lst ds, .new) I else .bad
  | .told e, ro, fr, I => tellR (ev e ro fr I)
  | .fld a x, ro, fr, I => (ev a ro fr I).bind fun p I => (match p.1 with
    | .ins k => (match fldD I k x with
      | some s => (match s.rd with
        | some q => .ok q I
        | none => .bad)
      | none => .bad)
    | _ => .bad)
  | .meth a m x es, ro, fr, I => (ev a ro fr I).bind fun p I => (match p.1 with
    | .ins k => bif noFld I k m then (evK es ro fr I).bind fun ps I => callD cf x ro ((.ins k, .fro) :: ps) I else .bad
    | _ => .bad)
  | .callK x _ _ pm es, ro, fr, I => (evK es ro fr I).bind fun ps I => (match pmD pm ps with
    | some qs => callD cf x ro qs I
    | none => .bad)
  | .methK a m x _ _ pm es, ro, fr, I => (ev a ro fr I).bind fun p I => (match p.1 with
    | .ins k => bif noFld I k m then (evK es ro fr I).bind fun ps I => (match pmD pm ((.ins k, .fro) :: ps) with
      | some qs => callD cf x ro qs I
      | none => .bad) else .bad
    | _ => .bad)
  | .new, ro, _, I => bif ro then .bad else ((cf "House.__init__" false [.ins I.length] (I ++ [[]])).quiet).bind fun s I' => (match s with
    | .val .non => .ok (.ins I.length, .fro) I'
    | _ => .bad)
  | .dnew t, _, _, I => .ok (bif t then .dT [] [] else .dK [] [], .new) I
  | .disp ks vs, ro, fr, I => (evK vs ro fr I).bind fun ps I => (match frzAll ps with
    | some ds => bif decide (ks.length = ds.length) then .ok (.dK (ks.map Sum.inr) ds, .new) I else .bad
    | none => .bad)
  | .get2 a k d, ro, fr, I => (ev a ro fr I).bind fun p I => bif isDc p.1 then (ev k (ro || isInst p.2) fr I).bind fun q I => (ev d (ro || isInst p.2) fr I).bind fun r I => (match lookD p.1 q.1 with
    | some (some d) => .ok (d, .fro) I
    | some none => (match frzK r with
      | some d => .ok (d, r.2) I
      | none => .bad)
    | none => .bad) else .bad
  | .vals a, ro, fr, I => (ev a ro fr I).bind fun p I => (match p.1 with
    | .dK _ vs => .ok (.lst vs, .new) I
    | _ => .bad)
  | .lcD own elt tg a cond, ro, fr, I => (ev a ro fr I).bind fun p I => (match keysD p.1 with
    | some ks => bif decide (p.2 = .own) then .bad else
      ((lcL (fun fr I => (evC cond (ro || isInst p.2) fr I).bind fun t I => bif t then (ev elt (ro || isInst p.2) fr I).fz fun d I => .ok (some d) I else .ok none I) tg (wipeF fr own) ks I).quiet).bind fun ds I =>
        bif decide (ds.length ≤ lim) then .ok (.lst ds, .new) I else .bad
    | none => .bad)
  | _, _, _, _ => .bad
/-- a row of terms -/
def evK : Tm → Bool → Fr → Is → R (List (D × Kd))
  | .nil, _, _, I => .ok [] I
  | .cons a b, ro, fr, I => (ev a ro fr I).bind fun p I => (evK b (ro || isInst p.2) fr I).bind fun ps I => .ok (p :: ps) I
  | _, _, _, _ => .bad
/-- a part of a cut -/
def evP : Tm → Bool → Fr → Is → R (Option Int)
  | .nil, _, _, I => .ok none I
  | .cons a .nil, ro, fr, I => (ev a ro fr I).bind fun p I => (match p.1 with
    | .int i => .ok (some i) I
    | _ => .bad)
  | _, _, _, _ => .bad
/-- the test of a list made item by item -/
def evC : Tm → Bool → Fr → Is → R Bool
  | .nil, _, _, I => .ok true I
  | .cons a .nil, ro, fr, I => (ev a ro fr I).tst fun t I => .ok t I
  | _, _, _, _ => .bad
/-- what is walked -/
def evI : Tm → Bool → Fr → Is → R (List D × Kd)
  | .rng1 a, ro, fr, I => (ev a ro fr I).bind fun p I => (match p.1 with
    | .int n => bif big62 n then .ok (rngL 0 n, .fro) I else .bad
    | _ => .bad)
  | .rng2 a b, ro, fr, I => (ev a ro fr I).bind fun p I => (ev b (ro || isInst p.2) fr I).bind fun q I => (match p.1, q.1 with
    | .int l, .int n => bif big62 l && big62 n then .ok (rngL l n, .fro) I else .bad
    | _, _ => .bad)
  | .enm a, ro, fr, I => (ev a ro fr I).bind fun p I => (match p.1 with
    | .lst xs => .ok (enmL 0 xs, p.2) I
    | _ => .bad)
  | .zp a b, ro, fr, I => (ev a ro fr I).bind fun p I => (ev b (ro || isInst p.2) fr I).bind fun q I => (match p.1, q.1 with
    | .lst xs, .lst ys => (match zpK p.2 q.2 with
      | some k => .ok (zpL xs ys, k) I
      | none => .bad)
    | _, _ => .bad)
  | .cons a .nil, ro, fr, I => (ev a ro fr I).bind fun p I => (match itD p with
    | some r => .ok r I
    | none => .bad)
  | _, _, _, _ => .bad
end
/-! ### blocks -/
def forL (body : Fr → Is → Xr) (tg : Tg) : List D → Fr → Is → Xr
  | [], fr, I => .nx fr I
  | x :: xs, fr, I => match asgT tg x fr with
    | none => .bad
    | some fr' => match body fr' I with
      | .nx fr I => forL body tg xs fr I
      | .ct fr I => forL body tg xs fr I
      | .bk fr I => .nx fr I
      | r => r
def whlL (test : Fr → Is → R Bool) (body : Fr → Is → Xr) : Nat → Fr → Is → Xr
  | 0, _, _ => .bad
  | n + 1, fr, I => (test fr I).stm fr fun t I => bif t then (match body fr I with
      | .nx fr I => whlL test body n fr I
      | .ct fr I => whlL test body n fr I
      | .bk fr I => .nx fr I
      | r => r) else .nx fr I
def Xr.bind (r : Xr) (f : Fr → Is → Xr) : Xr := match r with
  | .nx fr I => f fr I
  | r => r
def stoAll : List (Nat × Bool) → List (D × Kd) → Fr → Option Fr
  | [], [], fr => some fr
  | t :: ts, p :: ps, fr => match stoK t.2 p with
    | some s => stoAll ts ps (fr.set t.1 s)
    | none => none
  | _, _, _ => none
def frzS : Sl → Option D
  | .val d => some d
  | .lst xs => some (.lst xs)
  | .dK ks vs => some (.dK ks vs)
  | .dT ks vs => some (.dT ks vs)
  | .no => none
/-- a walk that only asks, and ends at the first yes -/
def frL (test : Fr → Is → R Bool) (r : D) (tg : Tg) : List D → Fr → Is → Xr
  | [], fr, I => .nx fr I
  | x :: xs, fr, I => match asgT tg x fr with
    | none => .bad
    | some fr' => (test fr' I).stm fr' fun t I => bif t then .rt (.val r) I else frL test r tg xs fr' I
/-- nothing is raised in a walk over a dict -/
def forDq : Xr → Xr
  | .exc _ _ _ => .bad
  | r => r
def exec : Sm → Bool → Fr → Is → Xr
  | .nil, _, fr, I => .nx fr I
  | .cons s r, ro, fr, I => (exec s ro fr I).bind fun fr I => exec r ro fr I
  | .pass, _, fr, I => .nx fr I
  | .asg i e, ro, fr, I => (ev cn cf e ro fr I).stm fr fun p I => (match frzK p with
    | some d => .nx (fr.set i (.val d)) I
    | none => .bad)
  | .own i e, ro, fr, I => (ev cn cf e ro fr I).stm fr fun p I => (match stoK true p with
    | some s => .nx (fr.set i s) I
    | none => .bad)
  | .par tg es, ro, fr, I => (evK cn cf es ro fr I).stm fr fun ps I => (match stoAll tg ps fr with
    | some fr => .nx fr I
    | none => .bad)
  | .unp tg e, ro, fr, I => (ev cn cf e ro fr I).stm fr fun p I => (match frzK p with
    | some d => (match asgT (.tp tg) d fr with
      | some fr => .nx fr I
      | none => .bad)
    | none => .bad)
  | .app i e, ro, fr, I => (match fr[i]? with
    | some (.lst xs) => (ev cn cf e ro fr I).stm fr fun p I => (match frzK p with
      | some d => bif decide (xs.length < lim) then .nx (fr.set i (.lst (xs ++ [d]))) I else .bad
      | none => .bad)
    | _ => .bad)
  | .ext i e, ro, fr, I => (match fr[i]? with
    | some (.lst xs) => (ev cn cf e ro fr I).stm fr fun p I => (match p.1 with
      | .lst ys => bif decide (xs.length + ys.length ≤ lim) then .nx (fr.set i (.lst (xs ++ ys))) I else .bad
      | _ => .bad)
    | _ => .bad)
  | .rem i e, ro, fr, I => (match fr[i]? with
    | some (.lst xs) => (ev cn cf e ro fr I).stm fr fun p I => (match p.1, strsD xs with
      | .str z, some zs => bif decide (z ∈ zs) then .nx (fr.set i (.lst (xs.eraseIdx (zs.idxOf z)))) I else .bad
      | _, _ => .bad)
    | _ => .bad)
  | .expr e, ro, fr, I => (ev cn cf e ro fr I).stm fr fun _ I => .nx fr I
  | .iff c a b, ro, fr, I => ((ev cn cf c ro fr I).tst fun t I => .ok t I).stm fr fun t I => bif t then exec a ro fr I else exec b ro fr I
  | .for tg it body, ro, fr, I => (evI cn cf it ro fr I).stm fr fun p I => bif decide (p.2 = .own) then .bad else forL (fun fr I => exec body (ro || isInst p.2) fr I) tg p.1 fr I
  | .forR tg it c r, ro, fr, I => (evI cn cf it ro fr I).stm fr fun p I => frL (fun fr I => (ev cn cf c (ro || isInst p.2) fr I).tst fun t I => .ok t I) r.d tg p.1 fr I
  | .whl n c body, ro, fr, I => whlL (fun fr I => (ev cn cf c ro fr I).tst fun t I => .ok t I) (fun fr I => exec body ro fr I) n fr I
  | .ret e, ro, fr, I => (ev cn cf e ro fr I).stm fr fun p I => (match stoK true p with
    | some s => .rt s I
    | none => .bad)
  | .retOwn i, _, fr, I => (match fr[i]? with
    | some s => (match s.out with
      | some _ => .rt s I
      | none => .bad)
    | none => .bad)
  | .rais c, _, fr, I => .exc ⟨c, []⟩ fr I
  | .fset i x e, ro, fr, I => bif ro then .bad else (ev cn cf e ro fr I).stm fr fun p I => (match stoK true p, fr[i]? with
    | some s, some (.val (.ins k)) => (match setFld I k x s with
      | some I' => .nx fr I'
      | none => .bad)
    | _, _ => .bad)
  | .fapp i x e, ro, fr, I => bif ro then .bad else (match fr[i]? with
    | some (.val (.ins k)) => (match fldD I k x with
      | some (.lst xs) => (ev cn cf e true fr I).stm fr fun p I => (match frzK p with
        | some d => bif decide (xs.length < lim) then (match setFld I k x (.lst (xs ++ [d])) with
          | some I' => .nx fr I'
          | none => .bad) else .bad
        | none => .bad)
      | _ => .bad)
    | _ => .bad)
  | .fput i x k v, ro, fr, I => bif ro then .bad else (ev cn cf v ro fr I).stm fr fun p I => (match frzK p, fr[i]? with
    | some d, some (.val (.ins n)) => (match fldD I n x with
      | some c => (ev cn cf k true fr I).stm fr fun q I => (match putS c q d with
        | some c' => (match setFld I n x c' with
          | some I' => .nx fr I'
          | none => .bad)
        | none => .bad)
      | none => .bad)
    | _, _ => .bad)
  | .put i k v, ro, fr, I => (ev cn cf v ro fr I).stm fr fun p I => (match frzK p, fr[i]? with
    | some d, some c => bif conS c then (ev cn cf k ro fr I).stm fr fun q I => (match putS c q d with
      | some c' => .nx (fr.set i c') I
      | none => .bad) else .bad
    | _, _ => .bad)
  | .put2 i k a k2 v, ro, fr, I => (ev cn cf (.blt .dict (.cons a .nil)) ro fr I).stm fr fun p I => (match Sl.inn p.1, fr[i]? with
    | some c1, some c => bif conS c then (ev cn cf k ro fr I).stm fr fun q I => (ev cn cf v ro (fr.set i .no) I).stm fr fun w I => (match frzK w with
      | some d => (ev cn cf k2 ro (fr.set i .no) I).stm fr fun r I => (match putS c1 r d with
        | some c2 => (match frzS c2 with
          | some d2 => (match putS c q d2 with
            | some c' => .nx (fr.set i c') I
            | none => .bad)
          | none => .bad)
        | none => .bad)
      | none => .bad) else .bad
    | _, _ => .bad)
  | .getOr a k c, ro, fr, I => (ev cn cf a ro fr I).stm fr fun p I => (ev cn cf k (ro || isInst p.2) fr I).stm fr fun q I => (match lookD p.1 q.1 with
    | some (some d) => .rt (.val d) I
    | some none => .exc ⟨c, []⟩ fr I
    | none => .bad)
  | .raisF c fs pm es, ro, fr, I => (evK cn cf es ro fr I).stm fr fun ps I => (match frzAll ps with
    | some ds => (match pmX pm ds with
      | some xs => bif decide (fs.length = xs.length) then .exc ⟨c, fs.zip xs⟩ fr I else .bad
      | none => .bad)
    | none => .bad)
  | .forD tg a body, ro, fr, I => (ev cn cf a ro fr I).stm fr fun p I => (match keysD p.1 with
    | some ks => bif decide (p.2 = .own) then .bad else forDq (forL (fun fr I => exec body (ro || isInst p.2) fr I) tg ks fr I)
    | none => .bad)
  | .bk, _, fr, I => .bk fr I
  | .ct, _, fr, I => .ct fr I
  | .frz i, _, fr, I => (match fr[i]? with
    | some s => (match frzS s with
      | some d => .nx (fr.set i (.val d)) I
      | none => .nx fr I)
    | none => .nx fr I)
end
/-- a def -/
structure Fd where
  np : Nat
  nl : Nat
  dfl : List D
  body : Sm
structure Gm where
  cn : Str → Option D
  fn : Str → Option Fd
def fillD (fd : Fd) (as : List D) : Option (List D) := bif decide (as.length ≤ fd.np) && decide (fd.np ≤ as.length + fd.dfl.length) then some (as ++ fd.dfl.drop (as.length + fd.dfl.length - fd.np)) else none
def runB (r : Xr) : R Sl := match r with
  | .nx _ I => .ok (.val .non) I
  | .rt s I => .ok s I
  | .exc x _ I => .exc x I
  | _ => .bad
def callN (Γ : Gm) : Nat → Str → Bool → List D → Is → R Sl
  | 0, _, _, _, _ => .bad
  | n + 1, x, ro, as, I => match Γ.fn x with
    | some fd => (match fillD fd as with
      | some vs => runB (exec Γ.cn (callN Γ n) fd.body ro (vs.map Sl.val ++ List.replicate (fd.nl - fd.np) .no) I)
      | none => .bad)
    | none => .bad
end Air
/-! Air: how values lie on the heap. -/
namespace Air
open PySem L2

/-- the written part, known ahead -/
class Kf where
  K : PySem.W.Frag
variable [Kf]
/-- what stands still (F), the instances (M), the names' own containers, the instances' own things -/
structure Gh where
  F : Hp
  M : List (Addr × Addr)
  aF : List Addr
  aI : List Addr

/-- keys and values go together, and the keys are good texts -/
def KL {κ : Type} (ok : κ → Bool) (ks : List κ) (vs : List V) : Prop := ks.length = vs.length ∧ ks.all ok = true
mutual
inductive RV (F : Hp) (M : List (Addr × Addr)) : V → D → Prop
  | non : RV F M .non .non
  | bl (b : Bool) : RV F M (.bl b) (.bl b)
  | int (i : Int) : RV F M (.int i) (.int i)
  | str (z : Str) (h : PyData.strOk z = true) : RV F M (.str z) (.str z)
  | tup {a : Addr} {vs : List V} {ds : List D} : F a = some (.tup vs) → RVs F M vs ds → RV F M (.ref a) (.tup ds)
  | lst {a : Addr} {vs : List V} {ds : List D} : F a = some (.lst vs) → RVs F M vs ds → RV F M (.ref a) (.lst ds)
  | dK {a : Addr} {ks : List Ky} {vs : List V} {ds : List D} : F a = some (.dK (ks.zip vs)) → KL kyOk ks vs → RVs F M vs ds → RV F M (.ref a) (.dK ks ds)
  | dT {a : Addr} {ks : List (List Ky)} {vs : List V} {ds : List D} : F a = some (.dT (ks.zip vs)) → KL kysOk ks vs → RVs F M vs ds → RV F M (.ref a) (.dT ks ds)
  | scr {a : Addr} {ns : List Int} {o : Obj} : F a = some (.frz o (.lst (ns.map V.int))) → RV F M (.ref a) (.scr ns)
  | scrL {a : Addr} {ns : List Int} : F a = some (.lst (ns.map V.int)) → RV F M (.ref a) (.scr ns)
  | scrK {a : Addr} {ns : List Int} : (∀ H : Hp, SqL Kf.K H a (ns.map V.int)) → RV F M (.ref a) (.scr ns)
  | ins {p dx : Addr} {k : Nat} : M[k]? = some (p, dx) → RV F M (.ref p) (.ins k)
inductive RVs (F : Hp) (M : List (Addr × Addr)) : List V → List D → Prop
  | nil : RVs F M [] []
  | cons {v : V} {d : D} {vs : List V} {ds : List D} : RV F M v d → RVs F M vs ds → RVs F M (v :: vs) (d :: ds)
end

section
variable {F F' : Hp} {M M' : List (Addr × Addr)}
theorem pre_get {k : Nat} {x : Addr × Addr} (hM : M <+: M') (h : M[k]? = some x) : M'[k]? = some x := by
  obtain ⟨t, rfl⟩ := hM
  rw [List.getElem?_append_left (List.getElem?_eq_some_iff.mp h).1]
  exact h
mutual
theorem RV.mono (hF : ∀ a u, F a = some u → F' a = some u) (hM : M <+: M') : ∀ {v : V} {d : D}, RV F M v d → RV F' M' v d
  | _, _, .non => .non
  | _, _, .bl b => .bl b
  | _, _, .int i => .int i
  | _, _, .str z h => .str z h
  | _, _, .tup e r => .tup (hF _ _ e) (RVs.mono hF hM r)
  | _, _, .lst e r => .lst (hF _ _ e) (RVs.mono hF hM r)
  | _, _, .dK e l r => .dK (hF _ _ e) l (RVs.mono hF hM r)
  | _, _, .dT e l r => .dT (hF _ _ e) l (RVs.mono hF hM r)
  | _, _, .scr e => .scr (hF _ _ e)
  | _, _, .scrL e => .scrL (hF _ _ e)
  | _, _, .scrK e => .scrK e
  | _, _, .ins e => .ins (pre_get hM e)
theorem RVs.mono (hF : ∀ a u, F a = some u → F' a = some u) (hM : M <+: M') : ∀ {vs : List V} {ds : List D}, RVs F M vs ds → RVs F' M' vs ds
  | _, _, .nil => .nil
  | _, _, .cons r rs => .cons (RV.mono hF hM r) (RVs.mono hF hM rs)
end
theorem RVs.length : ∀ {vs : List V} {ds : List D}, RVs F M vs ds → vs.length = ds.length
  | _, _, .nil => rfl
  | _, _, .cons _ rs => by simp [RVs.length rs]
theorem RVs.append : ∀ {vs ws : List V} {ds es : List D}, RVs F M vs ds → RVs F M ws es → RVs F M (vs ++ ws) (ds ++ es)
  | _, _, _, _, .nil, s => s
  | _, _, _, _, .cons r rs, s => .cons r (RVs.append rs s)
theorem RVs.get : ∀ {vs : List V} {ds : List D} {i : Nat} {d : D}, RVs F M vs ds → ds[i]? = some d → ∃ v, vs[i]? = some v ∧ RV F M v d
  | _, _, _, _, .nil, e => by simp at e
  | _, _, 0, _, .cons r _, e => by simp at e; subst e; exact ⟨_, rfl, r⟩
  | _, _, i + 1, d, .cons _ rs, e => by
    obtain ⟨v, h1, h2⟩ := RVs.get (i := i) (d := d) rs (by simpa using e)
    exact ⟨v, by simpa using h1, h2⟩
theorem RVs.getV : ∀ {vs : List V} {ds : List D} {i : Nat} {v : V}, RVs F M vs ds → vs[i]? = some v → ∃ d, ds[i]? = some d ∧ RV F M v d
  | _, _, _, _, .nil, e => by simp at e
  | _, _, 0, _, .cons r _, e => by simp at e; subst e; exact ⟨_, rfl, r⟩
  | _, _, i + 1, v, .cons _ rs, e => by
    obtain ⟨d, h1, h2⟩ := RVs.getV (i := i) (v := v) rs (by simpa using e)
    exact ⟨d, by simpa using h1, h2⟩
theorem RVs.drop : ∀ {vs : List V} {ds : List D} (n : Nat), RVs F M vs ds → RVs F M (vs.drop n) (ds.drop n)
  | _, _, 0, r => r
  | _, _, _ + 1, .nil => .nil
  | _, _, n + 1, .cons _ rs => RVs.drop n rs
theorem RVs.take : ∀ {vs : List V} {ds : List D} (n : Nat), RVs F M vs ds → RVs F M (vs.take n) (ds.take n)
  | _, _, 0, _ => .nil
  | _, _, _ + 1, .nil => .nil
  | _, _, n + 1, .cons r rs => .cons r (RVs.take n rs)
theorem RVs.reverse {vs : List V} {ds : List D} (r : RVs F M vs ds) : RVs F M vs.reverse ds.reverse := by
  induction vs generalizing ds with
  | nil => cases r; exact .nil
  | cons v vs ih =>
    cases r with
    | cons r rs =>
      rw [List.reverse_cons, List.reverse_cons]
      exact (ih rs).append (.cons r .nil)
theorem RVs.ints : ∀ (ns : List Int), RVs F M (ns.map V.int) (ns.map D.int)
  | [] => .nil
  | n :: ns => .cons (.int n) (RVs.ints ns)
theorem RVs.intsD : ∀ {vs : List V} {ds : List D} {ns : List Int}, RVs F M vs ds → Air.intsD ds = some ns → vs = ns.map V.int
  | _, _, _, .nil, e => by cases e; rfl
  | _, _, _, .cons r rs, e => by
    cases r <;> simp only [Air.intsD] at e <;> try (cases e; done)
    rename_i i
    obtain ⟨ms, hm, rfl⟩ := Option.map_eq_some_iff.mp e
    rw [RVs.intsD rs hm]; rfl
theorem RVs.strsD : ∀ {vs : List V} {ds : List D} {ns : List Str}, RVs F M vs ds → Air.strsD ds = some ns → vs = ns.map V.str
  | _, _, _, .nil, e => by cases e; rfl
  | _, _, _, .cons r rs, e => by
    cases r <;> simp only [Air.strsD] at e <;> try (cases e; done)
    obtain ⟨ms, hm, rfl⟩ := Option.map_eq_some_iff.mp e
    rw [RVs.strsD rs hm]; rfl
theorem RVs.blsD : ∀ {vs : List V} {ds : List D} {ns : List Bool}, RVs F M vs ds → Air.blsD ds = some ns → vs = ns.map V.bl
  | _, _, _, .nil, e => by cases e; rfl
  | _, _, _, .cons r rs, e => by
    cases r <;> simp only [Air.blsD] at e <;> try (cases e; done)
    obtain ⟨ms, hm, rfl⟩ := Option.map_eq_some_iff.mp e
    rw [RVs.blsD rs hm]; rfl
end

/-! ### containers -/
def Lk (lk : Bool) (H : Hp) (a : Addr) (u : HO) : Prop := H a = some u ∨ (lk = true ∧ ∃ o, H a = some (.frz o u))
def SlAt (lk : Bool) (F : Hp) (M : List (Addr × Addr)) (H : Hp) (a : Addr) : Sl → Prop
  | .lst ds => ∃ vs, H a = some (.lst vs) ∧ RVs F M vs ds
  | .dK ks ds => ∃ vs, Lk lk H a (.dK (ks.zip vs)) ∧ KL kyOk ks vs ∧ RVs F M vs ds
  | .dT ks ds => ∃ vs, Lk lk H a (.dT (ks.zip vs)) ∧ KL kysOk ks vs ∧ RVs F M vs ds
  | _ => False
/-- what a place holds; its own addresses -/
def SlV (lk : Bool) (F : Hp) (M : List (Addr × Addr)) (H : Hp) (ov : Option V) (s : Sl) (as : List Addr) : Prop := match s with
  | .no => as = []
  | .val d => as = [] ∧ ∃ v, ov = some v ∧ RV F M v d
  | s => ∃ a, as = [a] ∧ ov = some (.ref a) ∧ SlAt lk F M H a s
inductive FrR (F : Hp) (M : List (Addr × Addr)) (H : Hp) : L2.St → Fr → List Addr → Prop
  | nil : FrR F M H [] [] []
  | cons {ov : Option V} {s : Sl} {as bs : List Addr} {σ : L2.St} {fr : Fr} : SlV false F M H ov s as → FrR F M H σ fr bs → FrR F M H (ov :: σ) (s :: fr) (as ++ bs)
inductive FdR (lk : Bool) (F : Hp) (M : List (Addr × Addr)) (H : Hp) : List (Str × V) → Ob → List Addr → Prop
  | nil : FdR lk F M H [] [] []
  | cons {x : Str} {v : V} {s : Sl} {as bs : List Addr} {fs : List (Str × V)} {ob : Ob} : SlV lk F M H (some v) s as → FdR lk F M H fs ob bs → FdR lk F M H ((x, v) :: fs) ((x, s) :: ob) (as ++ bs)
inductive IsR (C : Addr) (lk : Bool) (F : Hp) (M : List (Addr × Addr)) (H : Hp) : List (Addr × Addr) → Is → List Addr → Prop
  | nil : IsR C lk F M H [] [] []
  | cons {p dx : Addr} {fs : List (Str × V)} {ob : Ob} {as bs : List Addr} {ps : List (Addr × Addr)} {I : Is} : H p = some (.ins C dx fs) → H dx = some (.own p) → FdR lk F M H fs ob as → IsR C lk F M H ps I bs →
      IsR C lk F M H ((p, dx) :: ps) (ob :: I) (p :: as ++ bs)
/-- F's thing is there (a dict may be locked) -/
def Sub (H : Hp) (a : Addr) (u : HO) : Prop := H a = some u ∨ (((∃ kvs, u = .dK kvs) ∨ ∃ kvs, u = .dT kvs) ∧ ∃ o, H a = some (.frz o u))
/-- what may stand in F -/
def Fine : HO → Prop
  | .tup _ => True
  | .lst _ => True
  | .dK _ => True
  | .dT _ => True
  | .frz _ (.lst _) => True
  | _ => False
structure Cfg where
  C : Addr
  Tb : List (Addr × Str)
structure Sx (c : Cfg) (lk : Bool) (G : Gh) (fr : Fr) (I : Is) (σ : L2.St) (H : Hp) : Prop where
  fr : FrR G.F G.M H σ fr G.aF
  is : IsR c.C lk G.F G.M H G.M I G.aI
  nd : (G.aF ++ G.aI).Nodup
  sep : ∀ a ∈ G.aF ++ G.aI, G.F a = none
  sub : ∀ a u, G.F a = some u → Sub H a u
  fine : ∀ a u, G.F a = some u → Fine u
  tb : LamX.Tabs c.Tb H

/-- what is at a stays, but for a table -/
def Kp (H H' : Hp) (a : Addr) : Prop := ∀ o, H a = some o → (∀ ps, o ≠ .tbl ps) → H' a = some o
section
variable {c : Cfg} {lk : Bool} {F F' : Hp} {M M' : List (Addr × Addr)} {H H' : Hp} {G G' : Gh} {fr : Fr} {I : Is} {σ : L2.St}
theorem Lk.mono {a : Addr} {u : HO} (hu : ∀ ps, u ≠ .tbl ps) (k : Kp H H' a) (h : Lk lk H a u) : Lk lk H' a u := by
  rcases h with h | ⟨h, o, e⟩
  · exact .inl (k _ h hu)
  · exact .inr ⟨h, o, k _ e fun ps z => by cases z⟩
theorem Lk.some {a : Addr} {u : HO} (h : Lk lk H a u) : H a ≠ none := by
  rcases h with h | ⟨_, o, h⟩ <;> rw [h] <;> simp
theorem Lk.rd {a : Addr} {u : HO} (h : Lk lk H a u) : Rd H a u := by
  rcases h with h | ⟨_, o, h⟩
  · exact .inl h
  · exact .inr ⟨o, h⟩
theorem SlAt.mono {a : Addr} (hF : ∀ a u, F a = some u → F' a = some u) (hM : M <+: M') (k : Kp H H' a) : ∀ {s : Sl}, SlAt lk F M H a s → SlAt lk F' M' H' a s
  | .lst _, ⟨vs, e, r⟩ => ⟨vs, k _ e (fun ps z => by cases z), r.mono hF hM⟩
  | .dK _ _, ⟨vs, e, l, r⟩ => ⟨vs, e.mono (fun ps z => by cases z) k, l, r.mono hF hM⟩
  | .dT _ _, ⟨vs, e, l, r⟩ => ⟨vs, e.mono (fun ps z => by cases z) k, l, r.mono hF hM⟩
theorem SlAt.some {a : Addr} : ∀ {s : Sl}, SlAt lk F M H a s → H a ≠ none
  | .lst _, ⟨vs, e, r⟩ => by rw [e]; simp
  | .dK _ _, ⟨vs, e, l, r⟩ => e.some
  | .dT _ _, ⟨vs, e, l, r⟩ => e.some
theorem SlAt.weak {a : Addr} (lk : Bool) : ∀ {s : Sl}, SlAt false F M H a s → SlAt lk F M H a s
  | .lst _, ⟨vs, e, r⟩ => ⟨vs, e, r⟩
  | .dK _ _, ⟨vs, .inl e, l, r⟩ => ⟨vs, .inl e, l, r⟩
  | .dT _ _, ⟨vs, .inl e, l, r⟩ => ⟨vs, .inl e, l, r⟩
theorem SlV.mono {ov : Option V} {s : Sl} {as : List Addr} (hF : ∀ a u, F a = some u → F' a = some u) (hM : M <+: M') (k : ∀ a ∈ as, Kp H H' a) (h : SlV lk F M H ov s as) : SlV lk F' M' H' ov s as := by
  cases s with
  | no => exact h
  | val d => obtain ⟨e, v, e2, r⟩ := h; exact ⟨e, v, e2, r.mono hF hM⟩
  | _ => obtain ⟨a, rfl, e2, r⟩ := h; exact ⟨a, rfl, e2, r.mono hF hM (k a (by simp))⟩
theorem SlV.weak {ov : Option V} {s : Sl} {as : List Addr} (lk : Bool) (h : SlV false F M H ov s as) : SlV lk F M H ov s as := by
  cases s with
  | no => exact h
  | val d => exact h
  | _ => obtain ⟨a, e, e2, r⟩ := h; exact ⟨a, e, e2, r.weak lk⟩
theorem SlV.there {ov : Option V} {s : Sl} {as : List Addr} (h : SlV lk F M H ov s as) : ∀ a ∈ as, H a ≠ none := by
  cases s with
  | no => have e : as = [] := h; subst e; simp
  | val d => obtain ⟨rfl, _⟩ := h; simp
  | _ => obtain ⟨a, rfl, _, r⟩ := h; intro b hb; rw [List.mem_singleton.mp hb]; exact r.some
theorem FrR.mono (hF : ∀ a u, F a = some u → F' a = some u) (hM : M <+: M') {as : List Addr} (h : FrR F M H σ fr as) (k : ∀ a ∈ as, Kp H H' a) : FrR F' M' H' σ fr as := by
  induction h with
  | nil => exact .nil
  | cons hs _ ih => exact .cons (hs.mono hF hM fun a ha => k a (List.mem_append_left _ ha)) (ih fun a ha => k a (List.mem_append_right _ ha))
theorem FrR.there {as : List Addr} (h : FrR F M H σ fr as) : ∀ a ∈ as, H a ≠ none := by
  induction h with
  | nil => simp
  | cons hs _ ih => intro a ha; exact (List.mem_append.mp ha).elim (hs.there a) (ih a)
theorem FdR.mono (hF : ∀ a u, F a = some u → F' a = some u) (hM : M <+: M') {fs : List (Str × V)} {ob : Ob} {as : List Addr} (h : FdR lk F M H fs ob as) (k : ∀ a ∈ as, Kp H H' a) : FdR lk F' M' H' fs ob as := by
  induction h with
  | nil => exact .nil
  | cons hs _ ih => exact .cons (hs.mono hF hM fun a ha => k a (List.mem_append_left _ ha)) (ih fun a ha => k a (List.mem_append_right _ ha))
theorem FdR.weak {fs : List (Str × V)} {ob : Ob} {as : List Addr} (lk : Bool) (h : FdR false F M H fs ob as) : FdR lk F M H fs ob as := by
  induction h with
  | nil => exact .nil
  | cons hs _ ih => exact .cons (hs.weak lk) ih
theorem FdR.there {fs : List (Str × V)} {ob : Ob} {as : List Addr} (h : FdR lk F M H fs ob as) : ∀ a ∈ as, H a ≠ none := by
  induction h with
  | nil => simp
  | cons hs _ ih => intro a ha; exact (List.mem_append.mp ha).elim (hs.there a) (ih a)
theorem IsR.mono {C : Addr} (hF : ∀ a u, F a = some u → F' a = some u) (hM : M <+: M') {ps : List (Addr × Addr)} {as : List Addr} (h : IsR C lk F M H ps I as) (k : ∀ a ∈ as, Kp H H' a)
    (kd : ∀ a p, H a = some (.own p) → H' a = some (.own p)) : IsR C lk F' M' H' ps I as := by
  induction h with
  | nil => exact .nil
  | cons h1 h2 h3 _ ih =>
    exact .cons (k _ (by simp) _ h1 fun ps z => by cases z) (kd _ _ h2) (h3.mono hF hM fun a ha => k a (by simp [ha])) (ih fun a ha => k a (by simp [ha]))
theorem IsR.weak {C : Addr} {ps : List (Addr × Addr)} {as : List Addr} (lk : Bool) (h : IsR C false F M H ps I as) : IsR C lk F M H ps I as := by
  induction h with
  | nil => exact .nil
  | cons h1 h2 h3 _ ih => exact .cons h1 h2 (h3.weak lk) ih
theorem IsR.there {C : Addr} {ps : List (Addr × Addr)} {as : List Addr} (h : IsR C lk F M H ps I as) : ∀ a ∈ as, H a ≠ none := by
  induction h with
  | nil => simp
  | cons h1 h2 h3 _ ih =>
    intro a ha
    rcases List.mem_append.mp ha with ha | ha
    · rcases List.mem_cons.mp ha with rfl | ha
      · rw [h1]; simp
      · exact h3.there a ha
    · exact ih a ha
theorem Sub.mono {a : Addr} {u : HO} (k : ∀ o, H a = some o → H' a = some o) (h : Sub H a u) : Sub H' a u := by
  rcases h with h | ⟨h, o, e⟩
  · exact .inl (k _ h)
  · exact .inr ⟨h, o, k _ e⟩
theorem Sub.there {a : Addr} {u : HO} (h : Sub H a u) : H a ≠ none := by
  rcases h with h | ⟨_, o, h⟩ <;> rw [h] <;> simp
theorem Sub.tup {a : Addr} {vs : List V} (h : Sub H a (.tup vs)) : H a = some (.tup vs) := by
  rcases h with h | ⟨(⟨_, e⟩ | ⟨_, e⟩), _⟩
  · exact h
  · cases e
  · cases e
theorem Sub.lst {a : Addr} {vs : List V} (h : Sub H a (.lst vs)) : H a = some (.lst vs) := by
  rcases h with h | ⟨(⟨_, e⟩ | ⟨_, e⟩), _⟩
  · exact h
  · cases e
  · cases e
theorem Sub.frz {a : Addr} {o : Obj} {u : HO} (h : Sub H a (.frz o u)) : H a = some (.frz o u) := by
  rcases h with h | ⟨(⟨_, e⟩ | ⟨_, e⟩), _⟩
  · exact h
  · cases e
  · cases e
theorem Sub.rd {a : Addr} {u : HO} (h : Sub H a u) : Rd H a u := by
  rcases h with h | ⟨_, o, h⟩
  · exact .inl h
  · exact .inr ⟨o, h⟩
/-- all stays, more may come -/
theorem Sx.more (S : Sx c lk G fr I σ H) (k : ∀ a o, H a = some o → H' a = some o) : Sx c lk G fr I σ H' :=
  ⟨S.fr.mono (fun _ _ e => e) (List.prefix_refl _) fun a _ o e _ => k a o e, S.is.mono (fun _ _ e => e) (List.prefix_refl _) (fun a _ o e _ => k a o e) fun a p e => k a _ e, S.nd, S.sep, fun a u e => (S.sub a u e).mono (k a), S.fine, S.tb.ext k⟩
theorem Sx.new {p : Addr} {o : HO} (S : Sx c lk G fr I σ H) (hp : H p = none) : Sx c lk G fr I σ (upd H p o) := S.more fun a u e => by
  rw [upd_ne (ne_of_none e hp)]; exact e
theorem Sx.weak (S : Sx c false G fr I σ H) (lk : Bool) : Sx c lk G fr I σ H := ⟨S.fr, S.is.weak lk, S.nd, S.sep, S.sub, S.fine, S.tb⟩
theorem Sx.notF {a : Addr} (S : Sx c lk G fr I σ H) (hp : H a = none) : G.F a = none := by
  cases e : G.F a with
  | none => rfl
  | some u => exact absurd hp (S.sub a u e).there
theorem Sx.notFr {a : Addr} (S : Sx c lk G fr I σ H) (hp : H a = none) : a ∉ G.aF := fun h => S.fr.there a h hp
theorem Sx.notIs {a : Addr} (S : Sx c lk G fr I σ H) (hp : H a = none) : a ∉ G.aI := fun h => S.is.there a h hp
/-- F with one more -/
def Gh.put (G : Gh) (a : Addr) (u : HO) : Gh := { G with F := upd G.F a u }
theorem put_mono {a : Addr} {u : HO} (h : G.F a = none) : ∀ b w, G.F b = some w → (G.put a u).F b = some w := fun b w e => by
  show upd G.F a u b = some w
  rw [upd_ne (ne_of_none e h)]; exact e
/-- a thing of nobody's stands still from now on -/
theorem Sx.freeze {a : Addr} {u : HO} (S : Sx c lk G fr I σ H) (hu : Fine u) (h1 : Sub H a u) (h2 : a ∉ G.aF) (h3 : a ∉ G.aI) (h4 : G.F a = none) : Sx c lk (G.put a u) fr I σ H := by
  refine ⟨S.fr.mono (put_mono h4) (List.prefix_refl _) fun _ _ _ e _ => e, S.is.mono (put_mono h4) (List.prefix_refl _) (fun _ _ _ e _ => e) fun _ _ e => e, S.nd, fun b hb => ?_, fun b w e => ?_, fun b w e => ?_, S.tb⟩
  · show upd G.F a u b = none
    rw [upd_ne]
    · exact S.sep b hb
    · rintro rfl
      exact (List.mem_append.mp hb).elim h2 h3
  · have e : upd G.F a u b = some w := e
    by_cases hb : b = a
    · subst hb; rw [upd_same] at e; cases e; exact h1
    · rw [upd_ne hb] at e; exact S.sub b w e
  · have e : upd G.F a u b = some w := e
    by_cases hb : b = a
    · subst hb; rw [upd_same] at e; cases e; exact hu
    · rw [upd_ne hb] at e; exact S.fine b w e
end

/-! ### from one state to a later one -/
/-- not there as yet, or a tuple -/
def Old (H : Hp) (a : Addr) : Prop := H a = none ∨ ∃ vs, H a = some (.tup vs)
section
variable {lk : Bool} {F : Hp} {M : List (Addr × Addr)} {H : Hp}
theorem SlAt.old {a : Addr} : ∀ {s : Sl}, SlAt lk F M H a s → ¬ Old H a
  | .lst _, ⟨vs, e, r⟩, h => h.elim (fun z => by rw [e] at z; cases z) fun ⟨_, z⟩ => by rw [e] at z; cases z
  | .dK _ _, ⟨vs, e, l, r⟩, h => h.elim (fun z => e.some z) fun ⟨_, z⟩ => by
    rcases e with e | ⟨_, o, e⟩ <;> rw [e] at z <;> cases z
  | .dT _ _, ⟨vs, e, l, r⟩, h => h.elim (fun z => e.some z) fun ⟨_, z⟩ => by
    rcases e with e | ⟨_, o, e⟩ <;> rw [e] at z <;> cases z
theorem SlV.old {ov : Option V} {s : Sl} {as : List Addr} (h : SlV lk F M H ov s as) : ∀ a ∈ as, ¬ Old H a := by
  cases s with
  | no => have e : as = [] := h; subst e; simp
  | val d => obtain ⟨rfl, _⟩ := h; simp
  | _ => obtain ⟨a, rfl, _, r⟩ := h; intro b hb; rw [List.mem_singleton.mp hb]; exact r.old
theorem FrR.old {σ : L2.St} {fr : Fr} {as : List Addr} (h : FrR F M H σ fr as) : ∀ a ∈ as, ¬ Old H a := by
  induction h with
  | nil => simp
  | cons hs _ ih => intro a ha; exact (List.mem_append.mp ha).elim (hs.old a) (ih a)
theorem FdR.old {fs : List (Str × V)} {ob : Ob} {as : List Addr} (h : FdR lk F M H fs ob as) : ∀ a ∈ as, ¬ Old H a := by
  induction h with
  | nil => simp
  | cons hs _ ih => intro a ha; exact (List.mem_append.mp ha).elim (hs.old a) (ih a)
theorem IsR.old {C : Addr} {I : Is} {ps : List (Addr × Addr)} {as : List Addr} (h : IsR C lk F M H ps I as) : ∀ a ∈ as, ¬ Old H a := by
  induction h with
  | nil => simp
  | cons h1 h2 h3 _ ih =>
    intro a ha
    rcases List.mem_append.mp ha with ha | ha
    · rcases List.mem_cons.mp ha with rfl | ha
      · rintro (z | ⟨_, z⟩) <;> rw [h1] at z <;> cases z
      · exact h3.old a ha
    · exact ih a ha
end
/-- behind a term -/
structure Ext (ro : Bool) (G : Gh) (H : Hp) (G' : Gh) (H' : Hp) : Prop where
  keep : ∀ a o, H a = some o → (ro = true ∨ a ∉ G.aI) → (∀ ps, o ≠ .tbl ps) → H' a = some o
  dom : ∀ a, H' a = none → H a = none
  tp : ∀ a vs, H' a = some (.tup vs) → H a = none ∨ H a = some (.tup vs)
  F : ∀ a u, G.F a = some u → G'.F a = some u
  Fn : ∀ a u, G'.F a = some u → G.F a = some u ∨ Old H a
  aF : G'.aF = G.aF
  aI : ∀ a ∈ G'.aI, a ∈ G.aI ∨ H a = none
  M : G.M <+: G'.M
  ro : ro = true → G'.aI = G.aI ∧ G'.M = G.M
/-- behind a statement -/
structure ExtS (ro : Bool) (G : Gh) (H : Hp) (G' : Gh) (H' : Hp) : Prop where
  keep : ∀ a o, H a = some o → (ro = true ∨ a ∉ G.aI) → a ∉ G.aF → (∀ ps, o ≠ .tbl ps) → H' a = some o
  dom : ∀ a, H' a = none → H a = none
  tp : ∀ a vs, H' a = some (.tup vs) → H a = none ∨ H a = some (.tup vs)
  F : ∀ a u, G.F a = some u → G'.F a = some u
  Fn : ∀ a u, G'.F a = some u → G.F a = some u ∨ Old H a ∨ a ∈ G.aF
  aF : ∀ a ∈ G'.aF, a ∈ G.aF ∨ H a = none
  aI : ∀ a ∈ G'.aI, a ∈ G.aI ∨ H a = none
  M : G.M <+: G'.M
  ro : ro = true → G'.aI = G.aI ∧ G'.M = G.M
section
variable {c : Cfg} {lk ro : Bool} {H H1 H2 : Hp} {G G1 G2 : Gh} {fr : Fr} {I : Is} {σ : L2.St}
theorem Ext.refl : Ext ro G H G H := ⟨fun _ _ e _ _ => e, fun _ e => e, fun _ _ e => .inr e, fun _ _ e => e, fun _ _ e => .inl e, rfl, fun _ h => .inl h, List.prefix_refl _, fun _ => ⟨rfl, rfl⟩⟩
theorem Ext.old (a : Ext ro G H G1 H1) {x : Addr} (h : Old H1 x) : Old H x := h.elim (fun z => .inl (a.dom x z)) fun ⟨vs, z⟩ => (a.tp x vs z).imp id fun q => ⟨vs, q⟩
theorem ExtS.old (a : ExtS ro G H G1 H1) {x : Addr} (h : Old H1 x) : Old H x := h.elim (fun z => .inl (a.dom x z)) fun ⟨vs, z⟩ => (a.tp x vs z).imp id fun q => ⟨vs, q⟩
theorem Ext.trans (a : Ext ro G H G1 H1) (b : Ext ro G1 H1 G2 H2) : Ext ro G H G2 H2 where
  keep := fun x o e h t => b.keep x o (a.keep x o e h t) (by
    rcases h with h | h
    · exact .inl h
    · exact .inr fun hx => (a.aI x hx).elim h fun z => by rw [z] at e; cases e) t
  dom := fun x e => a.dom x (b.dom x e)
  tp := fun x vs e => (b.tp x vs e).elim (fun z => .inl (a.dom x z)) (a.tp x vs)
  F := fun x u e => b.F x u (a.F x u e)
  Fn := fun x u e => (b.Fn x u e).elim (a.Fn x u) fun z => .inr (a.old z)
  aF := b.aF.trans a.aF
  aI := fun x h => (b.aI x h).elim (a.aI x) fun z => .inr (a.dom x z)
  M := a.M.trans b.M
  ro := fun r => ⟨(b.ro r).1.trans (a.ro r).1, (b.ro r).2.trans (a.ro r).2⟩
theorem Ext.weak (a : Ext true G H G1 H1) (ro : Bool) : Ext ro G H G1 H1 := ⟨fun x o e _ t => a.keep x o e (.inl rfl) t, a.dom, a.tp, a.F, a.Fn, a.aF, a.aI, a.M, fun _ => a.ro rfl⟩
theorem Ext.s (a : Ext ro G H G1 H1) : ExtS ro G H G1 H1 := ⟨fun x o e h _ t => a.keep x o e h t, a.dom, a.tp, a.F, fun x u e => (a.Fn x u e).imp id .inl, fun x h => .inl (a.aF ▸ h), a.aI, a.M, a.ro⟩
theorem ExtS.refl : ExtS ro G H G H := Ext.refl.s
theorem ExtS.trans (a : ExtS ro G H G1 H1) (b : ExtS ro G1 H1 G2 H2) : ExtS ro G H G2 H2 where
  keep := fun x o e h hf t => b.keep x o (a.keep x o e h hf t) (by
    rcases h with h | h
    · exact .inl h
    · exact .inr fun hx => (a.aI x hx).elim h fun z => by rw [z] at e; cases e) (fun hx => (a.aF x hx).elim hf fun z => by rw [z] at e; cases e) t
  dom := fun x e => a.dom x (b.dom x e)
  tp := fun x vs e => (b.tp x vs e).elim (fun z => .inl (a.dom x z)) (a.tp x vs)
  F := fun x u e => b.F x u (a.F x u e)
  Fn := fun x u e => (b.Fn x u e).elim (a.Fn x u) fun z => z.elim (fun z => .inr (.inl (a.old z))) fun z => (a.aF x z).elim (fun z => .inr (.inr z)) fun z => .inr (.inl (.inl z))
  aF := fun x h => (b.aF x h).elim (a.aF x) fun z => .inr (a.dom x z)
  aI := fun x h => (b.aI x h).elim (a.aI x) fun z => .inr (a.dom x z)
  M := a.M.trans b.M
  ro := fun r => ⟨(b.ro r).1.trans (a.ro r).1, (b.ro r).2.trans (a.ro r).2⟩
/-- a new thing that is not noted -/
theorem Ext.new {p : Addr} {o : HO} (hp : H p = none) : Ext ro G H G (upd H p o) := ⟨fun a u e _ _ => by rw [upd_ne (ne_of_none e hp)]; exact e, fun a e => by
    by_cases h : a = p
    · subst h; exact hp
    · rw [upd_ne h] at e; exact e, fun a vs e => by
    by_cases h : a = p
    · subst h; exact .inl hp
    · rw [upd_ne h] at e; exact .inr e, fun _ _ e => e, fun _ _ e => .inl e, rfl, fun _ h => .inl h, List.prefix_refl _, fun _ => ⟨rfl, rfl⟩⟩
/-- a thing that came since stands still from now on -/
theorem Ext.putO {a : Addr} {u : HO} (x : Ext ro G H G1 H1) (h0 : Old H a) (h4 : G1.F a = none) : Ext ro G H (G1.put a u) H1 :=
  ⟨x.keep, x.dom, x.tp, fun b w e => put_mono h4 b w (x.F b w e), fun b w e => by
    have e : upd G1.F a u b = some w := e
    by_cases hb : b = a
    · subst hb; exact .inr h0
    · rw [upd_ne hb] at e; exact x.Fn b w e, x.aF, x.aI, x.M, x.ro⟩
theorem Ext.put {a : Addr} {u : HO} (x : Ext ro G H G1 H1) (h0 : H a = none) (h4 : G1.F a = none) : Ext ro G H (G1.put a u) H1 := x.putO (.inl h0) h4
theorem ExtS.putO {a : Addr} {u : HO} (x : ExtS ro G H G1 H1) (h0 : Old H a ∨ a ∈ G.aF) (h4 : G1.F a = none) : ExtS ro G H (G1.put a u) H1 :=
  ⟨x.keep, x.dom, x.tp, fun b w e => put_mono h4 b w (x.F b w e), fun b w e => by
    have e : upd G1.F a u b = some w := e
    by_cases hb : b = a
    · subst hb; exact .inr h0
    · rw [upd_ne hb] at e; exact x.Fn b w e, x.aF, x.aI, x.M, x.ro⟩
/-- nothing of the state is touched -/
theorem IsR.mono2 {C : Addr} {F F' : Hp} {M M' : List (Addr × Addr)} (hF : ∀ a u, F a = some u → F' a = some u) (hM : M <+: M') {ps : List (Addr × Addr)} {as : List Addr} (h : IsR C lk F M H ps I as) (k : ∀ a, Kp H H1 a) : IsR C lk F' M' H1 ps I as :=
  h.mono hF hM (fun a _ => k a) fun a p e => k a _ e fun ps z => by cases z
theorem Sx.over (S : Sx c lk G fr I σ H) (x : Ext true G H G1 H1) (sub : ∀ a u, G1.F a = some u → Sub H1 a u) (fine : ∀ a u, G1.F a = some u → Fine u) (tb : LamX.Tabs c.Tb H1) : Sx c lk G1 fr I σ H1 := by
  have k : ∀ a, Kp H H1 a := fun a o e t => x.keep a o e (.inl rfl) t
  obtain ⟨e1, e2⟩ := x.ro rfl
  refine ⟨x.aF ▸ S.fr.mono x.F x.M fun a _ => k a, ?_, by rw [x.aF, e1]; exact S.nd, fun a ha => ?_, sub, fine, tb⟩
  · have q := S.is.mono2 x.F x.M k
    rw [e1]
    rw [e2] at q ⊢
    exact q
  · rw [x.aF, e1] at ha
    cases e : G1.F a with
    | none => rfl
    | some u =>
      rcases x.Fn a u e with z | z
      · rw [S.sep a ha] at z; cases z
      · rcases List.mem_append.mp ha with h | h
        · exact absurd z (S.fr.old a h)
        · exact absurd z (S.is.old a h)
end
end Air
/-! Air: what a term's evaluation says of a run. -/
namespace Air
open PySem PySem.Spec PyProof.Rows L2
variable [Kf]

/-- the language's own part: constants, defs, where things stand -/
structure Lg where
  cn : Str → Option D
  kn : Str → Option (Nat × Nat)
  kw : Kwt
  cf : Str → Bool → List D → Is → R Sl
  c : Cfg
  mg : Str → Option Value
abbrev Lg.K (L : Lg) : PySem.W.Frag := Kf.K

/-- a value and how it lies; H0: the heap ahead -/
inductive Rk (L : Lg) (H0 : Hp) (G : Gh) (H : Hp) : D × Kd → V → Prop
  | fro {d : D} {v : V} : RV G.F G.M v d → Rk L H0 G H (d, .fro) v
  | own {d : D} {s : Sl} {a : Addr} : Sl.inn d = some s → SlAt false G.F G.M H a s → a ∈ G.aF → Rk L H0 G H (d, .own) (.ref a)
  | inst {d : D} {s : Sl} {a : Addr} : Sl.inn d = some s → SlAt true G.F G.M H a s → a ∈ G.aI → Rk L H0 G H (d, .inst) (.ref a)
  | new {d : D} {s : Sl} {a : Addr} : Sl.inn d = some s → SlAt false G.F G.M H a s → H0 a = none → G.F a = none → a ∉ G.aF → a ∉ G.aI → Rk L H0 G H (d, .new) (.ref a)
  | cst {vs : List V} {ds : List D} {a : Addr} : (∀ H', SqT L.K H' a vs) → RVs (fun _ => none) [] vs ds → Rk L H0 G H (.tup ds, .cst) (.ref a)

section
variable {L : Lg} {G : Gh} {H : Hp}
theorem Rk.lg {L' : Lg} {H0 : Hp} {p : D × Kd} {v : V} (h : Rk L H0 G H p v) : Rk L' H0 G H p v := by
  cases h with
  | fro h => exact .fro h
  | own e h m => exact .own e h m
  | inst e h m => exact .inst e h m
  | new e h h0 h1 h2 h3 => exact .new e h h0 h1 h2 h3
  | cst h r => exact .cst h r
end
/-- an exception: its class by name, its fields -/
def XR (L : Lg) (G : Gh) (H : Hp) (x : Ex) (cls : Value) (d : Option Addr) : Prop :=
  L.mg x.cls = some cls ∧ ((x.fs = [] ∧ d = none) ∨ ∃ (a : Addr) (vs : List V), d = some a ∧ H a = some (.xd ((x.fs.map (·.1)).zip vs)) ∧ RVs G.F G.M vs (x.fs.map (·.2)))

/-- what a result says: r of the state G H -/
def PR (L : Lg) (W : WX) (ro : Bool) (G : Gh) (H : Hp) (σ : L2.St) (fr : Fr) {α β : Type} (r : R α) (rel : Gh → Hp → α → β → Prop) (Q : β → Hp → Prop) : Prop := match r with
  | .ok a I' => ∀ v G' H', Ext ro G H G' H' → Sx L.c ro G' fr I' σ H' → rel G' H' a v → Q v H'
  | .exc x I' => ∀ cls d G' H', Ext ro G H G' H' → Sx L.c ro G' fr I' σ H' → XR L G' H' x cls d → W cls d σ H'
  | .bad => False

section
variable {L : Lg} {W : WX} {ro ro' : Bool} {G G1 G2 : Gh} {H H1 H2 : Hp} {σ : L2.St} {fr : Fr} {I I1 : Is} {α β γ δ : Type}
theorem PR.imp {r : R α} {rel rel' : Gh → Hp → α → β → Prop} {Q Q' : β → Hp → Prop} (h : PR L W ro G H σ fr r rel Q) (hr : ∀ G' H' a v, rel' G' H' a v → rel G' H' a v) (hq : ∀ v H', Q v H' → Q' v H') : PR L W ro G H σ fr r rel' Q' := by
  cases r with
  | ok a I' => exact fun v G' H' x S q => hq _ _ (h v G' H' x S (hr _ _ _ _ q))
  | exc x I' => exact h
  | bad => exact h
theorem PR.bind {r : R α} {f : α → Is → R γ} {rel : Gh → Hp → α → β → Prop} {rel' : Gh → Hp → γ → δ → Prop} {Q : δ → Hp → Prop} (h : PR L W ro G H σ fr (r.bind f) rel' Q) :
    PR L W ro G H σ fr r rel (fun v H1 => ∃ a I1 G1, r = .ok a I1 ∧ Ext ro G H G1 H1 ∧ Sx L.c ro G1 fr I1 σ H1 ∧ rel G1 H1 a v ∧ PR L W ro G H σ fr (f a I1) rel' Q) := by
  cases r with
  | ok a I' => exact fun v G' H' x S q => ⟨a, I', G', rfl, x, S, q, h⟩
  | exc x I' => exact h
  | bad => exact h
/-- what a result in ro mode leaves -/
def R.keeps (r : R α) (I : Is) : Prop := match r with
  | .ok _ I' => I' = I
  | .exc _ I' => I' = I
  | .bad => True
theorem Sx.strong (S1 : Sx L.c ro G1 fr I1 σ H1) (x : Ext true G1 H1 G2 H2) (S : Sx L.c true G2 fr I1 σ H2) : Sx L.c ro G2 fr I1 σ H2 := S1.over x S.sub S.fine S.tb
theorem PR.at {r : R α} {rel rel1 : Gh → Hp → α → β → Prop} {Q : β → Hp → Prop} (x : Ext ro G H G1 H1) (S1 : Sx L.c ro G1 fr I1 σ H1) (hr : ro' = ro ∨ ro' = true ∧ r.keeps I1)
    (hrel : ∀ G' H' a v, Ext ro' G1 H1 G' H' → Sx L.c ro' G' fr (match r with | .ok _ I' => I' | _ => I1) σ H' → rel1 G' H' a v → rel G' H' a v) (h : PR L W ro G H σ fr r rel Q) : PR L W ro' G1 H1 σ fr r rel1 Q := by
  rcases hr with rfl | ⟨rfl, hI⟩
  · cases r with
    | ok a I' => exact fun v G' H' y S q => h v G' H' (x.trans y) S (hrel _ _ _ _ y S q)
    | exc e I' => exact fun cls d G' H' y S q => h cls d G' H' (x.trans y) S q
    | bad => exact h
  · cases r with
    | ok a I' =>
      obtain rfl : I' = I1 := hI
      exact fun v G' H' y S q => h v G' H' (x.trans (y.weak ro)) (S1.strong y S) (hrel _ _ _ _ y S q)
    | exc e I' =>
      obtain rfl : I' = I1 := hI
      exact fun cls d G' H' y S q => h cls d G' H' (x.trans (y.weak ro)) (S1.strong y S) q
    | bad => exact h

theorem inn_ne {d : D} {s : Sl} (h : Sl.inn d = some s) : s ≠ .no ∧ (∀ d, s ≠ .val d) := by
  cases d <;> simp [Sl.inn] at h <;> subst h <;> simp
theorem SlAt.any {lk : Bool} {F : Hp} {M : List (Addr × Addr)} {a : Addr} : ∀ {s : Sl}, SlAt lk F M H a s → SlAt true F M H a s
  | .lst _, ⟨vs, e, r⟩ => ⟨vs, e, r⟩
  | .dK _ _, ⟨vs, e, l, r⟩ => ⟨vs, e.elim .inl fun z => .inr ⟨rfl, z.2⟩, l, r⟩
  | .dT _ _, ⟨vs, e, l, r⟩ => ⟨vs, e.elim .inl fun z => .inr ⟨rfl, z.2⟩, l, r⟩
/-- behind a later term -/
theorem Rk.later {H0 : Hp} {p : D × Kd} {v : V} {lk : Bool} (S : Sx L.c lk G fr I σ H) (h : Rk L H0 G H p v) (x : Ext (ro || isInst p.2) G H G1 H1) : Rk L H0 G1 H1 p v := by
  cases h with
  | fro h => exact .fro (h.mono x.F x.M)
  | own e h m =>
    have ni : ∀ a ∈ G.aF, a ∉ G.aI := fun a h1 h2 => (List.nodup_append.mp S.nd).2.2 a h1 a h2 rfl
    exact .own e (h.mono x.F x.M fun o q t => x.keep _ o q (.inr (ni _ m)) t) (x.aF ▸ m)
  | inst e h m =>
    have r : (ro || isInst Kd.inst) = true := by simp [isInst]
    exact .inst e (h.mono x.F x.M fun o q t => x.keep _ o q (.inl r) t) ((x.ro r).1 ▸ m)
  | new e h h0 h1 h2 h3 =>
    have ha := h.some
    refine .new e (h.mono x.F x.M fun o q t => x.keep _ o q (.inr h3) t) h0 ?_ (x.aF ▸ h2) fun z => (x.aI _ z).elim h3 fun z => ha z
    cases q : G1.F _ with
    | none => rfl
    | some u => exact ((x.Fn _ u q).elim (fun z => by rw [h1] at z; cases z) fun z => absurd z h.old)
  | cst h r => exact .cst h r
/-- seen from ahead -/
theorem Rk.from {H0 : Hp} {p : D × Kd} {v : V} (h : Rk L H1 G2 H2 p v) (k : ∀ a, H1 a = none → H0 a = none) : Rk L H0 G2 H2 p v := by
  cases h with
  | fro h => exact .fro h
  | own e h m => exact .own e h m
  | inst e h m => exact .inst e h m
  | new e h h0 h1 h2 h3 => exact .new e h (k _ h0) h1 h2 h3
  | cst h r => exact .cst h r

/-! ### what is read off -/
theorem Rk.non {k : Kd} {v : V} {H0 : Hp} (h : Rk L H0 G H (.non, k) v) : v = .non := by
  cases h with
  | fro h => cases h; rfl
  | own e | inst e | new e => cases e
theorem Rk.bl {k : Kd} {v : V} {b : Bool} {H0 : Hp} (h : Rk L H0 G H (.bl b, k) v) : v = .bl b := by
  cases h with
  | fro h => cases h; rfl
  | own e | inst e | new e => cases e
theorem Rk.int {k : Kd} {v : V} {i : Int} {H0 : Hp} (h : Rk L H0 G H (.int i, k) v) : v = .int i := by
  cases h with
  | fro h => cases h; rfl
  | own e | inst e | new e => cases e
theorem Rk.str {k : Kd} {v : V} {z : Str} {H0 : Hp} (h : Rk L H0 G H (.str z, k) v) : v = .str z ∧ PyData.strOk z = true := by
  cases h with
  | fro h => cases h; exact ⟨rfl, by assumption⟩
  | own e | inst e | new e => cases e
theorem Rk.lst {k : Kd} {v : V} {ds : List D} {H0 : Hp} {lk : Bool} (S : Sx L.c lk G fr I σ H) (h : Rk L H0 G H (.lst ds, k) v) : ∃ a vs, v = .ref a ∧ H a = some (.lst vs) ∧ RVs G.F G.M vs ds := by
  cases h with
  | fro h =>
    cases h with
    | lst e r => exact ⟨_, _, rfl, (S.sub _ _ e).lst, r⟩
  | own e h | inst e h | new e h =>
    simp only [Sl.inn, Option.some.injEq] at e
    subst e
    obtain ⟨vs, e, r⟩ := h
    exact ⟨_, vs, rfl, e, r⟩
theorem Rk.tup {k : Kd} {v : V} {ds : List D} {H0 : Hp} {lk : Bool} (S : Sx L.c lk G fr I σ H) (hk : k ≠ .cst) (h : Rk L H0 G H (.tup ds, k) v) : ∃ a vs, v = .ref a ∧ H a = some (.tup vs) ∧ RVs G.F G.M vs ds := by
  cases h with
  | fro h =>
    cases h with
    | tup e r => exact ⟨_, _, rfl, (S.sub _ _ e).tup, r⟩
  | own e h | inst e h | new e h => cases e
  | cst => exact absurd rfl hk
theorem RVs.still0 : ∀ {vs : List V} {ds : List D}, RVs (fun _ => none) [] vs ds → ∀ F M, RVs F M vs ds := fun h F M => h.mono (fun _ _ e => by cases e) ⟨M, rfl⟩
/-- a tuple, maybe the top's -/
theorem Rk.tupK {k : Kd} {v : V} {ds : List D} {H0 : Hp} {lk : Bool} (S : Sx L.c lk G fr I σ H) (h : Rk L H0 G H (.tup ds, k) v) : ∃ a vs, v = .ref a ∧ SqT L.K H a vs ∧ RVs G.F G.M vs ds := by
  cases h with
  | fro h =>
    cases h with
    | tup e r => exact ⟨_, _, rfl, .of (S.sub _ _ e).tup, r⟩
  | own e h | inst e h | new e h => cases e
  | cst h r => exact ⟨_, _, rfl, h H, r.still0 _ _⟩
theorem Rk.scr {k : Kd} {v : V} {ns : List Int} {H0 : Hp} {lk : Bool} (S : Sx L.c lk G fr I σ H) (h : Rk L H0 G H (.scr ns, k) v) : ∃ a, v = .ref a ∧ SqL L.K H a (ns.map V.int) := by
  cases h with
  | fro h =>
    cases h with
    | scr e => exact ⟨_, rfl, .inl (.inr ⟨_, (S.sub _ _ e).frz⟩)⟩
    | scrL e => exact ⟨_, rfl, .of (S.sub _ _ e).lst⟩
    | scrK e => exact ⟨_, rfl, e H⟩
  | own e h | inst e h | new e h => cases e
theorem Rk.dK {k : Kd} {v : V} {ks : List Ky} {ds : List D} {H0 : Hp} {lk : Bool} (S : Sx L.c lk G fr I σ H) (h : Rk L H0 G H (.dK ks ds, k) v) : ∃ a vs, v = .ref a ∧ Rd H a (.dK (ks.zip vs)) ∧ KL kyOk ks vs ∧ RVs G.F G.M vs ds := by
  cases h with
  | fro h =>
    cases h with
    | dK e l r => exact ⟨_, _, rfl, (S.sub _ _ e).rd, l, r⟩
  | own e h | inst e h | new e h =>
    simp only [Sl.inn, Option.some.injEq] at e
    subst e
    obtain ⟨vs, e, l, r⟩ := h
    exact ⟨_, vs, rfl, e.rd, l, r⟩
theorem Rk.dT {k : Kd} {v : V} {ks : List (List Ky)} {ds : List D} {H0 : Hp} {lk : Bool} (S : Sx L.c lk G fr I σ H) (h : Rk L H0 G H (.dT ks ds, k) v) : ∃ a vs, v = .ref a ∧ Rd H a (.dT (ks.zip vs)) ∧ KL kysOk ks vs ∧ RVs G.F G.M vs ds := by
  cases h with
  | fro h =>
    cases h with
    | dT e l r => exact ⟨_, _, rfl, (S.sub _ _ e).rd, l, r⟩
  | own e h | inst e h | new e h =>
    simp only [Sl.inn, Option.some.injEq] at e
    subst e
    obtain ⟨vs, e, l, r⟩ := h
    exact ⟨_, vs, rfl, e.rd, l, r⟩

/-! ### deep data -/
mutual
theorem RV.dp {lk : Bool} {c : Cfg} (S : Sx c lk G fr I σ H) : ∀ {v : V} {d : D}, RV G.F G.M v d → D.eqc d = true → Dp Kf.K H v d.py ∧ d.py.canLay0 = true
  | _, _, .non, _ => ⟨.non, rfl⟩
  | _, _, .bl b, _ => ⟨.bl b, rfl⟩
  | _, _, .int i, _ => ⟨.int i, rfl⟩
  | _, _, .str z h, _ => ⟨.str z, h⟩
  | _, _, .tup e r, q => by
    have ⟨h1, h2⟩ := RVs.dp S r (by simpa [D.eqc] using q)
    exact ⟨by rw [D.py]; exact .tup (.of (S.sub _ _ e).tup) h1, by simpa [D.py, PyData.canLay0] using h2⟩
  | _, _, .lst e r, q => by
    have ⟨h1, h2⟩ := RVs.dp S r (by simpa [D.eqc] using q)
    exact ⟨by rw [D.py]; exact .lst (.of (S.sub _ _ e).lst) h1, by simpa [D.py, PyData.canLay0] using h2⟩
  | _, _, .scr (ns := ns) e, _ => by
    have h1 : ∀ ns : List Int, DpAll Kf.K H (ns.map V.int) (ns.map PyData.int) ∧ PyData.canLayAll0 (ns.map PyData.int) = true := fun ns => by
      induction ns with
      | nil => exact ⟨.nil, rfl⟩
      | cons n ns ih => exact ⟨.cons (.int n) ih.1, by simp [PyData.canLayAll0, PyData.canLay0, ih.2]⟩
    exact ⟨by rw [D.py]; exact .lst (.inl (.inr ⟨_, (S.sub _ _ e).frz⟩)) (h1 ns).1, by simpa [D.py, PyData.canLay0] using (h1 ns).2⟩
  | _, _, .scrL (ns := ns) e, _ => by
    have h1 : ∀ ns : List Int, DpAll Kf.K H (ns.map V.int) (ns.map PyData.int) ∧ PyData.canLayAll0 (ns.map PyData.int) = true := fun ns => by
      induction ns with
      | nil => exact ⟨.nil, rfl⟩
      | cons n ns ih => exact ⟨.cons (.int n) ih.1, by simp [PyData.canLayAll0, PyData.canLay0, ih.2]⟩
    exact ⟨by rw [D.py]; exact .lst (.of (S.sub _ _ e).lst) (h1 ns).1, by simpa [D.py, PyData.canLay0] using (h1 ns).2⟩
  | _, _, .scrK (ns := ns) e, _ => by
    have h1 : ∀ ns : List Int, DpAll Kf.K H (ns.map V.int) (ns.map PyData.int) ∧ PyData.canLayAll0 (ns.map PyData.int) = true := fun ns => by
      induction ns with
      | nil => exact ⟨.nil, rfl⟩
      | cons n ns ih => exact ⟨.cons (.int n) ih.1, by simp [PyData.canLayAll0, PyData.canLay0, ih.2]⟩
    exact ⟨by rw [D.py]; exact .lst (e H) (h1 ns).1, by simpa [D.py, PyData.canLay0] using (h1 ns).2⟩
theorem RVs.dp {lk : Bool} {c : Cfg} (S : Sx c lk G fr I σ H) : ∀ {vs : List V} {ds : List D}, RVs G.F G.M vs ds → D.eqcs ds = true → DpAll Kf.K H vs (D.pys ds) ∧ PyData.canLayAll0 (D.pys ds) = true
  | _, _, .nil, _ => ⟨.nil, rfl⟩
  | _, _, .cons r rs, q => by
    have q : (D.eqc _ && D.eqcs _) = true := q
    rw [Bool.and_eq_true] at q
    have ⟨h1, h2⟩ := RV.dp S r q.1
    have ⟨h3, h4⟩ := RVs.dp S rs q.2
    exact ⟨.cons h1 h3, by simp [D.pys, PyData.canLayAll0, h2, h4]⟩
end
theorem Rk.dp {K : PySem.W.Frag} {k : Kd} {v : V} {d : D} {H0 : Hp} {lk : Bool} (hK : L.K = K) (S : Sx L.c lk G fr I σ H) (h : Rk L H0 G H (d, k) v) (q : D.eqc d = true) : Dp K H v d.py ∧ d.py.canLay0 = true := by
  subst hK
  have lists : ∀ ds, d = .lst ds → Dp L.K H v d.py ∧ d.py.canLay0 = true := fun ds e => by
    subst e
    obtain ⟨a, vs, rfl, e, r⟩ := h.lst S
    have ⟨h1, h2⟩ := RVs.dp S r (by simpa [D.eqc] using q)
    exact ⟨by rw [D.py]; exact .lst (.of e) h1, by simpa [D.py, PyData.canLay0] using h2⟩
  cases h with
  | fro h => exact h.dp S q
  | own e h | inst e h | new e h =>
    cases d with
    | lst ds => exact lists ds rfl
    | dK _ _ => cases q
    | dT _ _ => cases q
    | _ => cases e
  | cst h r =>
    have ⟨h1, h2⟩ := RVs.dp S (r.still0 G.F G.M) (by simpa [D.eqc] using q)
    exact ⟨by rw [D.py]; exact .tup (h H) h1, by simpa [D.py, PyData.canLay0] using h2⟩
mutual
theorem dep_py : ∀ d : D, d.eqc = true → d.py.depth ≤ d.dep
  | .non, _ => Nat.zero_le _
  | .bl _, _ => Nat.zero_le _
  | .int _, _ => Nat.zero_le _
  | .str _, _ => Nat.zero_le _
  | .tup xs, h => by
    have := deps_py xs (by simpa [D.eqc] using h)
    simp only [D.py, PyData.depth, D.dep]; omega
  | .lst xs, h => by
    have := deps_py xs (by simpa [D.eqc] using h)
    simp only [D.py, PyData.depth, D.dep]; omega
  | .scr ns, _ => by
    have : ∀ ns : List Int, PyData.depthAll (ns.map PyData.int) ≤ 1 := fun ns => by
      induction ns with
      | nil => simp [PyData.depthAll]
      | cons n ns ih => simp only [List.map_cons, PyData.depthAll, PyData.depth]; omega
    have := this ns
    simp only [D.py, PyData.depth, D.dep]; omega
theorem deps_py : ∀ ds : List D, D.eqcs ds = true → PyData.depthAll (D.pys ds) ≤ D.deps ds
  | [], _ => Nat.zero_le _
  | d :: ds, h => by
    have h : (D.eqc d && D.eqcs ds) = true := h
    rw [Bool.and_eq_true] at h
    have h1 := dep_py d h.1
    have h2 := deps_py ds h.2
    simp only [D.pys, PyData.depthAll, D.deps]; omega
end
end
end Air
/-! Air: a lambda handed to a def; an exception that is told. -/
namespace Air
open PySem PySem.Spec PyProof.Rows L2 LamX
/-- only tables grow, and new things come -/
structure Gro (H H1 : Hp) : Prop where
  keep : ∀ b o, H b = some o → (∀ ps, o ≠ .tbl ps) → H1 b = some o
  dom : ∀ b, H1 b = none → H b = none
  tp : ∀ b vs, H1 b = some (.tup vs) → H b = none ∨ H b = some (.tup vs)
theorem Gro.refl (H : Hp) : Gro H H := ⟨fun _ _ e _ => e, fun _ e => e, fun _ _ e => .inr e⟩
/-- what a def that makes lambdas knows of itself -/
structure LamA (X : Cx) (T : List (Addr × Str)) : Prop where
  ex : ∃ c P, TabB X.base X.mg c P ∧ X.env.code = .ref c ∧ (P, X.env.qual ++ "<lambda>") ∈ T ∧ ∀ p ∈ T, p.1 = P → p.2 = X.env.qual ++ "<lambda>"
section
variable {X : Cx} {pins : List (Addr × Obj)} {σ : L2.St} {H : Hp} {s : Shared}
theorem lam_new {T : List (Addr × Str)} {ar : Arguments} {body : Expr} {sc : Scope} {pos : Pos} {E Q : Value → Shared → Prop} (J : Inv X pins σ H s) (la : LamA X T) (hT : Tabs T H) (hd : defaultsOf ar X.env = ([], []))
    (hs : LamS X.env.scope sc)
    (h : ∀ (f k : Addr) (pm ct : Value) (H1 : Hp) (s1 : Shared), Inv X pins σ H1 s1 → Gro H H1 → Tabs T H1 → H1 f = none → f ∉ frs X.stack → H1 k = some (CodeO k (X.env.qual ++ "<lambda>")) →
      s1.heap.get? f = some (PySem.W.kla_obj "<lambda>" (X.env.qual ++ "<lambda>") ar body sc (cloFrom X.env.cells sc.names []) pm k ct) → Q (.ref f) s1) :
    wpAny (model X.prog X.w) X.A (eval (.Lambda ar body sc pos) X.env) Q E s := by
  obtain ⟨cc, P, TB, hcode, hm, hu⟩ := la.ex
  obtain ⟨tb, hP, h3, ha⟩ := hT _ hm
  have hbm := TB.bm.keeps J.bk
  have hget := J.hok P _ hP
  have far : ∀ f, s.heap.objs.size ≤ f → f ∉ frs X.stack := fun f hf z => by
    rcases List.mem_cons.mp (J.stkSub _ z) with e | e
    · have q := J.lt
      rw [← e] at q
      exact absurd q (Nat.not_lt.mpr hf)
    · exact J.nofs hf e
  refine PySem.W.kla_eval hd ?_
  have cl := closure_ok (hs.has J.ok)
  cases q : codeAmong pos tb.toList with
  | some cv =>
    obtain ⟨k, rfl, hk⟩ := ha pos cv q
    refine PySem.W.kla_makeFunctionHit (mg := X.mg) (P := P) (ps := tb) cl J.ok.glob (J.mod.glob.keeps J.bk) hcode (TB.code.keeps J.bk) hget h3 q hbm fun ct h' tk kp hsz => ?_
    exact h _ k _ ct H _ (J.kept fun b o e => Heap.get?_push_of_some _ (kp b o e)) (.refl H) hT (J.hok.fresh hsz) (far _ hsz) hk (Heap.get?_push_size _ rfl)
  | none =>
    refine PySem.W.kla_makeFunction (mg := X.mg) (P := P) (ps := tb) cl J.ok.glob (J.mod.glob.keeps J.bk) hcode (TB.code.keeps J.bk) hget h3 q TB.gP hbm fun k ct h' tk kp lo hi rec tab => ?_
    obtain ⟨k2, oc, vs, t, z, e1, e2, e3⟩ := rec
    cases z
    have nk : H k = none := J.hok.fresh lo
    have nP : P ≠ k := ne_of_none hP nk
    have big : s.heap.objs.size ≤ h'.objs.size := Nat.le_trans lo (Nat.le_of_lt hi)
    generalize hw : tb ++ #[rawInt pos.line, rawInt pos.col, .ref k] = tw at *
    have J1 := inv_table (t' := tk) (more := #[rawInt pos.line, rawInt pos.col, .ref k]) (h' := h'.push (PySem.W.kla_obj "<lambda>" (X.env.qual ++ "<lambda>") ar body sc (cloFrom X.env.cells sc.names []) ((X.mg "__name__").getD .none) k ct)) J hP
      (fun b o hb e => Heap.get?_push_of_some _ (kp b o hb e)) (by rw [hw]; exact Heap.get?_push_of_some _ tab) lo ⟨oc, vs, t, Heap.get?_push_of_some _ e1, e2, e3⟩
    rw [hw] at J1
    have kk : ∀ b o, H b = some o → (∀ ps, o ≠ .tbl ps) → upd (upd H P (.tbl tw)) k (CodeO k (X.env.qual ++ "<lambda>")) b = some o := fun b o e n => by
      rw [upd_ne (ne_of_none e nk), upd_ne]
      · exact e
      · rintro rfl
        rw [hP] at e
        exact n _ (Option.some.inj e).symm
    refine h _ k _ ct _ _ J1 ⟨kk, fun b e => ?_, fun b vs e => ?_⟩ (fun p hp => ?_) ?_ (far _ big) upd_same (Heap.get?_push_size _ rfl)
    · by_cases hb : b = k
      · rw [hb]; exact nk
      · rw [upd_ne hb] at e
        by_cases hb2 : b = P
        · rw [hb2, upd_same] at e; cases e
        · rw [upd_ne hb2] at e; exact e
    · by_cases hb : b = k
      · rw [hb]; exact .inl nk
      · rw [upd_ne hb] at e
        by_cases hb2 : b = P
        · rw [hb2, upd_same] at e; cases e
        · rw [upd_ne hb2] at e; exact .inr e
    · by_cases hb : p.1 = P
      · rw [hu p hp hb, hb]
        refine ⟨tw, by rw [upd_ne nP, upd_same], ?_, fun p' cv hcv => ?_⟩
        · rw [← hw, Array.toList_append]
          exact PySem.TriplesOk_snoc _ _ _ _ h3
        · rw [← hw, Array.toList_append] at hcv
          rcases among_app _ h3 hcv with z | z
          · obtain ⟨c0, q1, q2⟩ := ha p' cv z
            exact ⟨c0, q1, kk _ _ q2 codeO_ne⟩
          · exact ⟨k, z, upd_same⟩
      · obtain ⟨ps', a1, a2, a3⟩ := hT p hp
        refine ⟨ps', by rw [upd_ne (ne_of_none a1 nk), upd_ne hb]; exact a1, a2, fun p' cv hcv => ?_⟩
        obtain ⟨c0, q1, q2⟩ := a3 p' cv hcv
        exact ⟨c0, q1, kk _ _ q2 codeO_ne⟩
    · rw [upd_ne (Nat.ne_of_gt hi), upd_ne (Nat.ne_of_gt (Nat.lt_of_lt_of_le (Heap.lt_size hget) big))]
      exact J.hok.fresh big
end
/-- the def that calls what it gets, as its text says -/
structure TelD (K : PySem.W.Frag) (mg : Str → Option Value) (x : Str) (TT : (XK → Hp → VK → Prop) → Hp → VK → Prop) : Prop where
  ex : ∃ (g : Addr) (pg : Arguments) (bg : List Stmt) (sg : Scope) (dV kV doc pm cdv ct oc : Value) (an od : Option Addr) (osl : Array (Option Value)) (Ng : List Str) (a : Str),
    mg x = some (.ref g) ∧ PySem.W.keepIn K (.ref g) = true ∧ K.lookup g = some ⟨oc, od, .func (PySem.W.fnOf x x pg bg sg dV kV doc pm an cdv ct), osl⟩ ∧ PySem.W.codeIn K cdv x = true ∧ L2.Binds K (PySem.W.fnOf x x pg bg sg dV kV doc pm an cdv ct) [a] [] ∧ FnScope Ng [a] sg ∧
    Ng[0]? = some a ∧ Vis sg a ∧ (a == ("__debug__" : Str)) = false ∧ (a == ("__classdict__" : Str)) = false ∧
    ∀ (X : Cx) (q : Str), X.K = K → X.mg = mg → Room 3 X.A → GivesTo X Ng x sg g cdv bg a q TT
/-- told(lambda: body) -/
theorem pe_told {X : Cx} {T : List (Addr × Str)} {TT : (XK → Hp → VK → Prop) → Hp → VK → Prop} {x : Str} {k : Nat} {ar : Arguments} {body : Expr} {sc : Scope} {t : XK → TE} {p lpos pos : Pos} (tel : TelD X.K X.mg x TT) (hg : Gl X x) (la : LamA X T) (hr : Room (k + 3) X.A) (hs : LamS X.env.scope sc)
    (hd : defaultsOf ar X.env = ([], [])) (hbind : ∀ (q : Str) (cl : List (Str × Addr)) (pm cv ctv : Value), bindArgs (PySem.W.kla_fn "<lambda>" q ar body sc cl pm cv ctv) ⟨[], []⟩ = pure [])
    (hbody : ∀ (A : Around) (outer : List Env) (s : Shared) (H : Hp) (E : XK) (f c' : Addr), Room k (A.deeper (lamEnv X sc s.heap.objs.size f c')) → PE (lamCx X A outer s H E sc f c') body (t E))
    (hdb : (x == ("__debug__" : Str)) = false) :
    PE X (.Call (.Name x p) [.Lambda ar body sc lpos] [] pos) (fun σ H Q => Tabs T H ∧ ∀ H1, Gro H H1 → Tabs T H1 → TT (fun E H' Q' => t E σ H' Q') H1 Q) := by
  obtain ⟨g, pg, bg, sg, dV, kV, doc, pm, cdv, ct, oc, an, od, osl, Ng, a, m1, m2, m3, m4, m5, m6, m7, m8, m9, m10, G⟩ := tel.ex
  refine ⟨fun pins s σ H Q J h => ?_⟩
  refine wpAny_Call_Name_kw (ld_glob J hg m1 ?_ hdb)
  refine PySem.W.callWith_K (h₀ := X.base) J.ok.mod.kin m2 ?_ (by rfl) (by rfl)
  show wpAny _ _ (spliced ((false, eval (.Lambda ar body sc lpos) X.env) :: backTo pos (starEach [] X.env))) _ _ s
  refine Calls.spliced_cons (lam_new J la h.1 hd hs fun f c' pm' ctv H1 s' J1 eN T1 hfn hfr hco hf => Calls.spliced_nil ⟨J1.kIn, ?_⟩)
  have rc : codeAny (model X.prog X.w) X.A (.call (.ref g) ⟨[.ref f], []⟩) (CR C8.CX0 X.stack X.prog X.w H1 s' Q C8.E0) s' := by
    refine run_ofS (N := Ng) (ps := [a]) (us := [.ref f]) (vs := [.ref f]) (k := k + 2) m3 m4 m6 hr J1.env0 (m5 s' [.ref f] J1.kIn rfl) (.cons rfl .nil) rfl fun hr' => ?_
    obtain ⟨t', ht', hq'⟩ := G X _ rfl rfl (hr.mono (by omega)) f c' s' H1 Q (fun E H' Q' => t E σ H' Q') (fun W pn xe E p1 p2 tk hW => pe_act (i := 0) (k := k) J1 hs hf hfn hfr (hbind _ _ _ _ _) tk hW (hr'.mono (by omega)) (fun A outer s H hr2 => hbody A outer s H E f c' hr2) m7 m8 m9 m10) hco (h.2 H1 eN T1)
    exact ⟨t', ht'.nox, hq'⟩
  refine wpAny_call (codeAny_mono rc fun r s2 hq => ?_)
  cases r with
  | error e => exact (show False from hq).elim
  | ok fl =>
    cases fl with
    | ret u => exact J1.after hq
    | next => exact hq.elim
    | brk => exact hq.elim
    | cont => exact hq.elim
end Air
/-! Air: an exception that is told (2): the handler. -/
namespace Air
open PySem PySem.Spec PyProof.Rows L2 LamX L2H
/-- a def called while an exception p is handled -/
theorem hot_run {P : Program} {w : World} {K : PySem.W.Frag} {mg : Str → Option Value} {base : Heap} {g : Addr} {nm : Str} {ar : Arguments} {bd : List Stmt} {sc : Scope} {dV kV doc pm cdv ct oc : Value} {an od : Option Addr} {osl : Array (Option Value)} {N ps : List Str}
    (lk : K.lookup g = some ⟨oc, od, .func (PySem.W.fnOf nm nm ar bd sc dV kV doc pm an cdv ct), osl⟩) (hcd : PySem.W.codeIn K cdv nm = true) (S : FnScope N ps sc) {A : Around} {outer : List Env} {s : Shared} {H : Hp} {as : Args} {us : List Value} {vs : List V} {Q : VK} {p : Addr × Obj}
    (hl : vs.length = ps.length) (hp : PinOk outer H s p) (dp : A.depth < recursionLimit) (e0 : Env0 P w K mg base A outer s H) (hb : BindsTo s (PySem.W.fnOf nm nm ar bd sc dV kV doc pm an cdv ct) as (ps.zip us)) (r : Vals vs us)
    (walk : ∃ t, PSs (cxH C8.CX0 P w K mg base N nm sc g cdv A outer s H C8.E0 p) bd t ∧ t { nx := fun _ H' => Q .non H', rt := Q } (L2.start N vs) H) :
    codeAny (model P w) A (.call (.ref g) as) (CR C8.CX0 outer P w H s Q C8.E0) s := by
  have up : ∀ b o, base.get? b = some o → s.heap.get? b = some o := fun b o e => (e0.bs b o e).1
  have KX := e0.mod.kin.keeps up
  have kinds : ∀ y ∈ ps.zip us, sc.names.lookup y.1 = some .local ∨ (sc.names.lookup y.1 = some .cell ∧ ((cellsFrom (s.heap.objs.size + 1) sc.names []).lookup y.1).isSome = true) := fun y hy => by
    obtain ⟨n, v⟩ := y
    rcases S.par n (List.of_mem_zip hy).1 with q | q
    · exact .inl q
    · exact .inr ⟨q, PySem.W.cellsFrom_some _ _ _ (.inl q)⟩
  refine codeAny_call_function dp (KX _ _ lk) rfl S.co S.gen rfl (PySem.W.codeRec_of KX hcd) (hb _ _ _ _ ?_)
  refine wpAny_newFunctionEnv_cells S.kind kinds fun env he s1 x => ?_
  cases he
  refine ⟨(e0.mod.nolimit.keeps up).keeps x.toInCall.keep, codeAny_func ?_⟩
  obtain ⟨t, ht, hq⟩ := walk
  refine wpAny_mono (ht.run [] s1 (L2.start N vs) H _ (inv_startH S hp e0 hl r x) hq) (fun fl s' hs => ?_) fun _ _ z => z
  cases fl with
  | ret u => obtain ⟨v, σ', H', J, rv, q⟩ := hs; exact ⟨v, H', J.os, J.bare, J.base, J.hok, rv, q⟩
  | next => obtain ⟨σ', H', J, q⟩ := hs; exact ⟨.non, H', J.os, J.bare, J.base, J.hok, rfl, q⟩
  | brk => obtain ⟨_, _, _, q⟩ := hs; exact q.elim
  | cont => obtain ⟨_, _, _, q⟩ := hs; exact q.elim
/-- the exception's own dict, if there is one -/
def DOk (d : Option Addr) (H : Hp) : Prop := d = none ∨ ∃ a fs, d = some a ∧ H a = some (.xd fs)
/-- what the class's name is asked of -/
def SpC (mg : Str → Option Value) (ns : List Str) (cls : Value) (d : Option Addr) (H : Hp) (Q : VK) : Prop :=
  ∃ nm ∈ ns, mg nm = some cls ∧ DOk d H ∧ ∀ H2, (∀ b o, H b = some o → H2 b = some o) → Q (.str nm) H2
/-- the def that tells an exception's class, as its text says -/
structure ClsD (K : PySem.W.Frag) (mg : Str → Option Value) (y : Str) (ns : List Str) : Prop where
  ex : ∃ (g : Addr) (ar : Arguments) (bd : List Stmt) (sc : Scope) (dV kV doc pm cdv ct oc : Value) (an od : Option Addr) (osl : Array (Option Value)) (N : List Str) (a : Str),
    mg y = some (.ref g) ∧ PySem.W.keepIn K (.ref g) = true ∧ K.lookup g = some ⟨oc, od, .func (PySem.W.fnOf y y ar bd sc dV kV doc pm an cdv ct), osl⟩ ∧ PySem.W.codeIn K cdv y = true ∧ L2.Binds K (PySem.W.fnOf y y ar bd sc dV kV doc pm an cdv ct) [a] [] ∧ FnScope N [a] sc ∧
    ∀ (P : Program) (w : World) (base : Heap) (A : Around) (outer : List Env) (s : Shared) (H : Hp) (p : Addr × Obj) (cls : Value) (d : Option Addr) (Q : VK), RoomH 0 (A.deeper (envOfC y sc s.heap.objs.size g cdv)) → Zc cls d p.2 → (∃ vs, p.2.data = .fields vs) → SpC mg ns cls d H Q →
      ∃ t, PSs (cxH C8.CX0 P w K mg base N y sc g cdv A outer s H C8.E0 p) bd t ∧ t { nx := fun _ H' => Q .non H', rt := Q } (L2.start N [.ref p.1]) H
theorem pe_cls {X : Cx} {ns : List Str} {y n : Str} {a : Addr} {oe : Obj} {pn : List (Addr × Obj)} {cls : Value} {d : Option Addr} {i : Nat} {q p pos : Pos} (C : ClsD X.K X.mg y ns) (hr : Room 1 X.A) (hg : Gl X y) (hdb : (y == ("__debug__" : Str)) = false)
    (hz : Zc cls d oe) (hf : ∃ vs, oe.data = .fields vs) (hi : X.N[i]? = some n) (hv : Vis X.env.scope n) (hd : (n == ("__debug__" : Str)) = false) (hc : (n == ("__classdict__" : Str)) = false) :
    PE (X.suite a ((a, oe) :: pn)) (.Call (.Name y q) [.Name n p] [] pos) (fun σ H Q => (∃ σ' : L2.St, σ = σ'.set i (some (.ref a))) ∧ SpC X.mg ns cls d H Q) := by
  obtain ⟨g, ar, bd, sc, dV, kV, doc, pm, cdv, ct, oc, an, od, osl, N, b, m1, m2, m3, m4, m5, m6, wk⟩ := C.ex
  refine ⟨fun pins s σ H Q J h => ?_⟩
  have at_ : σ[i]? = some (some (.ref a)) := by
    obtain ⟨σ', e⟩ := h.1
    have l1 : σ.length = X.N.length := J.len
    have l2 := (List.getElem?_eq_some_iff.mp hi).1
    have l3 : i < σ'.length := by rw [e, List.length_set] at l1; omega
    rw [e, List.getElem?_set_self l3]
  refine wpAny_Call_Name_kw (ld_glob J hg m1 ?_ hdb)
  have arg : PA (X.suite a ((a, oe) :: pn)) [.Name n p] (tCons (tVar i) tNil) := pa_cons (pe_var hi hv hd hc) pa_nil
  refine PySem.W.callWith_K (h₀ := X.base) J.ok.mod.kin m2 (thn (arg.run pos pins s σ H (fun vs H1 => vs = [V.ref a] ∧ H1 = H) J ⟨_, at_, rfl, rfl⟩) fun us s1 ⟨vs, H1, J1, r, e1, e2⟩ => ⟨J1.kIn, ?_⟩) (by rfl) (by rfl)
  subst e1 e2
  obtain ⟨u, rfl, ru⟩ := r.one
  cases (show u = Value.ref a from ru)
  have P1 := J1.pin (a, oe) (List.mem_append_left _ List.mem_cons_self)
  have hp : PinOk X.stack H1 s1 (a, oe) := ⟨P1.1, P1.2.1, fun hm => (List.mem_cons.mp (J1.stkSub a hm)).elim P1.2.2.1 P1.2.2.2.1, P1.2.2.2.2⟩
  have hr' : RoomH 1 (X.A.mark (some (.ref a))) := ⟨hr.dp, hr.un⟩
  refine wpAny_call (codeAny_mono (hot_run (us := [.ref a]) (vs := [.ref a]) m3 m4 m6 (Q := Q) rfl hp hr'.depth J1.env0 (m5 s1 [.ref a] J1.kIn rfl) r (wk _ _ _ _ _ _ _ (a, oe) cls d Q (hr'.deeper _) hz hf h.2)) fun r s' hq => ?_)
  cases r with
  | error e => exact (show False from hq).elim
  | ok fl =>
    cases fl with
    | ret u => exact J1.after hq
    | next => exact hq.elim
    | brk => exact hq.elim
    | cont => exact hq.elim
/-- told: try: return a() / except x as n: return ("refused", y(n)) -/
def TTl (mg : Str → Option Value) (ns : List Str) : (XK → Hp → VK → Prop) → Hp → VK → Prop := fun tl H Q =>
  tl (fun cls d H' => ∃ nm ∈ ns, mg nm = some cls ∧ DOk d H' ∧ ∀ H2 p, (∀ b o, H' b = some o → H2 b = some o) → H2 p = some (.tup [.str "refused", .str nm]) → H' p = none → Q (.ref p) H2) H Q
theorem told_gives2 {X : Cx} {ns : List Str} {Ng : List Str} {x y a e n q : Str} {sg : Scope} {g CS : Addr} {cdg : Value} {j k : Nat} {p1 p2 p3 p4 p5 p6 p7 p8 p9 p10 p11 p12 : Pos} (C : ClsD X.K X.mg y ns) (hN : Ng.Nodup) (hi : Ng[1]? = some n) (hn : sg.names.lookup n = some .local)
    (hge : sg.names.lookup e = some .globalImplicit) (hgy : sg.names.lookup y = some .globalImplicit) (hme : X.mg e = some (.ref CS)) (hde : (e == ("__debug__" : Str)) = false) (hdy : (y == ("__debug__" : Str)) = false) (hdn : (n == ("__debug__" : Str)) = false) (hcn : (n == ("__classdict__" : Str)) = false)
    (h0 : ∀ f : Addr, (L2.start Ng [V.ref f])[0]? = some (some (V.ref f))) (hr : ∀ env, Room 1 (X.A.deeper env)) (hx : ∀ nm ∈ ns, ∀ cls, X.mg nm = some cls → PySem.W.exmOne X.K cls (.ref CS) = some true) :
    GivesTo X Ng x sg g cdg [.Try [.Return (some (.Call (.Name a p1) [] [] p2)) p3] [.ExceptHandler (some (.Name e p4)) (some n) [.Return (some (.Tuple [.Constant (.str "refused") j p5, .Call (.Name y p6) [.Name n p7] [] p8] k p9)) p10] p11] [] [] p12] a q (TTl X.mg ns) := by
  intro f c' s H Q tl act hc h
  have hgl : Gl (cxOf C8.CX0 X.prog X.w X.K X.mg X.base Ng x sg g cdg X.A X.stack s H C8.E0).nox e := hge
  refine ⟨_, pss_one (ps_try_as (X := (cxOf C8.CX0 X.prog X.w X.K X.mg X.base Ng x sg g cdg X.A X.stack s H C8.E0).nox) (i := 1) (c := .ref CS)
      (tb := fun W D σ H => ∃ Ech : XK, (∀ cls d σ' H', Ech cls d H' → W cls d σ' H') ∧ σ[0]? = some (some (.ref f)) ∧ H c' = some (CodeO c' q) ∧ tl Ech H D.rt)
      (ts := fun b cls d => tRet (tTup (tCons (tC (.str "refused")) (tCons (fun σ H Q => (∃ σ' : L2.St, σ = σ'.set 1 (some (.ref b))) ∧ SpC X.mg ns cls d H Q) tNil))))
      rfl rfl hN hi hn ⟨hgl, hde, .inl hme⟩ takes0 (fun W pn xe tk _ => ?_) (fun b oe cls d pn hz hf => ?_)), ?_⟩
  · refine ⟨fun pins s' σ H' D J h' => ?_⟩
    obtain ⟨Ech, hW, h1, h2, h3⟩ := h'
    exact (pss_one (ps_ret (pos := p3) (act W pn xe Ech p1 p2 tk hW))).run pins s' σ H' D J ⟨h1, h2, h3⟩
  · exact pss_one (ps_ret (pe_tup (pa_cons pe_str (pa_cons (pe_cls (X := (cxOf C8.CX0 X.prog X.w X.K X.mg X.base Ng x sg g cdg X.A X.stack s H C8.E0).nox) C (hr _) hgy hdy hz hf hi (.inl hn) hdn hcn) pa_nil))))
  · refine ⟨_, fun cls d σ' H' z => ?_, h0 f, hc, h⟩
    obtain ⟨nm, h1, h2, h3, h4⟩ := z
    refine ⟨true, hx nm h1 cls h2, fun _ b nb => ?_, fun z => nomatch z⟩
    refine ⟨⟨σ', rfl⟩, nm, h1, h2, h3, fun H2 k2 => ⟨by show 2 ≤ sizeLine; decide, fun p hp => ?_⟩⟩
    · exact h4 _ p (fun b o e => by rw [upd_ne (ne_of_none (k2 b o e) hp)]; exact k2 b o e) upd_same (by
        cases z : H' p with
        | none => rfl
        | some o => rw [k2 p o z] at hp; cases hp)
end Air
/-! Air: an exception that is told (3): its class's name. -/
namespace Air
open PySem PySem.Spec PyProof.Rows L2 LamX L2H
theorem vals_countP {y : V} : ∀ {ys : List V} {us : List Value}, Vals ys us → ys.all flatV = true → us.countP (eqU y) = ys.countP fun z => eqV z y
  | _, _, .nil, _ => rfl
  | z :: zs, u :: us, .cons r t, f => by
    rw [List.all_cons, Bool.and_eq_true] at f
    rw [List.countP_cons, List.countP_cons, vals_countP t f.2, eqU_of r f.1]
def rCntV (K : PySem.W.Frag) : V → List V → Hp → VK → Prop := fun x xs H Q => ∃ (a : Addr) (ys : List V) (y : V), x = V.ref a ∧ xs = [y] ∧ SqL K H a ys ∧ flatV y = true ∧ ys.all flatV = true ∧ Q (.int ((ys.countP fun z => eqV z y) : Nat)) H
theorem mt_countV {X : Cx} : MtR X "list.count" (rCntV X.K) := by
  intro pins s σ H x xs v us Q J rx rxs h
  obtain ⟨a, ys, y, rfl, rfl, hs, fy, fys, q⟩ := h
  cases rx
  obtain ⟨u, rfl, ru⟩ := rxs.one
  obtain ⟨its, rv, ⟨⟨cls, dd, data, sl⟩, n, ho, hc, hdn, hd⟩, hlen⟩ := J.list hs
  simp only at hc hd
  subst hc hd
  refine call_meets PySem.F.slot_list_count ⟨_, ho, rfl⟩ PySem.F.entry_list_count (PySem.F.args_list_count_2 _ _) (SeqAt.list_countAt a its.toArray n dd sl u (eqU y)) ⟨ho, fun z hz => mem_eqAt ru fy rv fys z (by simpa using hz), ?_⟩
  have e : its.toArray.toList.countP (eqU y) = ys.countP fun z => eqV z y := vals_countP rv fys
  rw [e]
  exact ⟨.int _, H, J.tok _, ⟨s.toks, rfl⟩, q⟩
/-! ### isinstance of an exception -/
def eqO2 (a b : Option (Option Value)) : Bool := decide (a = b)
/-- the exception class x, by the names xs -/
def xcB (K : PySem.W.Frag) (xs : List Str) (x : Str) : Bool :=
  He.eqO (PySem.W.nsIn K mainGlobals x) (some (some (.ref (He.ga K x)))) && ((PySem.W.clsIn K (He.ga K x)).isSome && (He.eqO (PySem.W.findIn K (.ref (He.ga K x)) "__getattribute__") (some (some (.builtin "BaseException.__getattribute__"))) && ((PySem.W.findIn K (.ref (He.ga K x)) "__getattr__").isSome &&
  (decide (PySem.W.subIn K (.ref (He.ga K x)) (.type "BaseException") = some true) && (He.eqO (PySem.W.findIn K (.ref (He.ga K x)) "__class__") (some (some (.builtin "object.__class__"))) && (He.eqO (PySem.W.specialIn K (.builtin "object.__class__") "__get__") (some (some (.builtin "getset_descriptor.__get__"))) &&
  (decide (PySem.W.takesIn K (.builtin "object.__class__") = some true) && (decide (PySem.W.mroIn K (He.ga K x) (.type "object") = some true) && (decide (PySem.W.kitOne K (.ref (He.ga K x)) (.type "ValueError") = some true) &&
  (xs.all (fun y => decide (PySem.W.kitOne K (.ref (He.ga K x)) (.ref (He.ga K y)) = some (decide (y = x)))) && decide (PySem.W.exmOne K (.ref (He.ga K x)) (.ref (He.ga K "AirError")) = some true)))))))))))
structure XcF (K : PySem.W.Frag) (xs : List Str) (x : Str) : Prop where
  gl : PySem.W.nsIn K mainGlobals x = some (some (.ref (He.ga K x)))
  cl : (PySem.W.clsIn K (He.ga K x)).isSome = true
  hg : PySem.W.findIn K (.ref (He.ga K x)) "__getattribute__" = some (some (.builtin "BaseException.__getattribute__"))
  hk : (PySem.W.findIn K (.ref (He.ga K x)) "__getattr__").isSome = true
  hs : PySem.W.subIn K (.ref (He.ga K x)) (.type "BaseException") = some true
  ha : PySem.W.findIn K (.ref (He.ga K x)) "__class__" = some (some (.builtin "object.__class__"))
  hn : PySem.W.specialIn K (.builtin "object.__class__") "__get__" = some (some (.builtin "getset_descriptor.__get__"))
  ht : PySem.W.takesIn K (.builtin "object.__class__") = some true
  hm : PySem.W.mroIn K (He.ga K x) (.type "object") = some true
  ve : PySem.W.kitOne K (.ref (He.ga K x)) (.type "ValueError") = some true
  is : ∀ y ∈ xs, PySem.W.kitOne K (.ref (He.ga K x)) (.ref (He.ga K y)) = some (decide (y = x))
  ex : PySem.W.exmOne K (.ref (He.ga K x)) (.ref (He.ga K "AirError")) = some true
theorem xc_of {K : PySem.W.Frag} {xs : List Str} {x : Str} (h : xcB K xs x = true) : XcF K xs x := by
  unfold xcB at h
  simp only [Bool.and_eq_true, decide_eq_true_eq, List.all_eq_true] at h
  obtain ⟨h0, h1, h2, h3, h4, h5, h6, h7, h8, h9, h10, h11⟩ := h
  exact ⟨He.eqO_ok h0, h1, He.eqO_ok h2, h3, h4, He.eqO_ok h5, He.eqO_ok h6, h7, h8, h9, h10, h11⟩
/-- isinstance(e, c), e an exception that stands by -/
def rIsP (K : PySem.W.Frag) (D : Value) (d : Option Addr) (a : Addr) : List V → Hp → VK → Prop := fun xs H Q => ∃ (c : V) (cv : Value) (b : Bool), xs = [.ref a, c] ∧ (∀ u, RelV c u → u = cv) ∧ PySem.W.kitOne K D cv = some b ∧ DOk d H ∧ Q (.bl b) H
theorem call_isP {X : Cx} {xs : List Str} {x : Str} {d : Option Addr} {p : Addr × Obj} (C : XcF X.K xs x) (hp : p ∈ X.pn) (hz : Zc (.ref (He.ga X.K x)) d p.2) (hf : ∃ vs, p.2.data = .fields vs) : CallR X (.builtin "isinstance") (rIsP X.K (.ref (He.ga X.K x)) d p.1) := by
  intro pins s σ H vs us Q J r h
  obtain ⟨c, cv, b, rfl, hcv, e, hd, q⟩ := h
  obtain ⟨u1, u2, rfl, r1, r2⟩ := vals2 r
  cases (show u1 = Value.ref p.1 from r1)
  have ec := hcv _ r2
  subst ec
  obtain ⟨hget, _⟩ := J.pin p (List.mem_append_left _ hp)
  obtain ⟨ws, hv⟩ := hf
  obtain ⟨gt, hgt⟩ := Option.isSome_iff_exists.mp C.hk
  obtain ⟨a, ⟨oc, od, oda, osl⟩⟩ := p
  obtain ⟨h1, h2⟩ := hz
  dsimp only at h1 h2 hv hget ⊢
  subst h1 h2 hv
  have go : ∀ od', PySem.W.InstAt s.heap a ⟨.ref (He.ga X.K x), od, .fields ws, osl⟩ (He.ga X.K x) od' → wpAny (model X.prog X.w) X.A (call (.builtin "isinstance") [.ref a, u2]) (EP X pins σ Q) X.xe s := fun od' I =>
    PySem.W.kia_one (PySem.W.kitx_exc (od := od') C.cl C.hg hgt C.hs C.ha C.hn C.ht C.hm) J.kIn I e (fun z => nomatch z) fun tk => ⟨.bl b, H, J.tok tk, rfl, q⟩
  rcases hd with rfl | ⟨dx, fs, rfl, hx⟩
  · exact go none ⟨hget, rfl, rfl, trivial⟩
  · obtain ⟨_, ⟨o, _, _, e1, _⟩, _⟩ := (show ObjOk X.prog X.w H s.heap dx (.xd fs) from J.hok dx _ hx)
    exact go (some o) ⟨hget, rfl, rfl, e1⟩
def bitsB (nm : Str) : Bool := let bs := tellN.map fun z => decide (z = nm)
  decide (bs.countP id = 1) && (decide (bs[bs.idxOf true]? = some true) && ((bs.take (bs.idxOf true)).all (!·) && decide (tellN[bs.idxOf true]? = some nm)))
theorem bits_all : tellN.all bitsB = true := by decide +kernel
theorem cls_bits {nm : Str} (h : nm ∈ tellN) : ((tellN.map fun z => V.bl (decide (z = nm))).countP fun z => eqV z (.bl true)) = 1 ∧ ∃ j, (tellN.map fun z => V.bl (decide (z = nm)))[j]? = some (.bl true) ∧ (∀ m z', m < j → (tellN.map fun z => V.bl (decide (z = nm)))[m]? = some z' → eqV z' (.bl true) = false) ∧ atI (tellN.map V.str) ((j : Nat) : Int) = some (.str nm) := by
  have b := List.all_eq_true.mp bits_all nm h
  simp only [bitsB, Bool.and_eq_true, decide_eq_true_eq, List.all_eq_true] at b
  obtain ⟨b1, b2, b3, b4⟩ := b
  have e : (tellN.map fun z => V.bl (decide (z = nm))) = (tellN.map fun z => decide (z = nm)).map V.bl := by rw [List.map_map]; rfl
  generalize hbs : (tellN.map fun z => decide (z = nm)) = bs at *
  refine ⟨?_, bs.idxOf true, ?_, fun m z' hm hz => ?_, ?_⟩
  · rw [e, List.countP_map, ← b1]
    congr 1
    funext x
    cases x <;> rfl
  · rw [e, List.getElem?_map, b2]; rfl
  · rw [e, List.getElem?_map] at hz
    obtain ⟨x, hx, rfl⟩ := Option.map_eq_some_iff.mp hz
    have := b3 x (List.mem_of_getElem? (i := m) (by rw [List.getElem?_take_of_lt hm]; exact hx))
    cases x
    · rfl
    · cases this
  · have hj : bs.idxOf true < tellN.length := (List.getElem?_eq_some_iff.mp b4).1
    unfold atI ixN
    rw [if_pos (Int.natCast_nonneg _), if_pos (by rw [List.length_map]; omega)]
    show (tellN.map V.str)[((bs.idxOf true : Nat) : Int).toNat]? = _
    rw [Int.toNat_natCast, List.getElem?_map, b4]; rfl
end Air
/-! Air: operations. -/
namespace Air
open PySem PySem.Spec PyProof.Rows L2
variable [Kf]
abbrev RkR (L : Lg) (H : Hp) : Gh → Hp → D × Kd → V → Prop := fun G' H' p v => Rk L H G' H' p v
section
variable {L : Lg} {W : WX} {ro : Bool} {G G2 : Gh} {H H2 : Hp} {σ : L2.St} {fr : Fr} {I I2 : Is}
theorem fin_fro {d : D} {v : V} {Q : VK} (h : PR L W ro G H σ fr (.ok (d, .fro) I2) (RkR L H) Q) (x : Ext ro G H G2 H2) (S : Sx L.c ro G2 fr I2 σ H2) (r : RV G2.F G2.M v d) : Q v H2 := h v G2 H2 x S (.fro r)
theorem fin_lst {ds : List D} {vs : List V} {p : Addr} {Q : VK} (h : PR L W ro G H σ fr (.ok (.lst ds, .new) I2) (RkR L H) Q) (x : Ext ro G H G2 H2) (S : Sx L.c ro G2 fr I2 σ H2) (hp : H2 p = none) (r : RVs G2.F G2.M vs ds) : Q (.ref p) (upd H2 p (.lst vs)) :=
  h _ G2 _ (x.trans (Ext.new hp)) (S.new hp) (.new (s := .lst ds) rfl ⟨vs, upd_same, r⟩ (x.dom _ hp) (S.notF hp) (S.notFr hp) (S.notIs hp))
theorem fin_tup {ds : List D} {vs : List V} {p : Addr} {Q : VK} (h : PR L W ro G H σ fr (.ok (.tup ds, .fro) I2) (RkR L H) Q) (x : Ext ro G H G2 H2) (S : Sx L.c ro G2 fr I2 σ H2) (hp : H2 p = none) (r : RVs G2.F G2.M vs ds) : Q (.ref p) (upd H2 p (.tup vs)) := by
  refine h _ (G2.put p (.tup vs)) _ ((x.trans (Ext.new hp)).put (x.dom _ hp) (S.notF hp)) ((S.new hp).freeze trivial (.inl upd_same) (S.notFr hp) (S.notIs hp) (S.notF hp)) (.fro (.tup upd_same (r.mono (put_mono (S.notF hp)) (List.prefix_refl _))))

/-- two values, then a reckoning -/
def Two (L : Lg) (f : D × Kd → D × Kd → Is → R (D × Kd)) : R2 := fun x y H2 Q => ∃ W ro G H σ fr p q I2 G2, Ext ro G H G2 H2 ∧ Sx L.c ro G2 fr I2 σ H2 ∧ Rk L H G2 H2 p x ∧ Rk L H G2 H2 q y ∧ PR L W ro G H σ fr (f p q I2) (RkR L H) Q
def One (L : Lg) (f : D × Kd → Is → R (D × Kd)) : V → Hp → VK → Prop := fun x H2 Q => ∃ W ro G H σ fr p I2 G2, Ext ro G H G2 H2 ∧ Sx L.c ro G2 fr I2 σ H2 ∧ Rk L H G2 H2 p x ∧ PR L W ro G H σ fr (f p I2) (RkR L H) Q

theorem strOk_app {a b : Str} (ha : PyData.strOk a = true) (hb : PyData.strOk b = true) : PyData.strOk (a ++ b) = true := by
  show (a.cps ++ b.cps).all _ = true
  rw [Array.all_append]
  simp only [Bool.and_eq_true]
  exact ⟨ha, hb⟩
theorem lim_eq : lim = sizeLine := by decide
theorem small_ok {i : Int} (h : small i = true) : -(2 ^ 64) < i ∧ i < 2 ^ 64 := by
  unfold small at h
  simp only [Bool.and_eq_true, decide_eq_true_eq] at h
  omega
theorem cond_ok {α : Type} {b : Bool} {x : R α} {P : R α → Prop} (h : P (bif b then x else .bad)) (hn : ¬ P .bad) : b = true ∧ P x := by
  cases b with
  | true => exact ⟨rfl, h⟩
  | false => exact absurd h hn
theorem PR.cond {α β : Type} {b : Bool} {r : R α} {rel : Gh → Hp → α → β → Prop} {Q : β → Hp → Prop} (h : PR L W ro G H σ fr (bif b then r else .bad) rel Q) : b = true ∧ PR L W ro G H σ fr r rel Q := by
  cases b with
  | true => exact ⟨rfl, h⟩
  | false => exact absurd h id
end
theorem fin_bl {L : Lg} {W : WX} {ro : Bool} {G G2 : Gh} {H H2 : Hp} {σ : L2.St} {fr : Fr} {I2 : Is} {b : Bool} {Q : VK} (h : PR L W ro G H σ fr (b2 b I2) (RkR L H) Q) (x : Ext ro G H G2 H2) (S : Sx L.c ro G2 fr I2 σ H2) : Q (.bl b) H2 := fin_fro h x S (.bl b)
section
variable {L : Lg} {X : Cx}
theorem op_addA (hK : X.K = L.K) : OpR X (binaryOp .Add) (Two L fun p q I => binD .add p.1 q.1 I) := by
  intro pins s σ H2 x y v u Q J rx ry h
  obtain ⟨W, ro, G, H, σ', fr, ⟨d, kd⟩, ⟨e, ke⟩, I2, G2, ex, S, hx, hy, h⟩ := h
  cases d <;> cases e <;> try (exact absurd h id)
  · rename_i i j
    obtain rfl := hx.int
    obtain rfl := hy.int
    exact op_add pins s σ H2 _ _ v u Q J rx ry ⟨i, j, rfl, rfl, fin_fro h ex S (.int _)⟩
  · rename_i a b
    obtain ⟨rfl, oa⟩ := hx.str
    obtain ⟨rfl, ob⟩ := hy.str
    obtain ⟨hl, h⟩ := PR.cond h
    have hl := of_decide_eq_true hl
    exact op_add_str pins s σ H2 _ _ v u Q J rx ry ⟨a, b, rfl, rfl, lim_eq ▸ hl, fin_fro h ex S (.str _ (strOk_app oa ob))⟩
  · rename_i xs ys
    obtain ⟨hl, h⟩ := PR.cond h
    simp only [Bool.and_eq_true, decide_eq_true_eq, Bool.not_eq_true'] at hl
    obtain ⟨a, vs, rfl, ha, ra⟩ := hx.tupK S
    obtain ⟨b, ws, rfl, hb, rb⟩ := hy.tupK S
    have l1 := ra.length
    have l2 := rb.length
    have n1 : vs ≠ [] := fun z => by subst z; cases xs <;> simp at l1 hl
    have n2 : ws ≠ [] := fun z => by subst z; cases ys <;> simp at l2 hl
    refine op_catT pins s σ H2 _ _ v u Q J rx ry ⟨a, b, vs, ws, rfl, rfl, hK ▸ ha, hK ▸ hb, n1, ?_, fun z => absurd z n2, fun _ p hp => fin_tup h ex S hp (ra.append rb)⟩
    rw [l1, l2, ← lim_eq]; exact hl.2
  · rename_i xs ys
    obtain ⟨hl, h⟩ := PR.cond h
    have hl := of_decide_eq_true hl
    obtain ⟨a, vs, rfl, ha, ra⟩ := hx.lst S
    obtain ⟨b, ws, rfl, hb, rb⟩ := hy.lst S
    refine op_cat pins s σ H2 _ _ v u Q J rx ry ⟨a, b, vs, ws, rfl, rfl, ha, hb, ?_, fun p hp => fin_lst h ex S hp (ra.append rb)⟩
    rw [ra.length, rb.length, ← lim_eq]; exact hl
theorem op_subA : OpR X (binaryOp .Sub) (Two L fun p q I => binD .sub p.1 q.1 I) := by
  intro pins s σ H2 x y v u Q J rx ry h
  obtain ⟨W, ro, G, H, σ', fr, ⟨d, kd⟩, ⟨e, ke⟩, I2, G2, ex, S, hx, hy, h⟩ := h
  cases d <;> cases e <;> try (exact absurd h id)
  rename_i i j
  obtain rfl := hx.int
  obtain rfl := hy.int
  exact op_sub pins s σ H2 _ _ v u Q J rx ry ⟨i, j, rfl, rfl, fin_fro h ex S (.int _)⟩
theorem RVs.rep {F : Hp} {M : List (Addr × Addr)} {vs : List V} {ds : List D} (r : RVs F M vs ds) : ∀ n, RVs F M (List.replicate n vs).flatten (List.replicate n ds).flatten
  | 0 => .nil
  | n + 1 => by
    rw [List.replicate_succ, List.replicate_succ, List.flatten_cons, List.flatten_cons]
    exact r.append (RVs.rep r n)
theorem op_mulA : OpR X (binaryOp .Mult) (Two L fun p q I => binD .mul p.1 q.1 I) := by
  intro pins s σ H2 x y v u Q J rx ry h
  obtain ⟨W, ro, G, H, σ', fr, ⟨d, kd⟩, ⟨e, ke⟩, I2, G2, ex, S, hx, hy, h⟩ := h
  cases d <;> cases e <;> try (exact absurd h id)
  · rename_i i j
    obtain rfl := hx.int
    obtain rfl := hy.int
    obtain ⟨hl, h⟩ := PR.cond h
    refine op_mul pins s σ H2 _ _ v u Q J rx ry ⟨i, j, rfl, rfl, ?_, fin_fro h ex S (.int _)⟩
    rw [Bool.or_eq_true] at hl
    exact hl.imp small_ok small_ok
  · rename_i xs j
    obtain rfl := hy.int
    obtain ⟨hl, h⟩ := PR.cond h
    simp only [Bool.and_eq_true, decide_eq_true_eq] at hl
    obtain ⟨a, vs, rfl, ha, ra⟩ := hx.lst S
    refine op_rep pins s σ H2 _ _ v u Q J rx ry ⟨a, j, vs, rfl, rfl, ha, by omega, by omega, ?_, fun p hp => fin_lst h ex S hp (ra.rep _)⟩
    rw [ra.length, ← lim_eq]; exact hl.2
theorem op_fdivA : OpR X (binaryOp .FloorDiv) (Two L fun p q I => binD .fdiv p.1 q.1 I) := by
  intro pins s σ H2 x y v u Q J rx ry h
  obtain ⟨W, ro, G, H, σ', fr, ⟨d, kd⟩, ⟨e, ke⟩, I2, G2, ex, S, hx, hy, h⟩ := h
  cases d <;> cases e <;> try (exact absurd h id)
  rename_i i j
  obtain rfl := hx.int
  obtain rfl := hy.int
  obtain ⟨hl, h⟩ := PR.cond h
  simp only [Bool.and_eq_true, decide_eq_true_eq] at hl
  have hs := small_ok hl.2
  refine op_fdivW pins s σ H2 _ _ v u Q J rx ry ⟨i, j, rfl, rfl, wide_div (b := 64) hl.1 (by omega) (by omega) (by omega), fin_fro h ex S (.int _)⟩
theorem op_modA : OpR X (binaryOp .Mod) (Two L fun p q I => binD .md p.1 q.1 I) := by
  intro pins s σ H2 x y v u Q J rx ry h
  obtain ⟨W, ro, G, H, σ', fr, ⟨d, kd⟩, ⟨e, ke⟩, I2, G2, ex, S, hx, hy, h⟩ := h
  cases d <;> cases e <;> try (exact absurd h id)
  rename_i i j
  obtain rfl := hx.int
  obtain rfl := hy.int
  obtain ⟨hl, h⟩ := PR.cond h
  exact op_mod pins s σ H2 _ _ v u Q J rx ry ⟨i, j, rfl, rfl, of_decide_eq_true hl, fin_fro h ex S (.int _)⟩
theorem op_powA : OpR X (binaryOp .Pow) (Two L fun p q I => binD .pow p.1 q.1 I) := by
  intro pins s σ H2 x y v u Q J rx ry h
  obtain ⟨W, ro, G, H, σ', fr, ⟨d, kd⟩, ⟨e, ke⟩, I2, G2, ex, S, hx, hy, h⟩ := h
  cases d <;> cases e <;> try (exact absurd h id)
  rename_i i j
  obtain rfl := hx.int
  obtain rfl := hy.int
  obtain ⟨hl, h⟩ := PR.cond h
  simp only [Bool.and_eq_true, decide_eq_true_eq] at hl
  have hs := small_ok hl.1.1
  exact op_pow pins s σ H2 _ _ v u Q J rx ry ⟨i, j, rfl, rfl, ⟨hl.1.2, hl.2, by omega⟩, fin_fro h ex S (.int _)⟩
def Bo.op : Bo → Operator
  | .add => .Add
  | .sub => .Sub
  | .mul => .Mult
  | .fdiv => .FloorDiv
  | .md => .Mod
  | .pow => .Pow
theorem op_bin (hK : X.K = L.K) (o : Bo) : OpR X (binaryOp o.op) (Two L fun p q I => binD o p.1 q.1 I) := by
  cases o
  · exact op_addA hK
  · exact op_subA
  · exact op_mulA
  · exact op_fdivA
  · exact op_modA
  · exact op_powA
/-! ### comparisons -/
/-- a comparison's answer: the heap stays -/
def PB (H2 : Hp) (r : R (D × Kd)) (Q : VK) : Prop := match r with
  | .ok p _ => (match p.1 with
    | .bl b => Q (.bl b) H2
    | _ => False)
  | _ => False
theorem PB.cond {b : Bool} {r : R (D × Kd)} {H2 : Hp} {Q : VK} (h : PB H2 (bif b then r else .bad) Q) : b = true ∧ PB H2 r Q := by
  cases b with
  | true => exact ⟨rfl, h⟩
  | false => exact absurd h id
def TwoB (L : Lg) (o : Co) : R2 := fun x y H2 Q => ∃ lk G2 H σ fr p q I2, Sx L.c lk G2 fr I2 σ H2 ∧ Rk L H G2 H2 p x ∧ Rk L H G2 H2 q y ∧ PB H2 (cmpD o p.1 q.1 I2) Q
theorem eq_run (hK : X.K = L.K) (hu : X.A.units + 64 < cLine) : OpR X (compareOp .Eq) (TwoB L .eq) := by
  intro pins s σ H2 x y v u Q J rx ry h
  obtain ⟨lk, G2, H, σ', fr, ⟨d, kd⟩, ⟨e, ke⟩, I2, S, hx, hy, h⟩ := h
  obtain ⟨hl, h⟩ := PB.cond h
  simp only [Bool.and_eq_true, decide_eq_true_eq] at hl
  obtain ⟨⟨q1, q2⟩, q3⟩ := hl
  obtain ⟨p1, l1⟩ := hx.dp hK.symm S q1
  obtain ⟨p2, l2⟩ := hy.dp hK.symm S q2
  obtain ⟨as, r1⟩ := Dp.reads J _ x v p1 rx
  obtain ⟨bs, r2⟩ := Dp.reads J _ y u p2 ry
  refine SeqAt.compareEq_reads r1 r2 l1 l2 ?_ ⟨.bl _, H2, J, rfl, h⟩
  have := dep_py d q1
  have := dep_py e q2
  omega
theorem ne_run (hK : X.K = L.K) (hu : X.A.units + 64 < cLine) : OpR X (compareOp .NotEq) (TwoB L .ne) := by
  intro pins s σ H2 x y v u Q J rx ry h
  obtain ⟨lk, G2, H, σ', fr, ⟨d, kd⟩, ⟨e, ke⟩, I2, S, hx, hy, h⟩ := h
  obtain ⟨hl, h⟩ := PB.cond h
  simp only [Bool.and_eq_true, decide_eq_true_eq] at hl
  obtain ⟨⟨q1, q2⟩, q3⟩ := hl
  obtain ⟨p1, l1⟩ := hx.dp hK.symm S q1
  obtain ⟨p2, l2⟩ := hy.dp hK.symm S q2
  obtain ⟨as, r1⟩ := Dp.reads J _ x v p1 rx
  obtain ⟨bs, r2⟩ := Dp.reads J _ y u p2 ry
  refine SeqAt.compareNe_reads r1 r2 l1 l2 ?_ ⟨.bl _, H2, J, rfl, h⟩
  have := dep_py d q1
  have := dep_py e q2
  omega
theorem ord_run {o : Co} {op : CmpOp} {f : Int → Int → Bool} (ho : OpR X (compareOp op) (rI0 fun i j => .bl (f i j))) (hf : ∀ i j I, cmpD o (.int i) (.int j) I = b2 (f i j) I) (hb : ∀ d e I, (∀ i j, ¬ (d = .int i ∧ e = .int j)) → cmpD o d e I = .bad) :
    OpR X (compareOp op) (TwoB L o) := by
  intro pins s σ H2 x y v u Q J rx ry h
  obtain ⟨lk, G2, H, σ', fr, ⟨d, kd⟩, ⟨e, ke⟩, I2, S, hx, hy, h⟩ := h
  by_cases hi : ∃ i j, d = .int i ∧ e = .int j
  · obtain ⟨i, j, rfl, rfl⟩ := hi
    obtain rfl := hx.int
    obtain rfl := hy.int
    refine ho pins s σ H2 _ _ v u Q J rx ry ⟨i, j, rfl, rfl, ?_⟩
    have h : PB H2 (cmpD o (.int i) (.int j) I2) Q := h
    rw [hf] at h
    exact h
  · have h : PB H2 (cmpD o d e I2) Q := h
    rw [hb d e I2 fun i j z => hi ⟨i, j, z⟩] at h
    exact absurd h id
theorem lt_run : OpR X (compareOp .Lt) (TwoB L .lt) := ord_run (f := fun i j => decide (i < j)) op_lt (fun _ _ _ => rfl) fun d e I h => by
  cases d <;> cases e <;> first | rfl | exact absurd ⟨rfl, rfl⟩ (h _ _)
theorem le_run : OpR X (compareOp .LtE) (TwoB L .le) := ord_run (f := fun i j => decide (i ≤ j)) op_le (fun _ _ _ => rfl) fun d e I h => by
  cases d <;> cases e <;> first | rfl | exact absurd ⟨rfl, rfl⟩ (h _ _)
theorem gt_run : OpR X (compareOp .Gt) (TwoB L .gt) := ord_run (f := fun i j => decide (j < i)) op_gt (fun _ _ _ => rfl) fun d e I h => by
  cases d <;> cases e <;> first | rfl | exact absurd ⟨rfl, rfl⟩ (h _ _)
theorem ge_run : OpR X (compareOp .GtE) (TwoB L .ge) := ord_run (f := fun i j => decide (j ≤ i)) op_ge (fun _ _ _ => rfl) fun d e I h => by
  cases d <;> cases e <;> first | rfl | exact absurd ⟨rfl, rfl⟩ (h _ _)
theorem flat_V {G : Gh} {v : V} {d : D} (r : RV G.F G.M v d) (h : D.isFlat d = true) : flatV v = true := by
  cases r <;> first | rfl | (simp [D.isFlat] at h)
theorem flat_eq {G : Gh} : ∀ {v w : V} {d e : D}, RV G.F G.M v d → RV G.F G.M w e → D.isFlat d = true → D.isFlat e = true → eqV v w = D.pyeq d e := by
  intro v w d e r s h1 h2
  cases r <;> first | (simp [D.isFlat] at h1; done) | skip
  all_goals cases s <;> first | (simp [D.isFlat] at h2; done) | simp [D.pyeq, D.py, PyData.eqv, eqV]
theorem in_eq {G : Gh} {v : V} {d : D} (r : RV G.F G.M v d) (hd : D.isFlat d = true) : ∀ {ws : List V} {es : List D}, RVs G.F G.M ws es → D.flats es = true → ws.all flatV = true ∧ inV v ws = inD d es
  | _, _, .nil, _ => ⟨rfl, rfl⟩
  | _, _, .cons s ss, q => by
    have q : (D.isFlat _ && D.flats _) = true := q
    rw [Bool.and_eq_true] at q
    obtain ⟨h1, h2⟩ := in_eq r hd ss q.2
    refine ⟨by rw [List.all_cons, flat_V s q.1, h1]; rfl, ?_⟩
    unfold inV inD at h2 ⊢
    rw [List.any_cons, List.any_cons, flat_eq s r q.1 hd, h2]
theorem sgn_eq {x : Str} {c : Nat} (h : sgnD x = some c) : x = ⟨#[c]⟩ := by
  obtain ⟨⟨l⟩⟩ := x
  unfold sgnD at h
  split at h
  rename_i l' e
  cases e
  split at h
  · cases h; rfl
  · cases h
theorem flat_fro {G : Gh} {H0 H : Hp} {d : D} {k : Kd} {v : V} (hf : D.isFlat d = true) (h : Rk L H0 G H (d, k) v) : RV G.F G.M v d := by
  cases h with
  | fro h => exact h
  | own e | inst e | new e => cases d <;> first | (simp [Sl.inn] at e; done) | (simp [D.isFlat] at hf; done)
  | cst => simp [D.isFlat] at hf
theorem inD_py (d : D) : ∀ ys : List D, inD d ys = (D.pys ys).any fun z => PyData.eqv z d.py
  | [] => by simp [inD, D.pys]
  | y :: ys => by
    have ih := inD_py d ys
    unfold inD D.pyeq at *
    simp only [D.pys, List.any_cons, ih]
/-! ### dicts -/
/-- a tuple that stands, or is the top's, is a key -/
theorem key_ofS {X : Cx} {pins : List (Addr × Obj)} {σ : L2.St} {H : Hp} {s : Shared} {ks : List Ky} {a : Addr} (J : Inv X pins σ H s) (e : SqT X.K H a (ks.map kV)) : (tupleKind (mixKind X.prog X.w)).is s.heap ks a := by
  obtain ⟨its, r, ⟨o, h1, h2, n, h3⟩, _⟩ := J.tuple e
  exact ⟨o, its.toArray, n, h1, h2, h3, by simpa using items_are r⟩
/-- what the dict at a holds at the key y -/
def DGs (K : PySem.W.Frag) (H : Hp) (a : Addr) (y : V) (r : Option V) : Prop :=
  (∃ kvs k, Rd H a (.dK kvs) ∧ y = kV k ∧ r = valV kvs k) ∨ ∃ kvs k b, Rd H a (.dT kvs) ∧ y = .ref b ∧ SqT K H b (k.map kV) ∧ r = valV kvs k
section
variable {X : Cx} {pins : List (Addr × Obj)} {σ : L2.St} {H : Hp} {s : Shared} {a : Addr} {y v : V} {u r : Value} {o : Option V} {A : Around} {E : Value → Shared → Prop}
theorem ds_getItem {Q : Value → Shared → Prop} (hu : A.units + 1 < cLine) (I : Inv X pins σ H s) (g : DGs X.K H a y (some v)) (ry : RelV y u) (h : ∀ w' s', Inv X pins σ H s' → RelV v w' → Q w' s') :
    wpAny (model X.prog X.w) A (getItem (.ref a) u) Q E s := by
  rcases g with ⟨kvs, k, e, ey, l⟩ | ⟨kvs, k, b, e, ey, eb, l⟩
  · exact d_getItem hu I (.inl ⟨kvs, k, e, ey, l⟩) ry h
  · subst ey
    cases (show u = Value.ref b from ry)
    obtain ⟨z, hd, xs, rel, dd⟩ := dt_rd I.hok e
    obtain ⟨w', hw, rw'⟩ := RelO.some_of (v := v) (o := (atKey xs k).map (·.2)) (by rw [l]; exact rel.val k)
    obtain ⟨p, hp, hp2⟩ := Option.map_eq_some_iff.mp hw
    refine wpAny_getItem_heap (tupleKind_room_in1 hu) (key_ofS I eb) dd hp ?_
    rw [hp2]
    exact h w' _ (I.tok _) rw'
theorem ds_in {Q : Value → Shared → Prop} (hu : A.units + 1 < cLine) (I : Inv X pins σ H s) (g : DGs X.K H a y o) (ry : RelV y u) (h : ∀ s', Inv X pins σ H s' → Q (.bool o.isSome) s') :
    wpAny (model X.prog X.w) A (compareOp .In u (.ref a)) Q E s := by
  rcases g with ⟨kvs, k, e, ey, l⟩ | ⟨kvs, k, b, e, ey, eb, l⟩
  · exact d_in hu I (.inl ⟨kvs, k, e, ey, l⟩) ry h
  · subst ey
    cases (show u = Value.ref b from ry)
    obtain ⟨z, hd, xs, rel, dd⟩ := dt_rd I.hok e
    refine wpAny_in_heap (tupleKind_room_in1 hu) (key_ofS I eb) hd dd ?_
    have q := (rel.val k).isSome_eq
    rw [Option.isSome_map] at q
    rw [← q, ← l]
    exact h _ (I.tok _)
theorem ds_notIn {Q : Value → Shared → Prop} (hu : A.units + 1 < cLine) (I : Inv X pins σ H s) (g : DGs X.K H a y o) (ry : RelV y u) (h : ∀ s', Inv X pins σ H s' → Q (.bool (!o.isSome)) s') :
    wpAny (model X.prog X.w) A (compareOp .NotIn u (.ref a)) Q E s := by
  rcases g with ⟨kvs, k, e, ey, l⟩ | ⟨kvs, k, b, e, ey, eb, l⟩
  · exact d_notIn hu I (.inl ⟨kvs, k, e, ey, l⟩) ry h
  · subst ey
    cases (show u = Value.ref b from ry)
    obtain ⟨z, hd, xs, rel, dd⟩ := dt_rd I.hok e
    refine wpAny_notIn_heap (tupleKind_room_in1 hu) (key_ofS I eb) hd dd ?_
    have q := (rel.val k).isSome_eq
    rw [Option.isSome_map] at q
    rw [← q, ← l]
    exact h _ (I.tok _)
end
def LkR (F : Hp) (M : List (Addr × Addr)) : Option D → Option V → Prop
  | some d, ov => ∃ w, ov = some w ∧ RV F M w d
  | none, ov => ov = none
theorem valV_getV {κ : Type} [DecidableEq κ] {F : Hp} {M : List (Addr × Addr)} (j : κ) : ∀ {ks : List κ} {vs : List V} {ds : List D}, ks.length = vs.length → RVs F M vs ds → LkR F M (getV ks ds j) (valV (ks.zip vs) j)
  | [], [], _, _, .nil => rfl
  | k :: ks, v :: vs, _, hl, .cons (d := d) r rs => by
    have ih := valV_getV j (ks := ks) (vs := vs) (by simpa using hl) rs
    rw [List.zip_cons_cons]
    unfold getV
    by_cases e : k = j
    · simp only [decide_eq_true e, cond_true]
      exact ⟨v, valV_pos (p := (k, v)) e, r⟩
    · simp only [decide_eq_false e, cond_false]
      rw [valV_neg (p := (k, v)) e]
      exact ih
theorem ky1_V {F : Hp} {M : List (Addr × Addr)} {v : V} {d : D} {k : Ky} (r : RV F M v d) (h : ky1 d = some k) : v = kV k := by
  cases r <;> simp only [ky1, Option.some.injEq, reduceCtorEq] at h <;> subst h <;> rfl
theorem kyL_V {F : Hp} {M : List (Addr × Addr)} : ∀ {vs : List V} {ds : List D} {k : List Ky}, RVs F M vs ds → kyL ds = some k → vs = k.map kV
  | _, _, _, .nil, h => by cases h; rfl
  | _, _, _, .cons (d := d) (ds := ds) r rs, h => by
    unfold kyL at h
    cases e1 : ky1 d with
    | none => rw [e1] at h; cases h
    | some k1 =>
      rw [e1] at h
      cases e2 : kyL ds with
      | none => rw [e2] at h; cases h
      | some k2 =>
        rw [e2] at h
        cases h
        rw [ky1_V r e1, kyL_V rs e2]; rfl
theorem Rk.ky1 {H0 H : Hp} {G : Gh} {d : D} {kd : Kd} {y : V} {k : Ky} (h : Rk L H0 G H (d, kd) y) (e : Air.ky1 d = some k) : y = kV k := by
  cases d <;> simp only [Air.ky1, Option.some.injEq, reduceCtorEq] at e <;> subst e
  · exact h.int
  · exact h.str.1
theorem look_get {lk : Bool} {c : D} {kc : Kd} {d : D} {kd : Kd} {o : Option D} {H0 H0' H2 : Hp} {G2 : Gh} {fr : Fr} {I2 : Is} {σ : L2.St} {v y : V} (S : Sx L.c lk G2 fr I2 σ H2) (hx : Rk L H0 G2 H2 (c, kc) v) (hy : Rk L H0' G2 H2 (d, kd) y) (h : lookD c d = some o) :
    ∃ a ov, v = .ref a ∧ DGs L.K H2 a y ov ∧ LkR G2.F G2.M o ov := by
  unfold lookD at h
  cases c <;> simp only [reduceCtorEq] at h
  · rename_i ks ds
    obtain ⟨k, hk, rfl⟩ := Option.map_eq_some_iff.mp h
    obtain ⟨a, us, rfl, ha, hl, ra⟩ := hx.dK S
    have q := valV_getV k hl.1 ra
    exact ⟨a, _, rfl, .inl ⟨_, k, ha, hy.ky1 hk, rfl⟩, q⟩
  · rename_i ks ds
    obtain ⟨k, hk, rfl⟩ := Option.map_eq_some_iff.mp h
    obtain ⟨a, us, rfl, ha, hl, ra⟩ := hx.dT S
    have q := valV_getV k hl.1 ra
    cases d <;> simp only [kyT, reduceCtorEq] at hk
    rename_i xs
    obtain ⟨b, ws, rfl, hb, rb⟩ := hy.tupK S
    have e1 := kyL_V rb hk
    exact ⟨a, _, rfl, .inr ⟨_, k, b, ha, rfl, e1 ▸ hb, rfl⟩, q⟩
theorem in_run (hK : X.K = L.K) (hu : X.A.units + 64 < cLine) : OpR X (compareOp .In) (TwoB L .inn) := by
  intro pins s σ H2 x y v u Q J rx ru h
  obtain ⟨lk, G2, H, σ', fr, ⟨d, kd⟩, ⟨e, ke⟩, I2, S, hx, hy, h⟩ := h
  have h : PB H2 (match inDD d e with | some k => b2 k I2 | none => .bad) Q := h
  cases e with
  | str z =>
    cases d with
    | str a =>
      obtain ⟨rfl, _⟩ := hx.str
      obtain ⟨rfl, _⟩ := hy.str
      have h : PB H2 (match (match sgnD a with | some c => some (decide (c ∈ z.cps.toList)) | none => none) with | some k => b2 k I2 | none => .bad) Q := h
      cases q : sgnD a with
      | none => rw [q] at h; exact absurd h id
      | some c =>
        rw [q] at h
        rw [sgn_eq q] at rx
        exact op_in_sign pins s σ H2 _ _ v u Q J rx ru ⟨c, z, rfl, rfl, h⟩
    | _ => exact absurd h id
  | lst ys =>
    have h : PB H2 (match (bif D.isFlat d && D.flats ys then some (inD d ys) else bif D.eqc d && D.eqcs ys && decide (D.dep d ≤ 60) then some (inD d ys) else none) with | some k => b2 k I2 | none => .bad) Q := h
    cases q : D.isFlat d && D.flats ys with
    | false =>
      rw [q] at h
      cases q2 : D.eqc d && D.eqcs ys && decide (D.dep d ≤ 60) with
      | false => rw [q2] at h; exact absurd h id
      | true =>
        rw [q2] at h
        simp only [Bool.and_eq_true, decide_eq_true_eq] at q2
        obtain ⟨⟨q3, q4⟩, q5⟩ := q2
        obtain ⟨p1, l1⟩ := hx.dp hK.symm S q3
        obtain ⟨p2, l2⟩ := hy.dp hK.symm S (show D.eqc (.lst ys) = true by rw [D.eqc]; exact q4)
        obtain ⟨as, r1⟩ := Dp.reads J _ x v p1 rx
        obtain ⟨bs, r2⟩ := Dp.reads J _ y u p2 ru
        rw [show (D.lst ys).py = .list (D.pys ys) by rw [D.py]] at r2 l2
        have l3 : PyData.canLayAll0 (D.pys ys) = true := by simpa [PyData.canLay0] using l2
        refine SeqAt.in_list_reads r2 r1 l3 l1 ?_ ?_
        · have := dep_py d q3
          omega
        · rw [← inD_py]
          exact ⟨.bl _, H2, J, rfl, h⟩
    | true =>
      rw [q] at h
      rw [Bool.and_eq_true] at q
      obtain ⟨b, ws, rfl, hb, rb⟩ := hy.lst S
      have hv := flat_fro q.1 hx
      obtain ⟨i1, i2⟩ := in_eq hv q.1 rb q.2
      refine op_in_seq pins s σ H2 _ _ v u Q J rx ru ⟨b, ws, rfl, .inl (.of hb), flat_V hv q.1, i1, ?_⟩
      rw [i2]
      exact h
  | tup ys =>
    have h : PB H2 (match (bif D.isFlat d && D.flats ys then some (inD d ys) else none) with | some k => b2 k I2 | none => .bad) Q := h
    cases q : D.isFlat d && D.flats ys with
    | false => rw [q] at h; exact absurd h id
    | true =>
      rw [q] at h
      rw [Bool.and_eq_true] at q
      obtain ⟨b, ws, rfl, hb, rb⟩ := hy.tupK S
      have hv := flat_fro q.1 hx
      obtain ⟨i1, i2⟩ := in_eq hv q.1 rb q.2
      refine op_in_seq pins s σ H2 _ _ v u Q J rx ru ⟨b, ws, rfl, .inr (hK ▸ hb), flat_V hv q.1, i1, ?_⟩
      rw [i2]
      exact h
  | dK ks vs =>
    have h : PB H2 (match ((lookD (.dK ks vs) d).map (·.isSome)) with | some k => b2 k I2 | none => .bad) Q := h
    cases q : lookD (.dK ks vs) d with
    | none => rw [q] at h; exact absurd h id
    | some o =>
      rw [q] at h
      obtain ⟨a, ov, rfl, g, hq⟩ := look_get S hy hx q
      cases ru
      refine ds_in (Nat.lt_of_le_of_lt (by omega) hu) J (hK ▸ g) rx fun s' J' => ⟨.bl _, H2, J', rfl, ?_⟩
      cases o with
      | some dd => obtain ⟨w, rfl, _⟩ := hq; exact h
      | none => obtain rfl : ov = none := hq; exact h
  | dT ks vs =>
    have h : PB H2 (match ((lookD (.dT ks vs) d).map (·.isSome)) with | some k => b2 k I2 | none => .bad) Q := h
    cases q : lookD (.dT ks vs) d with
    | none => rw [q] at h; exact absurd h id
    | some o =>
      rw [q] at h
      obtain ⟨a, ov, rfl, g, hq⟩ := look_get S hy hx q
      cases ru
      refine ds_in (Nat.lt_of_le_of_lt (by omega) hu) J (hK ▸ g) rx fun s' J' => ⟨.bl _, H2, J', rfl, ?_⟩
      cases o with
      | some dd => obtain ⟨w, rfl, _⟩ := hq; exact h
      | none => obtain rfl : ov = none := hq; exact h
  | _ => exact absurd h id
theorem nin_run (hK : X.K = L.K) (hu : X.A.units + 64 < cLine) : OpR X (compareOp .NotIn) (TwoB L .nin) := by
  intro pins s σ H2 x y v u Q J rx ru h
  obtain ⟨lk, G2, H, σ', fr, ⟨d, kd⟩, ⟨e, ke⟩, I2, S, hx, hy, h⟩ := h
  have h : PB H2 (match inDD d e with | some k => b2 (!k) I2 | none => .bad) Q := h
  cases e with
  | str z =>
    cases d with
    | str a =>
      obtain ⟨rfl, _⟩ := hx.str
      obtain ⟨rfl, _⟩ := hy.str
      have h : PB H2 (match (match sgnD a with | some c => some (decide (c ∈ z.cps.toList)) | none => none) with | some k => b2 (!k) I2 | none => .bad) Q := h
      cases q : sgnD a with
      | none => rw [q] at h; exact absurd h id
      | some c =>
        rw [q] at h
        rw [sgn_eq q] at rx
        exact op_notIn_sign pins s σ H2 _ _ v u Q J rx ru ⟨c, z, rfl, rfl, h⟩
    | _ => exact absurd h id
  | lst ys =>
    have h : PB H2 (match (bif D.isFlat d && D.flats ys then some (inD d ys) else bif D.eqc d && D.eqcs ys && decide (D.dep d ≤ 60) then some (inD d ys) else none) with | some k => b2 (!k) I2 | none => .bad) Q := h
    cases q : D.isFlat d && D.flats ys with
    | false =>
      rw [q] at h
      cases q2 : D.eqc d && D.eqcs ys && decide (D.dep d ≤ 60) with
      | false => rw [q2] at h; exact absurd h id
      | true =>
        rw [q2] at h
        simp only [Bool.and_eq_true, decide_eq_true_eq] at q2
        obtain ⟨⟨q3, q4⟩, q5⟩ := q2
        obtain ⟨p1, l1⟩ := hx.dp hK.symm S q3
        obtain ⟨p2, l2⟩ := hy.dp hK.symm S (show D.eqc (.lst ys) = true by rw [D.eqc]; exact q4)
        obtain ⟨as, r1⟩ := Dp.reads J _ x v p1 rx
        obtain ⟨bs, r2⟩ := Dp.reads J _ y u p2 ru
        rw [show (D.lst ys).py = .list (D.pys ys) by rw [D.py]] at r2 l2
        have l3 : PyData.canLayAll0 (D.pys ys) = true := by simpa [PyData.canLay0] using l2
        refine SeqAt.notIn_list_reads r2 r1 l3 l1 ?_ ?_
        · have := dep_py d q3
          omega
        · rw [← inD_py]
          exact ⟨.bl _, H2, J, rfl, h⟩
    | true =>
      rw [q] at h
      rw [Bool.and_eq_true] at q
      obtain ⟨b, ws, rfl, hb, rb⟩ := hy.lst S
      have hv := flat_fro q.1 hx
      obtain ⟨i1, i2⟩ := in_eq hv q.1 rb q.2
      refine op_notIn_seq pins s σ H2 _ _ v u Q J rx ru ⟨b, ws, rfl, .inl (.of hb), flat_V hv q.1, i1, ?_⟩
      rw [i2]
      exact h
  | tup ys =>
    have h : PB H2 (match (bif D.isFlat d && D.flats ys then some (inD d ys) else none) with | some k => b2 (!k) I2 | none => .bad) Q := h
    cases q : D.isFlat d && D.flats ys with
    | false => rw [q] at h; exact absurd h id
    | true =>
      rw [q] at h
      rw [Bool.and_eq_true] at q
      obtain ⟨b, ws, rfl, hb, rb⟩ := hy.tupK S
      have hv := flat_fro q.1 hx
      obtain ⟨i1, i2⟩ := in_eq hv q.1 rb q.2
      refine op_notIn_seq pins s σ H2 _ _ v u Q J rx ru ⟨b, ws, rfl, .inr (hK ▸ hb), flat_V hv q.1, i1, ?_⟩
      rw [i2]
      exact h
  | dK ks vs =>
    have h : PB H2 (match ((lookD (.dK ks vs) d).map (·.isSome)) with | some k => b2 (!k) I2 | none => .bad) Q := h
    cases q : lookD (.dK ks vs) d with
    | none => rw [q] at h; exact absurd h id
    | some o =>
      rw [q] at h
      obtain ⟨a, ov, rfl, g, hq⟩ := look_get S hy hx q
      cases ru
      refine ds_notIn (Nat.lt_of_le_of_lt (by omega) hu) J (hK ▸ g) rx fun s' J' => ⟨.bl _, H2, J', rfl, ?_⟩
      cases o with
      | some dd => obtain ⟨w, rfl, _⟩ := hq; exact h
      | none => obtain rfl : ov = none := hq; exact h
  | dT ks vs =>
    have h : PB H2 (match ((lookD (.dT ks vs) d).map (·.isSome)) with | some k => b2 (!k) I2 | none => .bad) Q := h
    cases q : lookD (.dT ks vs) d with
    | none => rw [q] at h; exact absurd h id
    | some o =>
      rw [q] at h
      obtain ⟨a, ov, rfl, g, hq⟩ := look_get S hy hx q
      cases ru
      refine ds_notIn (Nat.lt_of_le_of_lt (by omega) hu) J (hK ▸ g) rx fun s' J' => ⟨.bl _, H2, J', rfl, ?_⟩
      cases o with
      | some dd => obtain ⟨w, rfl, _⟩ := hq; exact h
      | none => obtain rfl : ov = none := hq; exact h
  | _ => exact absurd h id
def Co.op : Co → CmpOp
  | .eq => .Eq
  | .ne => .NotEq
  | .lt => .Lt
  | .le => .LtE
  | .gt => .Gt
  | .ge => .GtE
  | .inn => .In
  | .nin => .NotIn
theorem op_cmpB (hK : X.K = L.K) (hu : X.A.units + 64 < cLine) (o : Co) : OpR X (compareOp o.op) (TwoB L o) := by
  cases o
  · exact eq_run hK hu
  · exact ne_run hK hu
  · exact lt_run
  · exact le_run
  · exact gt_run
  · exact ge_run
  · exact in_run hK hu
  · exact nin_run hK hu
theorem cmpD_b (o : Co) (d e : D) (I : Is) : cmpD o d e I = .bad ∨ ∃ k, cmpD o d e I = b2 k I := by
  have cc : ∀ b k : Bool, (bif b then b2 k I else R.bad) = .bad ∨ ∃ k', (bif b then b2 k I else R.bad) = b2 k' I := fun b k => by
    cases b with
    | true => exact .inr ⟨_, rfl⟩
    | false => exact .inl rfl
  cases o
  case eq => exact cc _ _
  case ne => exact cc _ _
  case inn =>
    show (match inDD d e with | some k => b2 k I | none => .bad) = .bad ∨ ∃ k, (match inDD d e with | some k => b2 k I | none => .bad) = b2 k I
    cases inDD d e with
    | none => exact .inl rfl
    | some k => exact .inr ⟨_, rfl⟩
  case nin =>
    show (match inDD d e with | some k => b2 (!k) I | none => .bad) = .bad ∨ ∃ k, (match inDD d e with | some k => b2 (!k) I | none => .bad) = b2 k I
    cases inDD d e with
    | none => exact .inl rfl
    | some k => exact .inr ⟨_, rfl⟩
  all_goals cases d <;> cases e <;> first | exact .inl rfl | exact .inr ⟨_, rfl⟩
theorem PR.pb {W : WX} {ro : Bool} {G G2 : Gh} {H H2 : Hp} {σ : L2.St} {fr : Fr} {I2 : Is} {o : Co} {d e : D} {Q : VK} (h : PR L W ro G H σ fr (cmpD o d e I2) (RkR L H) Q) (x : Ext ro G H G2 H2) (S : Sx L.c ro G2 fr I2 σ H2) : PB H2 (cmpD o d e I2) Q := by
  rcases cmpD_b o d e I2 with z | ⟨k, z⟩
  · rw [z] at h; exact absurd h id
  · rw [z] at h ⊢; exact fin_bl h x S
theorem op_cmp (hK : X.K = L.K) (hu : X.A.units + 64 < cLine) (o : Co) : OpR X (compareOp o.op) (Two L fun p q I => cmpD o p.1 q.1 I) := by
  intro pins s σ H2 x y v u Q J rx ry h
  obtain ⟨W, ro, G, H, σ', fr, p, q, I2, G2, ex, S, hx, hy, h⟩ := h
  exact op_cmpB (L := L) hK hu o pins s σ H2 x y v u Q J rx ry ⟨ro, G2, H, σ', fr, p, q, I2, S, hx, hy, h.pb ex S⟩
/-! ### places, cuts -/
theorem RVs.atI {F : Hp} {M : List (Addr × Addr)} {vs : List V} {ds : List D} {i : Int} {d : D} (r : RVs F M vs ds) (h : L2.atI ds i = some d) : ∃ v, L2.atI vs i = some v ∧ RV F M v d := by
  unfold L2.atI at h ⊢
  rw [r.length]
  cases q : ixN ds.length i with
  | none => rw [q] at h; cases h
  | some j =>
    rw [q] at h
    exact r.get h
theorem atI_map {α β : Type} (f : α → β) {xs : List α} {i : Int} {a : α} (h : L2.atI xs i = some a) : L2.atI (xs.map f) i = some (f a) := by
  unfold L2.atI at h ⊢
  rw [List.length_map]
  cases q : ixN xs.length i with
  | none => rw [q] at h; cases h
  | some j =>
    rw [q] at h
    have h : xs[j]? = some a := h
    show (xs.map f)[j]? = _
    rw [List.getElem?_map, h]; rfl
theorem strOk_one {z : Str} {c : Nat} {i : Int} (hz : PyData.strOk z = true) (h : L2.atI z.cps.toList i = some c) : PyData.strOk ⟨#[c]⟩ = true := by
  unfold L2.atI at h
  cases q : ixN z.cps.toList.length i with
  | none => rw [q] at h; cases h
  | some j =>
    rw [q] at h
    have h : z.cps.toList[j]? = some c := h
    have hm : c ∈ z.cps.toList := List.mem_of_getElem? h
    have hz : z.cps.all (· < 0x110000) = true := hz
    rw [Array.all_eq_true'] at hz
    have := hz c (by simpa using hm)
    show (#[c] : Array Nat).all (· < 0x110000) = true
    simpa using this
theorem ds_typeIs {X : Cx} {pins : List (Addr × Obj)} {σ : L2.St} {H : Hp} {s : Shared} {a : Addr} {y : V} {o : Option V} (I : Inv X pins σ H s) (g : DGs X.K H a y o) : s.TypeIs (.ref a) "dict" := by
  rcases g with ⟨kvs, k, e, _, _⟩ | ⟨kvs, k, b, e, _, _, _⟩
  · obtain ⟨_, _, vs, _, dd⟩ := dk_rd I.hok e
    exact dd.typeIs
  · obtain ⟨_, _, xs, _, dd⟩ := dt_rd I.hok e
    exact dd.typeIs
theorem ix_run (hK : X.K = L.K) (hu : X.A.units + 64 < cLine) : IxR X (Two L fun p q I => subD p.1 q.1 p.2 I) := by
  intro value slice pins s σ H2 x y v u Q J rx ry h hs
  obtain ⟨W, ro, G, H, σ', fr, ⟨d, kd⟩, ⟨e, ke⟩, I2, G2, ex, S, hx, hy, h⟩ := h
  cases d with
  | str z =>
    cases e with
    | int j =>
      obtain ⟨rfl, hz⟩ := hx.str
      obtain rfl := hy.int
      have h : PR L W ro G H σ' fr (bif decide (z.length ≤ lim) then (match L2.atI z.cps.toList j with | some c => .ok (.str ⟨#[c]⟩, .fro) I2 | none => .bad) else .bad) (RkR L H) Q := h
      obtain ⟨hl, h⟩ := PR.cond h
      cases q : L2.atI z.cps.toList j with
      | none => rw [q] at h; exact absurd h id
      | some c =>
        rw [q] at h
        exact ix_str value slice pins s σ H2 _ _ v u Q J rx ry ⟨z, j, c, rfl, rfl, lim_eq ▸ of_decide_eq_true hl, q, fin_fro h ex S (.str _ (strOk_one hz q))⟩ hs
    | _ => exact absurd h id
  | lst xs =>
    cases e with
    | int j =>
      obtain rfl := hy.int
      obtain ⟨a, vs, rfl, ha, ra⟩ := hx.lst S
      have h : PR L W ro G H σ' fr (match L2.atI xs j with | some d => .ok (d, .fro) I2 | none => .bad) (RkR L H) Q := h
      cases q : L2.atI xs j with
      | none => rw [q] at h; exact absurd h id
      | some c =>
        rw [q] at h
        obtain ⟨w, hw, rw'⟩ := ra.atI q
        exact ix_list value slice pins s σ H2 _ _ v u Q J rx ry ⟨a, vs, j, w, rfl, rfl, .of ha, hw, fin_fro h ex S rw'⟩ hs
    | _ => exact absurd h id
  | tup xs =>
    cases e with
    | int j =>
      obtain rfl := hy.int
      have h : PR L W ro G H σ' fr (match L2.atI xs j with | some d => bif decide (kd = .cst) then .bad else .ok (d, .fro) I2 | none => .bad) (RkR L H) Q := h
      cases q : L2.atI xs j with
      | none => rw [q] at h; exact absurd h id
      | some c =>
        rw [q] at h
        by_cases hk : kd = .cst
        · rw [decide_eq_true hk] at h; exact absurd h id
        · rw [decide_eq_false hk] at h
          obtain ⟨a, vs, rfl, ha, ra⟩ := hx.tup S hk
          obtain ⟨w, hw, rw'⟩ := ra.atI q
          exact ix_tup value slice pins s σ H2 _ _ v u Q J rx ry ⟨a, vs, j, w, rfl, rfl, .of ha, hw, fin_fro h ex S rw'⟩ hs
    | _ => exact absurd h id
  | scr ns =>
    cases e with
    | int j =>
      obtain rfl := hy.int
      obtain ⟨a, rfl, ha⟩ := hx.scr S
      have h : PR L W ro G H σ' fr (match L2.atI ns j with | some d => .ok (.int d, .fro) I2 | none => .bad) (RkR L H) Q := h
      cases q : L2.atI ns j with
      | none => rw [q] at h; exact absurd h id
      | some c =>
        rw [q] at h
        exact ix_list value slice pins s σ H2 _ _ v u Q J rx ry ⟨a, _, j, _, rfl, rfl, hK ▸ ha, atI_map V.int q, fin_fro h ex S (.int c)⟩ hs
    | _ => exact absurd h id
  | dK ks vs =>
    have h : PR L W ro G H σ' fr (match lookD (.dK ks vs) e with | some (some d) => .ok (d, .fro) I2 | _ => .bad) (RkR L H) Q := h
    cases q : lookD (.dK ks vs) e with
    | none => rw [q] at h; exact absurd h id
    | some o =>
      cases o with
      | none => rw [q] at h; exact absurd h id
      | some dd =>
        rw [q] at h
        obtain ⟨a, ov, rfl, g, w, rfl, rw'⟩ := look_get S hx hy q
        cases rx
        exact tail_any (ds_typeIs J (hK ▸ g)) PySem.F.slot_dict_getitem.lookup (ds_getItem (Nat.lt_of_le_of_lt (by omega) hu) J (hK ▸ g) ry fun w' s' J' r => ⟨w, H2, J', r, fin_fro h ex S rw'⟩) hs
  | dT ks vs =>
    have h : PR L W ro G H σ' fr (match lookD (.dT ks vs) e with | some (some d) => .ok (d, .fro) I2 | _ => .bad) (RkR L H) Q := h
    cases q : lookD (.dT ks vs) e with
    | none => rw [q] at h; exact absurd h id
    | some o =>
      cases o with
      | none => rw [q] at h; exact absurd h id
      | some dd =>
        rw [q] at h
        obtain ⟨a, ov, rfl, g, w, rfl, rw'⟩ := look_get S hx hy q
        cases rx
        exact tail_any (ds_typeIs J (hK ▸ g)) PySem.F.slot_dict_getitem.lookup (ds_getItem (Nat.lt_of_le_of_lt (by omega) hu) J (hK ▸ g) ry fun w' s' J' r => ⟨w, H2, J', r, fin_fro h ex S rw'⟩) hs
  | _ => exact absurd h id
end
end Air
/-! Air: rising lists. -/
namespace Air
open PySem L2
theorem ltK_irrefl (a : List Ik) : ltK a a = false := (PyProof.Rows.listOrd PyProof.Rows.itemOrd).irrefl a
theorem ltK_trans {a b c : List Ik} (h1 : ltK a b = true) (h2 : ltK b c = true) : ltK a c = true := (PyProof.Rows.listOrd PyProof.Rows.itemOrd).trans a b c h1 h2
theorem ltK_neg {a b c : List Ik} (h : ltK a c = true) : ltK a b = true ∨ ltK b c = true := (PyProof.Rows.listOrd PyProof.Rows.itemOrd).negTrans a b c h
theorem ltK_total {a b : List Ik} (h1 : ltK a b = false) (h2 : ltK b a = false) : a = b := (PyProof.Rows.listOrd PyProof.Rows.itemOrd).total a b h1 h2
theorem le_refl (a : D) : D.le a a = true := by unfold D.le; rw [ltK_irrefl]; rfl
theorem le_total (a b : D) : D.le a b = true ∨ D.le b a = true := by
  unfold D.le
  cases h1 : ltK b.key a.key with
  | false => exact .inl rfl
  | true =>
    cases h2 : ltK a.key b.key with
    | false => exact .inr rfl
    | true => have := ltK_trans h1 h2; rw [ltK_irrefl] at this; cases this
theorem le_trans {a b c : D} (h1 : D.le a b = true) (h2 : D.le b c = true) : D.le a c = true := by
  unfold D.le at *
  cases h : ltK c.key a.key with
  | false => rfl
  | true =>
    rcases ltK_neg (b := b.key) h with z | z
    · rw [z] at h2; cases h2
    · rw [z] at h1; cases h1
theorem le_anti {a b : D} (h1 : D.le a b = true) (h2 : D.le b a = true) : a.key = b.key := by
  unfold D.le at *
  exact ltK_total (by simpa using h2) (by simpa using h1)
theorem insD_perm (x : D) : ∀ ys : List D, (insD x ys).Perm (x :: ys)
  | [] => .refl _
  | y :: r => by
    unfold insD
    cases h : D.le x y with
    | true => exact .refl _
    | false => exact ((insD_perm x r).cons y).trans (.swap _ _ _)
theorem sortD_perm : ∀ xs : List D, (sortD xs).Perm xs
  | [] => .refl _
  | x :: r => (insD_perm x _).trans ((sortD_perm r).cons x)
theorem insD_pw (x : D) : ∀ ys : List D, ys.Pairwise (fun a b => D.le a b = true) → (insD x ys).Pairwise (fun a b => D.le a b = true)
  | [], _ => by simp [insD]
  | y :: r, h => by
    unfold insD
    have ⟨h1, h2⟩ := List.pairwise_cons.mp h
    cases q : D.le x y with
    | true => exact .cons (fun z hz => (List.mem_cons.mp hz).elim (fun e => e ▸ q) fun hz => le_trans q (h1 z hz)) h
    | false =>
      have yx : D.le y x = true := (le_total x y).elim (fun z => by rw [q] at z; cases z) id
      refine .cons (fun z hz => ?_) (insD_pw x r h2)
      rcases List.mem_cons.mp ((insD_perm x r).mem_iff.mp hz) with e | e
      · exact e ▸ yx
      · exact h1 z e
theorem sortD_pw : ∀ xs : List D, (sortD xs).Pairwise (fun a b => D.le a b = true)
  | [] => .nil
  | x :: r => insD_pw x _ (sortD_pw r)
/-- there is one rising arrangement -/
theorem rise_uniq : ∀ {xs ys : List D}, xs.Perm ys → xs.Pairwise (fun a b => D.le a b = true) → ys.Pairwise (fun a b => D.le a b = true) → (∀ a ∈ xs, ∀ b ∈ xs, a.key = b.key → a = b) → xs = ys
  | [], ys, p, _, _, _ => p.nil_eq
  | x :: xs, [], p, _, _, _ => by have := p.length_eq; simp at this
  | x :: xs, y :: ys, p, h1, h2, inj => by
    have ⟨a1, a2⟩ := List.pairwise_cons.mp h1
    have ⟨b1, b2⟩ := List.pairwise_cons.mp h2
    have hx : x ∈ y :: ys := p.mem_iff.mp List.mem_cons_self
    have hy : y ∈ x :: xs := p.mem_iff.mpr List.mem_cons_self
    have l1 : D.le x y = true := (List.mem_cons.mp hy).elim (fun e => by rw [e]; exact le_refl _) (a1 y)
    have l2 : D.le y x = true := (List.mem_cons.mp hx).elim (fun e => by rw [e]; exact le_refl _) (b1 x)
    have e : x = y := inj x List.mem_cons_self y hy (le_anti l1 l2)
    subst e
    rw [rise_uniq ((List.perm_cons x).mp p) a2 b2 fun a ha b hb => inj a (List.mem_cons_of_mem _ ha) b (List.mem_cons_of_mem _ hb)]
theorem sortD_eq {xs ys : List D} (p : ys.Perm xs) (h : ys.Pairwise (fun a b => D.le a b = true)) (inj : ∀ a ∈ xs, ∀ b ∈ xs, a.key = b.key → a = b) : ys = sortD xs :=
  rise_uniq (p.trans (sortD_perm xs).symm) h (sortD_pw xs) fun a ha b hb => inj a (p.mem_iff.mp ha) b (p.mem_iff.mp hb)
theorem le_int (i j : Int) : D.le (.int i) (.int j) = decide (i ≤ j) := by
  show (!(PyProof.Rows.lexLt PyProof.Rows.itemOrd [.inl j] [.inl i])) = _
  simp only [PyProof.Rows.lexLt]
  show (!(decide (j < i) || (!decide (i < j) && false))) = _
  by_cases h : i ≤ j
  · simp [h, show ¬ j < i by omega]
  · simp [h, show j < i by omega]
theorem le_str (a b : Str) : D.le (.str a) (.str b) = !decide (b.cps.toList < a.cps.toList) := by
  show (!(PyProof.Rows.lexLt PyProof.Rows.itemOrd [.inr b.cps.toList] [.inr a.cps.toList])) = _
  simp only [PyProof.Rows.lexLt]
  show (!(decide (b.cps.toList < a.cps.toList) || (!decide (a.cps.toList < b.cps.toList) && false))) = _
  simp
theorem addU_mem (x : Int) : ∀ (ys : List Int) (z : Int), z ∈ addU x ys ↔ z = x ∨ z ∈ ys
  | [], z => by simp [addU]
  | y :: r, z => by
    unfold addU
    by_cases h1 : x < y
    · rw [decide_eq_true h1]; simp
    · rw [decide_eq_false h1]
      by_cases h2 : x = y
      · rw [decide_eq_true h2]; subst h2; simp
      · rw [decide_eq_false h2]
        simp only [cond_false, List.mem_cons, addU_mem x r z]
        constructor
        · rintro (h | h | h) <;> simp [h]
        · rintro (h | h | h) <;> simp [h]
theorem addU_pw (x : Int) : ∀ ys : List Int, ys.Pairwise (· < ·) → (addU x ys).Pairwise (· < ·)
  | [], _ => by simp [addU]
  | y :: r, h => by
    have ⟨h1, h2⟩ := List.pairwise_cons.mp h
    unfold addU
    by_cases q1 : x < y
    · rw [decide_eq_true q1]
      exact .cons (fun z hz => (List.mem_cons.mp hz).elim (fun e => e ▸ q1) fun hz => Int.lt_trans q1 (h1 z hz)) h
    · rw [decide_eq_false q1]
      by_cases q2 : x = y
      · rw [decide_eq_true q2]; exact h
      · rw [decide_eq_false q2]
        refine .cons (fun z hz => ?_) (addU_pw x r h2)
        rcases (addU_mem x r z).mp hz with e | e
        · subst e; omega
        · exact h1 z e
theorem setL_mem : ∀ (xs : List Int) (z : Int), z ∈ setL xs ↔ z ∈ xs
  | [], z => by simp [setL]
  | x :: r, z => by unfold setL; rw [addU_mem, setL_mem r z, List.mem_cons]
theorem setL_pw : ∀ xs : List Int, (setL xs).Pairwise (· < ·)
  | [] => .nil
  | x :: r => addU_pw x _ (setL_pw r)
theorem lt_uniq : ∀ {xs ys : List Int}, (∀ z, z ∈ xs ↔ z ∈ ys) → xs.Pairwise (· < ·) → ys.Pairwise (· < ·) → xs = ys
  | [], [], _, _, _ => rfl
  | [], y :: ys, h, _, _ => by have := (h y).mpr List.mem_cons_self; simp at this
  | x :: xs, [], h, _, _ => by have := (h x).mp List.mem_cons_self; simp at this
  | x :: xs, y :: ys, h, h1, h2 => by
    have ⟨a1, a2⟩ := List.pairwise_cons.mp h1
    have ⟨b1, b2⟩ := List.pairwise_cons.mp h2
    have e : x = y := by
      rcases List.mem_cons.mp ((h x).mp List.mem_cons_self) with e | e
      · exact e
      · rcases List.mem_cons.mp ((h y).mpr List.mem_cons_self) with e' | e'
        · exact e'.symm
        · have := a1 y e'; have := b1 x e; omega
    subst e
    rw [lt_uniq (fun z => ?_) a2 b2]
    constructor
    · intro hz
      rcases List.mem_cons.mp ((h z).mp (List.mem_cons_of_mem _ hz)) with e | e
      · have := a1 z hz; omega
      · exact e
    · intro hz
      rcases List.mem_cons.mp ((h z).mpr (List.mem_cons_of_mem _ hz)) with e | e
      · have := b1 z hz; omega
      · exact e
theorem maxL_mem : ∀ (a : Int) (r : List Int), maxL (a :: r) ∈ a :: r ∧ ∀ y ∈ a :: r, y ≤ maxL (a :: r)
  | a, [] => by simp [maxL]
  | a, b :: r => by
    have ⟨h1, h2⟩ := maxL_mem b r
    show max a (maxL (b :: r)) ∈ _ ∧ ∀ y ∈ _, y ≤ max a (maxL (b :: r))
    constructor
    · by_cases h : a ≤ maxL (b :: r)
      · rw [Int.max_eq_right h]; exact List.mem_cons_of_mem _ h1
      · rw [Int.max_eq_left (by omega)]; exact List.mem_cons_self
    · intro y hy
      rcases List.mem_cons.mp hy with e | e
      · subst e; omega
      · have := h2 y e; omega
theorem minL_mem : ∀ (a : Int) (r : List Int), minL (a :: r) ∈ a :: r ∧ ∀ y ∈ a :: r, minL (a :: r) ≤ y
  | a, [] => by simp [minL]
  | a, b :: r => by
    have ⟨h1, h2⟩ := minL_mem b r
    show min a (minL (b :: r)) ∈ _ ∧ ∀ y ∈ _, min a (minL (b :: r)) ≤ y
    constructor
    · by_cases h : a ≤ minL (b :: r)
      · rw [Int.min_eq_left h]; exact List.mem_cons_self
      · rw [Int.min_eq_right (by omega)]; exact List.mem_cons_of_mem _ h1
    · intro y hy
      rcases List.mem_cons.mp hy with e | e
      · subst e; omega
      · have := h2 y e; omega
end Air
/-! Air: built-in functions. -/
namespace Air
open PySem PySem.Spec PyProof.Rows L2
variable [Kf]
inductive Rks (L : Lg) (H0 : Hp) (G : Gh) (H : Hp) : List (D × Kd) → List V → Prop
  | nil : Rks L H0 G H [] []
  | cons {p : D × Kd} {v : V} {ps : List (D × Kd)} {vs : List V} : Rk L H0 G H p v → Rks L H0 G H ps vs → Rks L H0 G H (p :: ps) (v :: vs)
def Args (L : Lg) (f : List (D × Kd) → Is → R (D × Kd)) : List V → Hp → VK → Prop := fun vs H2 Q => ∃ W ro G H σ fr ps I2 G2, Ext ro G H G2 H2 ∧ Sx L.c ro G2 fr I2 σ H2 ∧ Rks L H G2 H2 ps vs ∧ PR L W ro G H σ fr (f ps I2) (RkR L H) Q
/-- a[lo:hi] -/
def Cut (L : Lg) : V → Option Int → Option Int → Hp → VK → Prop := fun x lo hi H2 Q => ∃ W ro G H σ fr p I2 G2, Ext ro G H G2 H2 ∧ Sx L.c ro G2 fr I2 σ H2 ∧ Rk L H G2 H2 p x ∧ PR L W ro G H σ fr (slcD p.1 p.2 lo hi I2) (RkR L H) Q
theorem strOk_sub {z : Str} {l : List Nat} (hz : PyData.strOk z = true) (h : ∀ c ∈ l, c ∈ z.cps.toList) : PyData.strOk ⟨l.toArray⟩ = true := by
  have hz : z.cps.all (· < 0x110000) = true := hz
  rw [Array.all_eq_true'] at hz
  show l.toArray.all (· < 0x110000) = true
  rw [Array.all_eq_true']
  intro c hc
  exact hz c (by simpa using h c (by simpa using hc))
section
variable {L : Lg} {X : Cx}
theorem slc_run (hK : X.K = L.K) : SlR X (Cut L) := by
  intro pins s σ H2 x v vl vu lo hi sl Q J rx hs pl pu h
  obtain ⟨W, ro, G, H, σ', fr, ⟨d, kd⟩, I2, G2, ex, S, hx, h⟩ := h
  cases d with
  | str z =>
    obtain ⟨rfl, hz⟩ := hx.str
    obtain ⟨hl, h⟩ := PR.cond (show PR L W ro G H σ' fr (bif decide (z.length ≤ lim) then .ok (.str (cutS z lo hi), .fro) I2 else .bad) (RkR L H) Q from h)
    refine sl_str pins s σ H2 _ v vl vu lo hi sl Q J rx hs pl pu ⟨z, rfl, lim_eq ▸ of_decide_eq_true hl, fin_fro h ex S (.str _ ?_)⟩
    exact strOk_sub hz fun c hc => List.mem_of_mem_drop (List.mem_of_mem_take hc)
  | lst xs =>
    obtain ⟨a, vs, rfl, ha, ra⟩ := hx.lst S
    have h : PR L W ro G H σ' fr (.ok (.lst (cutD xs lo hi), .new) I2) (RkR L H) Q := h
    refine sl_list pins s σ H2 _ v vl vu lo hi sl Q J rx hs pl pu ⟨a, vs, rfl, .of ha, fun p hp => fin_lst h ex S hp ?_⟩
    unfold cutV cutD
    rw [ra.length]
    exact (ra.drop _).take _
  | tup xs =>
    have h : PR L W ro G H σ' fr (bif decide (kd = .cst) || decide (HT.sIx xs.length 0 lo = 0 ∧ HT.sIx xs.length xs.length hi = xs.length) then .bad else .ok (.tup (cutD xs lo hi), .fro) I2) (RkR L H) Q := h
    cases q : decide (kd = .cst) || decide (HT.sIx xs.length 0 lo = 0 ∧ HT.sIx xs.length xs.length hi = xs.length) with
    | true => rw [q] at h; exact absurd h id
    | false =>
      rw [q] at h
      simp only [Bool.or_eq_false_iff, decide_eq_false_iff_not] at q
      obtain ⟨a, vs, rfl, ha, ra⟩ := hx.tup S q.1
      refine sl_tup pins s σ H2 _ v vl vu lo hi sl Q J rx hs pl pu ⟨a, vs, rfl, .of ha, by rw [ra.length]; exact q.2, fun p hp => fin_tup h ex S hp ?_⟩
      unfold cutV cutD
      rw [ra.length]
      exact (ra.drop _).take _
  | _ => exact absurd h id
theorem args1 {H0 H : Hp} {G : Gh} {ps : List (D × Kd)} {vs : List V} (h : Rks L H0 G H ps vs) {p : D × Kd} (e : ps = [p]) : ∃ v, vs = [v] ∧ Rk L H0 G H p v := by
  subst e
  cases h with
  | cons h t => cases t; exact ⟨_, rfl, h⟩
theorem args2 {H0 H : Hp} {G : Gh} {ps : List (D × Kd)} {vs : List V} (h : Rks L H0 G H ps vs) {p q : D × Kd} (e : ps = [p, q]) : ∃ v w, vs = [v, w] ∧ Rk L H0 G H p v ∧ Rk L H0 G H q w := by
  subst e
  cases h with
  | cons h t =>
    cases t with
    | cons h2 t => cases t; exact ⟨_, _, rfl, h, h2⟩
theorem bi1 {f : Bi} {ps : List (D × Kd)} (hf : ∀ ps I, (∀ p, ps ≠ [p]) → biD f ps I = .bad) {W : WX} {ro : Bool} {G : Gh} {H : Hp} {σ : L2.St} {fr : Fr} {I : Is} {Q : VK} (h : PR L W ro G H σ fr (biD f ps I) (RkR L H) Q) : ∃ p, ps = [p] := by
  by_cases e : ∃ p, ps = [p]
  · exact e
  · rw [hf ps I fun p z => e ⟨p, z⟩] at h; exact absurd h id
theorem bi2 {f : Bi} {ps : List (D × Kd)} (hf : ∀ ps I, (∀ p q, ps ≠ [p, q]) → biD f ps I = .bad) {W : WX} {ro : Bool} {G : Gh} {H : Hp} {σ : L2.St} {fr : Fr} {I : Is} {Q : VK} (h : PR L W ro G H σ fr (biD f ps I) (RkR L H) Q) : ∃ p q, ps = [p, q] := by
  by_cases e : ∃ p q, ps = [p, q]
  · exact e
  · rw [hf ps I fun p q z => e ⟨p, q, z⟩] at h; exact absurd h id
theorem len_run (hK : X.K = L.K) : CallR X (.builtin "len") (Args L (biD .len)) := by
  intro pins s σ H2 xs us Q J r h
  obtain ⟨W, ro, G, H, σ', fr, ps, I2, G2, ex, S, hx, h⟩ := h
  obtain ⟨⟨d, k⟩, rfl⟩ := bi1 (fun ps I hp => by
    rcases ps with _ | ⟨p, _ | ⟨q, r⟩⟩
    · rfl
    · exact absurd rfl (hp p)
    · obtain ⟨d, k⟩ := p; cases d <;> rfl) h
  obtain ⟨v, rfl, hv⟩ := args1 hx rfl
  cases d with
  | str z =>
    obtain ⟨rfl, hz⟩ := hv.str
    obtain ⟨hl, h⟩ := PR.cond (show PR L W ro G H σ' fr (bif decide (z.length ≤ lim) then .ok (.int z.length, .fro) I2 else .bad) (RkR L H) Q from h)
    exact call_len_str pins s σ H2 _ us Q J r ⟨z, rfl, lim_eq ▸ of_decide_eq_true hl, fin_fro h ex S (.int _)⟩
  | lst ds =>
    obtain ⟨a, vs, rfl, ha, ra⟩ := hv.lst S
    have h : PR L W ro G H σ' fr (.ok (.int ds.length, .fro) I2) (RkR L H) Q := h
    exact call_len_seq pins s σ H2 _ us Q J r ⟨a, vs, rfl, .inl (.of ha), by rw [ra.length]; exact fin_fro h ex S (.int _)⟩
  | tup ds =>
    have h : PR L W ro G H σ' fr (bif decide (k = .cst) then .bad else .ok (.int ds.length, .fro) I2) (RkR L H) Q := h
    by_cases hk : k = .cst
    · rw [decide_eq_true hk] at h; exact absurd h id
    · rw [decide_eq_false hk] at h
      obtain ⟨a, vs, rfl, ha, ra⟩ := hv.tup S hk
      exact call_len_seq pins s σ H2 _ us Q J r ⟨a, vs, rfl, .inr (.of ha), by rw [ra.length]; exact fin_fro h ex S (.int _)⟩
  | scr ns =>
    obtain ⟨a, rfl, ha⟩ := hv.scr S
    have h : PR L W ro G H σ' fr (.ok (.int ns.length, .fro) I2) (RkR L H) Q := h
    exact call_len_seq pins s σ H2 _ us Q J r ⟨a, _, rfl, .inl (hK ▸ ha), by rw [List.length_map]; exact fin_fro h ex S (.int _)⟩
  | dK ks ds =>
    obtain ⟨a, vs, rfl, ha, hl, ra⟩ := hv.dK S
    obtain ⟨u, rfl, ru⟩ := vals1 r
    cases ru
    have h : PR L W ro G H σ' fr (.ok (.int ks.length, .fro) I2) (RkR L H) Q := h
    refine d_len J ha fun t s' I' => ⟨.int _, H2, I', ⟨t, rfl⟩, ?_⟩
    rw [List.length_zip, ← hl.1, Nat.min_self]
    exact fin_fro h ex S (.int _)
  | _ => exact absurd h id
theorem one_lst {f : Bi} (hf : ∀ ps I, (∀ ds k, ps ≠ [(.lst ds, k)]) → biD f ps I = .bad) {ps : List (D × Kd)} {W : WX} {ro : Bool} {G : Gh} {H : Hp} {σ : L2.St} {fr : Fr} {I : Is} {Q : VK} (h : PR L W ro G H σ fr (biD f ps I) (RkR L H) Q) : ∃ ds k, ps = [(.lst ds, k)] := by
  by_cases e : ∃ ds k, ps = [(.lst ds, k)]
  · exact e
  · rw [hf ps I fun p q z => e ⟨p, q, z⟩] at h; exact absurd h id
theorem all_run (hK : X.K = L.K) (hc : X.calm = true) : CallR X (.builtin "all") (Args L (biD .all)) := by
  intro pins s σ H2 xs us Q J r h
  obtain ⟨W, ro, G, H, σ', fr, ps, I2, G2, ex, S, hx, h⟩ := h
  obtain ⟨ds, k, rfl⟩ := one_lst (fun ps I hp => by
    rcases ps with _ | ⟨⟨d, k⟩, _ | ⟨q, r⟩⟩
    · rfl
    · cases d <;> first | rfl | exact absurd rfl (hp _ _)
    · cases d <;> rfl) h
  obtain ⟨v, rfl, hv⟩ := args1 hx rfl
  obtain ⟨a, vs, rfl, ha, ra⟩ := hv.lst S
  have h : PR L W ro G H σ' fr (match blsD ds with | some bs => .ok (.bl (bs.all id), .fro) I2 | none => .bad) (RkR L H) Q := h
  cases q : blsD ds with
  | none => rw [q] at h; exact absurd h id
  | some bs =>
    rw [q] at h
    have e := ra.blsD q
    subst e
    exact cr_all hc pins s σ H2 _ us Q J r ⟨a, bs, rfl, .of ha, fin_fro h ex S (.bl _)⟩
theorem any_run (hK : X.K = L.K) (hc : X.calm = true) : CallR X (.builtin "any") (Args L (biD .any)) := by
  intro pins s σ H2 xs us Q J r h
  obtain ⟨W, ro, G, H, σ', fr, ps, I2, G2, ex, S, hx, h⟩ := h
  obtain ⟨ds, k, rfl⟩ := one_lst (fun ps I hp => by
    rcases ps with _ | ⟨⟨d, k⟩, _ | ⟨q, r⟩⟩
    · rfl
    · cases d <;> first | rfl | exact absurd rfl (hp _ _)
    · cases d <;> rfl) h
  obtain ⟨v, rfl, hv⟩ := args1 hx rfl
  obtain ⟨a, vs, rfl, ha, ra⟩ := hv.lst S
  have h : PR L W ro G H σ' fr (match blsD ds with | some bs => .ok (.bl (bs.any id), .fro) I2 | none => .bad) (RkR L H) Q := h
  cases q : blsD ds with
  | none => rw [q] at h; exact absurd h id
  | some bs =>
    rw [q] at h
    have e := ra.blsD q
    subst e
    exact cr_any hc pins s σ H2 _ us Q J r ⟨a, bs, rfl, .of ha, fin_fro h ex S (.bl _)⟩
theorem sum_run (hc : X.calm = true) : CallR X (.builtin "sum") (Args L (biD .sum)) := by
  intro pins s σ H2 xs us Q J r h
  obtain ⟨W, ro, G, H, σ', fr, ps, I2, G2, ex, S, hx, h⟩ := h
  obtain ⟨ds, k, rfl⟩ := one_lst (fun ps I hp => by
    rcases ps with _ | ⟨⟨d, k⟩, _ | ⟨q, r⟩⟩
    · rfl
    · cases d <;> first | rfl | exact absurd rfl (hp _ _)
    · cases d <;> rfl) h
  obtain ⟨v, rfl, hv⟩ := args1 hx rfl
  obtain ⟨a, vs, rfl, ha, ra⟩ := hv.lst S
  have h : PR L W ro G H σ' fr (match intsD ds with | some bs => .ok (.int bs.sum, .fro) I2 | none => .bad) (RkR L H) Q := h
  cases q : intsD ds with
  | none => rw [q] at h; exact absurd h id
  | some bs =>
    rw [q] at h
    have e := ra.intsD q
    subst e
    exact cr_sum hc pins s σ H2 _ us Q J r ⟨a, bs, rfl, .of ha, fin_fro h ex S (.int _)⟩
theorem max1_run (hc : X.calm = true) : CallR X (.builtin "max") (Args L (biD .max1)) := by
  intro pins s σ H2 xs us Q J r h
  obtain ⟨W, ro, G, H, σ', fr, ps, I2, G2, ex, S, hx, h⟩ := h
  obtain ⟨ds, k, rfl⟩ := one_lst (fun ps I hp => by
    rcases ps with _ | ⟨⟨d, k⟩, _ | ⟨q, r⟩⟩
    · rfl
    · cases d <;> first | rfl | exact absurd rfl (hp _ _)
    · cases d <;> rfl) h
  obtain ⟨v, rfl, hv⟩ := args1 hx rfl
  obtain ⟨a, vs, rfl, ha, ra⟩ := hv.lst S
  have h : PR L W ro G H σ' fr (match intsD ds with | some (n :: ns) => .ok (.int (maxL (n :: ns)), .fro) I2 | _ => .bad) (RkR L H) Q := h
  cases q : intsD ds with
  | none => rw [q] at h; exact absurd h id
  | some bs =>
    rw [q] at h
    have e := ra.intsD q
    subst e
    cases bs with
    | nil => exact absurd h id
    | cons n ns =>
      refine cr_max hc pins s σ H2 _ us Q J r ⟨a, n :: ns, rfl, .of ha, by simp, fun m hm hle => ?_⟩
      have ⟨m1, m2⟩ := maxL_mem n ns
      have e : m = maxL (n :: ns) := Int.le_antisymm (m2 m hm) (hle _ m1)
      subst e
      exact fin_fro h ex S (.int _)
theorem min1_run (hc : X.calm = true) : CallR X (.builtin "min") (Args L (biD .min1)) := by
  intro pins s σ H2 xs us Q J r h
  obtain ⟨W, ro, G, H, σ', fr, ps, I2, G2, ex, S, hx, h⟩ := h
  obtain ⟨ds, k, rfl⟩ := one_lst (fun ps I hp => by
    rcases ps with _ | ⟨⟨d, k⟩, _ | ⟨q, r⟩⟩
    · rfl
    · cases d <;> first | rfl | exact absurd rfl (hp _ _)
    · cases d <;> rfl) h
  obtain ⟨v, rfl, hv⟩ := args1 hx rfl
  obtain ⟨a, vs, rfl, ha, ra⟩ := hv.lst S
  have h : PR L W ro G H σ' fr (match intsD ds with | some (n :: ns) => .ok (.int (minL (n :: ns)), .fro) I2 | _ => .bad) (RkR L H) Q := h
  cases q : intsD ds with
  | none => rw [q] at h; exact absurd h id
  | some bs =>
    rw [q] at h
    have e := ra.intsD q
    subst e
    cases bs with
    | nil => exact absurd h id
    | cons n ns =>
      refine cr_min hc pins s σ H2 _ us Q J r ⟨a, n :: ns, rfl, .of ha, by simp, fun m hm hle => ?_⟩
      have ⟨m1, m2⟩ := minL_mem n ns
      have e : m = minL (n :: ns) := Int.le_antisymm (hle _ m1) (m2 m hm)
      subst e
      exact fin_fro h ex S (.int _)
theorem two_int {f : Bi} (hf : ∀ ps I, (∀ a b k l, ps ≠ [(.int a, k), (.int b, l)]) → biD f ps I = .bad) {ps : List (D × Kd)} {W : WX} {ro : Bool} {G : Gh} {H : Hp} {σ : L2.St} {fr : Fr} {I : Is} {Q : VK} (h : PR L W ro G H σ fr (biD f ps I) (RkR L H) Q) : ∃ a b k l, ps = [(.int a, k), (.int b, l)] := by
  by_cases e : ∃ a b k l, ps = [(.int a, k), (.int b, l)]
  · exact e
  · rw [hf ps I fun p q k l z => e ⟨p, q, k, l, z⟩] at h; exact absurd h id
theorem max2_run (hc : X.calm = true) : CallR X (.builtin "max") (Args L (biD .max2)) := by
  intro pins s σ H2 xs us Q J r h
  obtain ⟨W, ro, G, H, σ', fr, ps, I2, G2, ex, S, hx, h⟩ := h
  obtain ⟨a, b, k, l, rfl⟩ := two_int (fun ps I hp => by
    rcases ps with _ | ⟨⟨d, k⟩, _ | ⟨⟨e, l⟩, _ | ⟨q, r⟩⟩⟩
    · rfl
    · cases d <;> rfl
    · cases d <;> cases e <;> first | rfl | exact absurd rfl (hp _ _ _ _)
    · cases d <;> cases e <;> rfl) h
  obtain ⟨v, w, rfl, hv, hw⟩ := args2 hx rfl
  rw [hv.int, hw.int] at r
  have h : PR L W ro G H σ' fr (.ok (.int (max a b), .fro) I2) (RkR L H) Q := h
  refine call_max2 hc pins s σ H2 [.int a, .int b] us Q J r ⟨a, b, rfl, ?_⟩
  rw [show (if b > a then b else a) = max a b by split <;> omega]
  exact fin_fro h ex S (.int _)
theorem min2_run (hc : X.calm = true) : CallR X (.builtin "min") (Args L (biD .min2)) := by
  intro pins s σ H2 xs us Q J r h
  obtain ⟨W, ro, G, H, σ', fr, ps, I2, G2, ex, S, hx, h⟩ := h
  obtain ⟨a, b, k, l, rfl⟩ := two_int (fun ps I hp => by
    rcases ps with _ | ⟨⟨d, k⟩, _ | ⟨⟨e, l⟩, _ | ⟨q, r⟩⟩⟩
    · rfl
    · cases d <;> rfl
    · cases d <;> cases e <;> first | rfl | exact absurd rfl (hp _ _ _ _)
    · cases d <;> cases e <;> rfl) h
  obtain ⟨v, w, rfl, hv, hw⟩ := args2 hx rfl
  rw [hv.int, hw.int] at r
  have h : PR L W ro G H σ' fr (.ok (.int (min a b), .fro) I2) (RkR L H) Q := h
  refine call_min2 hc pins s σ H2 [.int a, .int b] us Q J r ⟨a, b, rfl, ?_⟩
  rw [show (if b < a then b else a) = min a b by split <;> omega]
  exact fin_fro h ex S (.int _)
theorem divmod_run : CallR X (.builtin "divmod") (Args L (biD .divmod)) := by
  intro pins s σ H2 xs us Q J r h
  obtain ⟨W, ro, G, H, σ', fr, ps, I2, G2, ex, S, hx, h⟩ := h
  obtain ⟨a, b, k, l, rfl⟩ := two_int (fun ps I hp => by
    rcases ps with _ | ⟨⟨d, k⟩, _ | ⟨⟨e, l⟩, _ | ⟨q, r⟩⟩⟩
    · rfl
    · cases d <;> rfl
    · cases d <;> cases e <;> first | rfl | exact absurd rfl (hp _ _ _ _)
    · cases d <;> cases e <;> rfl) h
  obtain ⟨v, w, rfl, hv, hw⟩ := args2 hx rfl
  rw [hv.int, hw.int] at r
  obtain ⟨hb, h⟩ := PR.cond (show PR L W ro G H σ' fr (bif decide (0 < b) && decide (b < 1000000) then .ok (.tup [.int (a / b), .int (a % b)], .fro) I2 else .bad) (RkR L H) Q from h)
  simp only [Bool.and_eq_true, decide_eq_true_eq] at hb
  have hj : CDiv a b := ⟨hb.1, by omega⟩
  refine call_divmod pins s σ H2 [.int a, .int b] us Q J r ⟨a, b, rfl, hj, fun p hp => ?_⟩
  have nF := S.notF hp
  exact h (.ref p) (G2.put p _) _ ((ex.trans (Ext.new hp)).put (by
    cases z : H p with
    | none => rfl
    | some o => exact absurd (ex.dom p hp) (by rw [z]; simp)) nF) ((S.new hp).freeze (u := .tup [.int (a / b), .int (a % b)]) trivial (.inl upd_same) (S.notFr hp) (S.notIs hp) nF) (.fro (.tup upd_same (.cons (.int _) (.cons (.int _) .nil))))
theorem list_run (hK : X.K = L.K) : CallR X (.type "list") (Args L (biD .list)) := by
  intro pins s σ H2 xs us Q J r h
  obtain ⟨W, ro, G, H, σ', fr, ps, I2, G2, ex, S, hx, h⟩ := h
  obtain ⟨⟨d, k⟩, rfl⟩ := bi1 (fun ps I hp => by
    rcases ps with _ | ⟨p, _ | ⟨q, r⟩⟩
    · rfl
    · exact absurd rfl (hp p)
    · obtain ⟨d, k⟩ := p; cases d <;> rfl) h
  obtain ⟨v, rfl, hv⟩ := args1 hx rfl
  cases d with
  | lst ds =>
    obtain ⟨a, vs, rfl, ha, ra⟩ := hv.lst S
    have h : PR L W ro G H σ' fr (.ok (.lst ds, .new) I2) (RkR L H) Q := h
    exact call_list_of pins s σ H2 _ us Q J r ⟨a, vs, rfl, .inl (.of ha), fun p hp => fin_lst h ex S hp ra⟩
  | tup ds =>
    have h : PR L W ro G H σ' fr (bif decide (k = .cst) then .bad else .ok (.lst ds, .new) I2) (RkR L H) Q := h
    by_cases hk : k = .cst
    · rw [decide_eq_true hk] at h; exact absurd h id
    · rw [decide_eq_false hk] at h
      obtain ⟨a, vs, rfl, ha, ra⟩ := hv.tup S hk
      exact call_list_of pins s σ H2 _ us Q J r ⟨a, vs, rfl, .inr (.of ha), fun p hp => fin_lst h ex S hp ra⟩
  | _ => exact absurd h id
theorem tuple_run (hK : X.K = L.K) : CallR X (.type "tuple") (Args L (biD .tuple)) := by
  intro pins s σ H2 xs us Q J r h
  obtain ⟨W, ro, G, H, σ', fr, ps, I2, G2, ex, S, hx, h⟩ := h
  obtain ⟨⟨d, k⟩, rfl⟩ := bi1 (fun ps I hp => by
    rcases ps with _ | ⟨p, _ | ⟨q, r⟩⟩
    · rfl
    · exact absurd rfl (hp p)
    · obtain ⟨d, k⟩ := p; cases d <;> rfl) h
  obtain ⟨v, rfl, hv⟩ := args1 hx rfl
  cases d with
  | lst ds =>
    obtain ⟨a, vs, rfl, ha, ra⟩ := hv.lst S
    have h : PR L W ro G H σ' fr (.ok (.tup ds, .fro) I2) (RkR L H) Q := h
    exact call_tuple_of pins s σ H2 _ us Q J r ⟨a, vs, rfl, .inl ⟨.of ha, fun p hp => fin_tup h ex S hp ra⟩⟩
  | tup ds =>
    have h : PR L W ro G H σ' fr (bif decide (k = .cst) then .bad else .ok (.tup ds, .fro) I2) (RkR L H) Q := h
    by_cases hk : k = .cst
    · rw [decide_eq_true hk] at h; exact absurd h id
    · rw [decide_eq_false hk] at h
      obtain ⟨a, vs, rfl, ha, ra⟩ := hv.tup S hk
      refine call_tuple_of pins s σ H2 _ us Q J r ⟨a, vs, rfl, .inr ⟨.of ha, fin_fro h ex S ?_⟩⟩
      cases hv with
      | fro hv => exact hv
      | own e | inst e | new e => cases e
      | cst => exact absurd rfl hk
  | _ => exact absurd h id
theorem int_run : CallR X (.type "int") (Args L (biD .int)) := by
  intro pins s σ H2 xs us Q J r h
  obtain ⟨W, ro, G, H, σ', fr, ps, I2, G2, ex, S, hx, h⟩ := h
  obtain ⟨⟨d, k⟩, rfl⟩ := bi1 (fun ps I hp => by
    rcases ps with _ | ⟨p, _ | ⟨q, r⟩⟩
    · rfl
    · exact absurd rfl (hp p)
    · obtain ⟨d, k⟩ := p; cases d <;> rfl) h
  obtain ⟨v, rfl, hv⟩ := args1 hx rfl
  cases d with
  | int i =>
    obtain rfl := hv.int
    have h : PR L W ro G H σ' fr (.ok (.int i, .fro) I2) (RkR L H) Q := h
    exact call_int1 pins s σ H2 _ us Q J r (.inl ⟨i, rfl, fin_fro h ex S (.int _)⟩)
  | bl b =>
    obtain rfl := hv.bl
    have h : PR L W ro G H σ' fr (.ok (.int (bif b then 1 else 0), .fro) I2) (RkR L H) Q := h
    refine call_int1 pins s σ H2 _ us Q J r (.inr ⟨b, rfl, ?_⟩)
    rw [show (if b = true then (1 : Int) else 0) = bif b then 1 else 0 by cases b <;> rfl]
    exact fin_fro h ex S (.int _)
  | _ => exact absurd h id
/-! ### sorted -/
theorem vals_perm {F : Hp} {M : List (Addr × Addr)} {us out : List Value} (p : out.Perm us) : ∀ {vs : List V} {ds : List D}, Vals vs us → RVs F M vs ds → ∃ vs' ds', Vals vs' out ∧ RVs F M vs' ds' ∧ ds'.Perm ds := by
  induction p with
  | nil => intro vs ds r q; cases r; cases q; exact ⟨[], [], .nil, .nil, .refl _⟩
  | cons x _ ih =>
    intro vs ds r q
    cases r with
    | cons r1 r2 =>
      cases q with
      | cons q1 q2 =>
        obtain ⟨vs', ds', h1, h2, h3⟩ := ih r2 q2
        exact ⟨_, _, .cons r1 h1, .cons q1 h2, h3.cons _⟩
  | swap x y l =>
    intro vs ds r q
    cases r with
    | cons r1 r2 =>
      cases r2 with
      | cons r2 r3 =>
        cases q with
        | cons q1 q2 =>
          cases q2 with
          | cons q2 q3 => exact ⟨_, _, .cons r2 (.cons r1 r3), .cons q2 (.cons q1 q3), .swap _ _ _⟩
  | trans _ _ ih1 ih2 =>
    intro vs ds r q
    obtain ⟨v1, d1, h1, h2, h3⟩ := ih2 r q
    obtain ⟨v2, d2, h4, h5, h6⟩ := ih1 h1 h2
    exact ⟨v2, d2, h4, h5, h6.trans h3⟩
theorem intsD_map : ∀ {ds : List D} {ns : List Int}, intsD ds = some ns → ds = ns.map D.int
  | [], _, e => by cases e; rfl
  | d :: r, _, e => by
    cases d <;> simp only [intsD] at e <;> try (cases e; done)
    obtain ⟨ms, hm, rfl⟩ := Option.map_eq_some_iff.mp e
    rw [intsD_map hm]; rfl
theorem strsD_map : ∀ {ds : List D} {ns : List Str}, strsD ds = some ns → ds = ns.map D.str
  | [], _, e => by cases e; rfl
  | d :: r, _, e => by
    cases d <;> simp only [strsD] at e <;> try (cases e; done)
    obtain ⟨ms, hm, rfl⟩ := Option.map_eq_some_iff.mp e
    rw [strsD_map hm]; rfl
theorem strs_rise : ∀ (x : Str) (r : List Str), risingS x r = true → ∀ y ∈ r, D.le (.str x) (.str y) = true
  | _, [], _, y, hy => by simp at hy
  | p, x :: r, h, y, hy => by
    have h : (!ltCps x.cps.toList p.cps.toList && risingS x r) = true := h
    rw [Bool.and_eq_true] at h
    have hl : D.le (.str p) (.str x) = true := by
      rw [le_str]
      have e : ltCps x.cps.toList p.cps.toList = decide (x.cps.toList < p.cps.toList) := ltCps_eq _ _
      rw [← e]; exact h.1
    rcases List.mem_cons.mp hy with e | e
    · exact e ▸ hl
    · exact le_trans hl (strs_rise x r h.2 y e)
theorem strs_pw : ∀ (ss : List Str), sortedS ss = true → (ss.map D.str).Pairwise (fun a b => D.le a b = true)
  | [], _ => .nil
  | x :: r, h => by
    have h : risingS x r = true := h
    refine .cons (fun y hy => ?_) (strs_pw r (by cases r with | nil => rfl | cons z r => exact (Bool.and_eq_true_iff.mp (show (!ltCps z.cps.toList x.cps.toList && risingS z r) = true from h)).2))
    obtain ⟨z, hz, rfl⟩ := List.mem_map.mp hy
    exact strs_rise x r h z hz
theorem key_str {a b : Str} (h : D.key (.str a) = D.key (.str b)) : a = b := by
  obtain ⟨⟨a⟩⟩ := a
  obtain ⟨⟨b⟩⟩ := b
  have h : [Sum.inr a] = ([Sum.inr b] : List Ik) := h
  simp at h
  subst h; rfl
theorem iks_inj : ∀ {xs ys : List D} {k : List Ik}, iksD xs = some k → iksD ys = some k → xs = ys
  | [], [], _, _, _ => rfl
  | [], y :: ys, k, h1, h2 => by
    cases h1
    unfold iksD at h2
    split at h2 <;> cases h2
  | x :: xs, [], k, h1, h2 => by
    cases h2
    unfold iksD at h1
    split at h1 <;> cases h1
  | x :: xs, y :: ys, k, h1, h2 => by
    unfold iksD at h1 h2
    split at h1
    · rename_i k1 ks1 e1 e2
      cases h1
      split at h2
      · rename_i k2 ks2 e3 e4
        injection h2 with h2
        injection h2 with h3 h4
        subst h3 h4
        rw [iks_inj e2 e4]
        have e : x = y := by
          cases x <;> simp only [ikD, Option.some.injEq, reduceCtorEq] at e1 <;> subst e1 <;> cases y <;> simp only [ikD, Option.some.injEq, reduceCtorEq, Sum.inl.injEq, Sum.inr.injEq] at e3
          · rw [e3]
          · rename_i a b
            obtain ⟨⟨a⟩⟩ := a
            obtain ⟨⟨b⟩⟩ := b
            have e3 : b = a := e3
            subst e3; rfl
        rw [e]
      · cases h2
    · cases h1
theorem iksD_some {xs : List D} {b : List Bool} (h : (iksD xs).map (·.map isStr) = some b) : ∃ ks, iksD xs = some ks ∧ ks.map isStr = b := by
  cases q : iksD xs with
  | none => rw [q] at h; cases h
  | some k => rw [q] at h; exact ⟨k, rfl, Option.some.inj h⟩
/-- a tuple of numbers and texts, read as a key -/
theorem tup_items {F : Hp} {M : List (Addr × Addr)} {sh : Nat → Bool} : ∀ {vs : List V} {ds : List D} {us : List Value} {ks : List Ik} (i : Nat), RVs F M vs ds → Vals vs us → iksD ds = some ks → (∀ j, (hj : j < ks.length) → isStr ks[j] = sh (i + j)) →
    tupItems sh i us = some ks
  | _, _, _, _, _, .nil, .nil, h, _ => by cases h; rfl
  | _, _, _, _, i, .cons r rs, .cons q qs, h, hs => by
    unfold iksD at h
    split at h
    · rename_i k ks e1 e2
      cases h
      have h0 := hs 0 (by simp)
      have ht := tup_items (i + 1) rs qs e2 (fun j hj => by
        have := hs (j + 1) (by simpa using hj)
        simpa [Nat.add_assoc, Nat.add_comm 1 j] using this)
      cases r <;> simp only [ikD, reduceCtorEq, Option.some.injEq] at e1
      · subst e1
        obtain ⟨t, rfl⟩ := q
        unfold tupItems
        have h0 : false = sh i := by simpa [isStr] using h0
        rw [if_neg (by rw [← h0]; simp), ht]; rfl
      · subst e1
        obtain ⟨t, rfl⟩ := q
        unfold tupItems
        have h0 : true = sh i := by simpa [isStr] using h0
        rw [if_pos h0.symm, ht]; rfl
    · cases h
theorem shape_some {d : D} {b : List Bool} (h : D.shape d = some b) : ∃ xs ks, d = .tup xs ∧ iksD xs = some ks ∧ ks.map isStr = b := by
  cases d <;> simp only [D.shape, reduceCtorEq] at h
  obtain ⟨ks, h1, h2⟩ := iksD_some h
  exact ⟨_, ks, rfl, h1, h2⟩
theorem shape_at {ks : List Ik} {b : List Bool} (h : ks.map isStr = b) : ∀ j, (hj : j < ks.length) → isStr ks[j] = b.getD j false := fun j hj => by
  subst h
  simp [hj]
theorem key_tup {xs : List D} {ks : List Ik} (h : iksD xs = some ks) : D.key (.tup xs) = ks := by
  show (iksD xs).getD [] = ks
  rw [h]; rfl
/-- a value is a tuple on the heap with its key -/
theorem tup_key1 {G : Gh} {lk : Bool} {c : Cfg} {fr : Fr} {I : Is} {σ' σ : L2.St} {H : Hp} {pins : List (Addr × Obj)} {s : Shared} (J : L2.Inv X pins σ H s) (S : Sx c lk G fr I σ' H) {b0 : Bool} {b : List Bool} {v : V} {d : D} {u : Value} (r : RV G.F G.M v d) (q : RelV v u) (h : D.shape d = some (b0 :: b)) :
    PyProof.Rows.G.tupKeyC s.heap (fun j => (b0 :: b).getD j false) u = some d.key ∧ ∃ f, TupOf s.heap (fun j => (b0 :: b).getD j false) u f := by
  obtain ⟨xs, ks, rfl, hk, hb⟩ := shape_some h
  cases r with
  | tup e r =>
    rename_i ad ws
    cases q
    obtain ⟨_, its, rv, o, ho, hc, n, hd⟩ := J.hok _ _ (S.sub _ _ e).tup
    have ti : tupItems (fun j => (b0 :: b).getD j false) 0 its = some ks := tup_items 0 r rv hk (by simpa using shape_at hb)
    refine ⟨?_, ?_⟩
    · rw [key_tup hk]
      unfold PyProof.Rows.G.tupKeyC
      rw [if_pos (by simp [PyProof.Rows.G.isTupObj, ho, hc])]
      simp only [tupKey, ho, hd]
      exact ti
    · cases ks with
      | nil => cases hb
      | cons k ks =>
        injection hb with hb1 hb2
        cases its with
        | nil => exact absurd ti (by simp [tupItems])
        | cons f its =>
          refine ⟨f, ad, o, (f :: its).toArray, n, rfl, ho, hc, hd, by simp, fun z => ?_, fun z => ?_⟩
          · have z : b0 = false := z
            cases f <;> simp [tupItems, z] at ti
            exact ⟨_, _, rfl⟩
          · have z : b0 = true := z
            cases f <;> simp [tupItems, z] at ti
            exact ⟨_, _, rfl⟩
theorem tups_read {G : Gh} {lk : Bool} {c : Cfg} {fr : Fr} {I : Is} {σ' σ : L2.St} {H : Hp} {pins : List (Addr × Obj)} {s : Shared} (J : L2.Inv X pins σ H s) (S : Sx c lk G fr I σ' H) {b0 : Bool} {b : List Bool} : ∀ {vs : List V} {ds : List D} {us : List Value}, RVs G.F G.M vs ds → Vals vs us → (∀ d ∈ ds, D.shape d = some (b0 :: b)) →
    (∃ fs, TupsOf s.heap (fun j => (b0 :: b).getD j false) us fs) ∧ (∀ u ∈ us, ∃ l, PyProof.Rows.G.tupKeyC s.heap (fun j => (b0 :: b).getD j false) u = some l)
  | _, _, _, .nil, .nil, _ => ⟨⟨[], .nil⟩, fun u hu => by simp at hu⟩
  | v :: vs, d :: ds, u :: us, .cons r rs, .cons q qs, h => by
    obtain ⟨⟨fs, h1⟩, h2⟩ := tups_read J S rs qs fun d hd => h d (List.mem_cons_of_mem _ hd)
    obtain ⟨k1, f, k2⟩ := tup_key1 J S r q (h d List.mem_cons_self)
    exact ⟨⟨f :: fs, .cons k2 h1⟩, fun w hw => (List.mem_cons.mp hw).elim (fun z => z ▸ ⟨_, k1⟩) (h2 w)⟩
theorem strKs_map {ks : List Ky} : ∀ {zs : List Str}, strKs ks = some zs → ks = zs.map Sum.inr := by
  induction ks with
  | nil => intro zs h; cases h; rfl
  | cons k ks ih =>
    intro zs h
    cases k with
    | inl i => cases h
    | inr z =>
      obtain ⟨m, hm, rfl⟩ := Option.map_eq_some_iff.mp h
      rw [ih hm]; rfl
theorem strs_RVs {F : Hp} {M : List (Addr × Addr)} : ∀ {zs : List Str}, (∀ z ∈ zs, PyData.strOk z = true) → RVs F M (zs.map V.str) (zs.map D.str)
  | [], _ => .nil
  | z :: zs, h => .cons (.str z (h z List.mem_cons_self)) (strs_RVs fun w hw => h w (List.mem_cons_of_mem _ hw))
theorem sorted_run (hK : X.K = L.K) (hc : X.calm = true) : CallR X (.builtin "sorted") (Args L (biD .sorted)) := by
  intro pins s σ H2 xs us Q J r h
  obtain ⟨W, ro, G, H, σ', fr, ps, I2, G2, ex, S, hx, h⟩ := h
  by_cases hd : ∃ ks ds k, ps = [(.dK ks ds, k)]
  · obtain ⟨ks, ds, k, rfl⟩ := hd
    obtain ⟨v, rfl, hv⟩ := args1 hx rfl
    obtain ⟨a, vs, rfl, ha, hl, ra⟩ := hv.dK S
    have h : PR L W ro G H σ' fr (match strKs ks with | some zs => bif decide (zs.length < 64) then .ok (.lst (sortD (zs.map D.str)), .new) I2 else .bad | none => .bad) (RkR L H) Q := h
    cases q : strKs ks with
    | none => rw [q] at h; exact absurd h id
    | some zs =>
      rw [q] at h
      obtain ⟨h64, h⟩ := PR.cond (show PR L W ro G H σ' fr (bif decide (zs.length < 64) then .ok (.lst (sortD (zs.map D.str)), .new) I2 else .bad) (RkR L H) Q from h)
      have e := strKs_map q
      refine call_sortedD hc pins s σ H2 _ us Q J r ⟨a, _, zs, rfl, ha, ?_, of_decide_eq_true h64, fun ys p hp hs hn => ?_⟩
      · rw [List.map_fst_zip (by rw [hl.1]; exact Nat.le_refl _), e]
      · have ok : ∀ z ∈ ys, PyData.strOk z = true := fun z hz => by
          have hz := hp.mem_iff.mp hz
          have := List.all_eq_true.mp hl.2 (Sum.inr z) (by rw [e]; exact List.mem_map.mpr ⟨z, hz, rfl⟩)
          exact this
        have e2 : ys.map D.str = sortD (zs.map D.str) := by
          refine sortD_eq (hp.map _) (strs_pw _ hs) fun x hx y hy e => ?_
          obtain ⟨i, _, rfl⟩ := List.mem_map.mp hx
          obtain ⟨j, _, rfl⟩ := List.mem_map.mp hy
          rw [key_str e]
        rw [← e2] at h
        exact fin_lst h ex S hn (strs_RVs ok)
  obtain ⟨ds, k, rfl⟩ : ∃ ds k, ps = [(.lst ds, k)] := by
    rcases ps with _ | ⟨⟨d, k⟩, _ | ⟨q, r⟩⟩
    · exact absurd h id
    · cases d <;> first | exact absurd h id | exact ⟨_, _, rfl⟩ | exact absurd ⟨_, _, _, rfl⟩ hd
    · cases d <;> exact absurd h id
  obtain ⟨v, rfl, hv⟩ := args1 hx rfl
  obtain ⟨a, vs, rfl, ha, ra⟩ := hv.lst S
  obtain ⟨hs, h⟩ := PR.cond (show PR L W ro G H σ' fr (bif sortable ds then .ok (.lst (sortD ds), .new) I2 else .bad) (RkR L H) Q from h)
  cases q1 : intsD ds with
  | some ns =>
    have e := ra.intsD q1
    subst e
    refine cr_sortedI pins s σ H2 _ us Q J r ⟨a, ns, rfl, .of ha, fun ns' p hp hr hn => ?_⟩
    have e2 : ns'.map D.int = sortD ds := by
      rw [intsD_map q1]
      refine sortD_eq (hp.map _) (List.pairwise_map.mpr (hr.imp fun {a b} h => by rw [le_int]; exact decide_eq_true h)) fun x hx y hy e => ?_
      obtain ⟨i, _, rfl⟩ := List.mem_map.mp hx
      obtain ⟨j, _, rfl⟩ := List.mem_map.mp hy
      have e : [Sum.inl i] = ([Sum.inl j] : List Ik) := e
      simp at e
      rw [e]
    rw [← e2] at h
    exact fin_lst h ex S hn (.ints _)
  | none =>
    cases q2 : strsD ds with
    | some ss =>
      obtain ⟨its, rv, hl, hz⟩ := J.list (.of ha)
      rw [Vals.ref1 r]
      have e := ra.strsD q2
      have hS : StrsAre its ss := by
        rw [e] at rv
        clear ra e hz hl h hv hx q1 q2 hs r ha
        induction ss generalizing its with
        | nil => cases rv; exact .nil
        | cons x ss ih =>
          cases rv with
          | cons r1 r2 =>
            obtain ⟨t, rfl⟩ := r1
            exact .cons _ _ (ih _ r2)
      refine sorted_strsAny hl.isList hS (by rw [← rv.length]; exact hz) fun out ss' h1 h2 h3 => ?_
      obtain ⟨ep, he'⟩ := PyProof.Rows.sortedAll_at s.heap its out
      have hvo : Vals (ss'.map V.str) out.toList := by
        clear h2 h3
        generalize out.toList = ol at h1
        induction h1 with
        | nil => exact .nil
        | cons x t _ ih => exact .cons ⟨t, rfl⟩ ih
      have hn : H2 (s.heap.objs.size + 1) = none := J.hok.fresh (Nat.le_succ _)
      have e2 : ss'.map D.str = sortD ds := by
        rw [strsD_map q2]
        refine sortD_eq (h2.map _) (strs_pw _ h3) fun x hx y hy e => ?_
        obtain ⟨i, _, rfl⟩ := List.mem_map.mp hx
        obtain ⟨j, _, rfl⟩ := List.mem_map.mp hy
        rw [key_str e]
      have hrv : RVs G2.F G2.M (ss'.map V.str) (sortD ds) := by
        rw [← e2]
        have ok : ∀ z ∈ ss', PyData.strOk z = true := fun z hz => by
          have hm : z ∈ ss := h2.mem_iff.mp hz
          clear h1 h2 h3 hvo e2 hS
          rw [e] at ra
          rw [strsD_map q2] at ra
          clear e q2 h hv hx hs q1 rv ha hl
          clear hz
          induction ss with
          | nil => simp at hm
          | cons x ss ih =>
            cases ra with
            | cons r1 r2 =>
              rcases List.mem_cons.mp hm with e | e
              · subst e; cases r1; assumption
              · exact ih r2 e
        clear e2 h1 h2 h3 hvo
        induction ss' with
        | nil => exact .nil
        | cons z ss' ih => exact .cons (.str z (ok z List.mem_cons_self)) (ih fun w hw => ok w (List.mem_cons_of_mem _ hw))
      refine ⟨.ref _, upd H2 (s.heap.objs.size + 1) (.lst (ss'.map V.str)), J.laid (t' := s.toks) (fun _ _ => PyProof.Rows.sortedAll_old) (Nat.le_succ _) ⟨?_, out.toList, ep, hvo, by simpa using he'⟩, rfl, fin_lst h ex S hn hrv⟩
      rw [List.length_map, h2.length_eq, ← List.length_map (f := V.str), ← e]; exact hz
    | none =>
      have hs : sortT ds = true := by
        unfold sortable at hs
        rw [q1, q2] at hs
        exact hs
      have hsh : ∃ b0 b, ∀ d ∈ ds, D.shape d = some (b0 :: b) := by
        cases ds with
        | nil => cases hs
        | cons d ds' =>
          have hs : ((match D.shape d with | some (_ :: _) => true | _ => false) && ds'.all fun e => decide (D.shape e = D.shape d)) = true := hs
          rw [Bool.and_eq_true] at hs
          obtain ⟨s1, s2⟩ := hs
          split at s1
          · rename_i b0 b e1
            refine ⟨b0, b, fun d hd => ?_⟩
            rcases List.mem_cons.mp hd with e | e
            · rw [e, e1]
            · rw [of_decide_eq_true (List.all_eq_true.mp s2 d e), e1]
          · cases s1
      obtain ⟨b0, b, hsh⟩ := hsh
      obtain ⟨its, rv, hl, hz⟩ := J.list (.of ha)
      rw [Vals.ref1 r]
      obtain ⟨⟨fs, t1⟩, t2⟩ := tups_read J S ra rv hsh
      refine PyProof.Rows.G.sorted_tups hl.isList t1 t2 (by rw [← rv.length]; exact hz) fun st' hp hso _ => ?_
      obtain ⟨ep, he'⟩ := PyProof.Rows.sortedAll_at s.heap its ((arrOf st').map (·.2))
      have hpv : (((arrOf st').map (·.2)).toList).Perm its := by
        have q := (Array.perm_iff_toList_perm.mp hp).map (fun p : Keyed => p.2)
        rw [pairsOf_toList, List.map_snd_zip (Nat.le_refl _)] at q
        rw [Array.toList_map]
        exact q
      obtain ⟨vs', ds', w1, w2, w3⟩ := vals_perm hpv rv ra
      have hn : H2 (s.heap.objs.size + 1) = none := J.hok.fresh (Nat.le_succ _)
      have e2 : ds' = sortD ds := by
        refine sortD_eq w3 ?_ fun x hx y hy e => ?_
        · rw [List.pairwise_iff_getElem]
          intro i j hi hj hij
          have len : ds'.length = (arrOf st').size := by rw [← w2.length, w1.length, Array.length_toList, Array.size_map]
          have at_ : ∀ i, (hi : i < ds'.length) → KK (PyProof.Rows.G.tupKindC s.heap (fun j => (b0 :: b).getD j false)) (arrOf st') i = ds'[i].key := fun i hi => by
            have hi2 : i < (arrOf st').size := len ▸ hi
            obtain ⟨v, hv1, hv2⟩ := w2.get (i := i) (d := ds'[i]) (by simp [hi])
            obtain ⟨u, hu1, hu2⟩ := w1.get hv1
            have hu1 : u = (arrOf st')[i].2 := by
              rw [Array.getElem?_toList] at hu1
              simpa [hi2] using hu1.symm
            have hm : (arrOf st')[i] ∈ (pairsOf its).toList := (Array.perm_iff_toList_perm.mp hp).mem_iff.mp (by simp)
            rw [pairsOf_toList] at hm
            obtain ⟨e, _⟩ := mem_zip_self hm
            unfold KK
            rw [Array.getElem?_eq_getElem hi2]
            have hk := (tup_key1 J S hv2 hu2 (hsh _ (w3.mem_iff.mp (List.getElem_mem hi)))).1
            show ((PyProof.Rows.G.tupKeyC s.heap _ (arrOf st')[i].1).getD _) = _
            rw [e, ← hu1, hk]; rfl
          have sz : (pairsOf its).size = (arrOf st').size := ((Array.perm_iff_toList_perm.mp hp).length_eq).symm
          have q := hso i j (by omega) (by rw [sz, ← len]; exact hj)
          rw [at_ i hi, at_ j hj] at q
          have q : ltK ds'[j].key ds'[i].key = false := q
          unfold D.le
          rw [q]; rfl
        · obtain ⟨xs1, k1, rfl, h1, _⟩ := shape_some (hsh x hx)
          obtain ⟨xs2, k2, rfl, h2, _⟩ := shape_some (hsh y hy)
          rw [key_tup h1, key_tup h2] at e
          subst e
          rw [iks_inj h1 h2]
      rw [← e2] at h
      refine ⟨.ref _, upd H2 (s.heap.objs.size + 1) (.lst vs'), J.laid (t' := s.toks) (fun _ _ => PyProof.Rows.sortedAll_old) (Nat.le_succ _) ⟨?_, _, ep, w1, by rw [Array.toArray_toList]; exact he'⟩, rfl, fin_lst h ex S hn w2⟩
      rw [w1.length, hpv.length_eq, ← rv.length]; exact hz
/-! ### dict(d), a copy -/
theorem call_dictH {K : Type} [DecidableEq K] {prog : Program} {w : World} {knd : HeapKind prog w K} {A : Around} {E : Value → Shared → Prop} {s : Shared} {o : Addr} {more : List (K × Addr × Value)} {Q : Value → Shared → Prop} (hu : knd.room A.in1.in1) (hoS : (o == sysModules) = false) (ho : s.heap.DictOfH knd o more) (hap : (∀ x ∈ more, s.TypeIs (.ref x.2.1) "tuple") ∧ (more.map fun x => knd.hash x.1).Nodup) (hsz : more.length ≤ sizeLine) (hst : ∀ x ∈ more, knd.is (s.heap.push { cls := .type "dict", data := .dict #[] }) x.1 x.2.1)
    (h : ∀ h', h'.DictOfH knd s.heap.objs.size more → Heap.SameBut s.heap.objs.size (s.heap.push { cls := .type "dict", data := .dict #[] }) h' → Q (.ref s.heap.objs.size) { s with heap := h' }) :
    wpAny (model prog w) A (call (.type "dict") [.ref o]) Q E s := by
  refine callType_codes (Q₁ := fun obj s₁ => obj = .ref s.heap.objs.size ∧ s₁ = { s with heap := s.heap.push { cls := .type "dict", data := .dict #[] } }) PySem.F.kt_called_dict (PySem.F.kt_typeCall_dict_1 _) PySem.F.entry_dict_init (kt_code_dict_new _ ⟨rfl, rfl⟩) ?_
  rintro obj s₁ ⟨rfl, rfl⟩
  have hnew : (s.heap.push { cls := .type "dict", data := .dict #[] }).DictOfH knd s.heap.objs.size [] := Heap.DictOfH.new s.heap
  have hdo : s.heap.objs.size ≠ o := by
    obtain ⟨_, _, _, hg, _⟩ := ho
    exact fun e => absurd (Heap.lt_size hg) (by rw [e]; exact Nat.lt_irrefl _)
  have ho' : (s.heap.push { cls := .type "dict", data := .dict #[] }).DictOfH knd o more := by
    obtain ⟨oo, es, ep, h1, h2, h3, h4, h5, h6⟩ := ho
    exact ⟨oo, es, ep, Heap.get?_push_of_some _ h1, h2, h3, h4, hst, h6⟩
  have hn := ho.nodup
  refine ⟨hnew.typeIs, PySem.F.args_dict_init_2 _ _, ?_⟩
  unfold Builtin.«dict.__init__»
  refine wpAny_bind ?_
  unfold Builtin.Dict.selfAndRest
  refine wpAny_bind (wpAny_notOrdered_dict hnew.typeIs ?_)
  show wpAny _ _ (pure (s.heap.objs.size, [Value.ref o])) _ _ _
  refine wpAny_pure ?_
  show wpAny _ _ (Builtin.Dict.updateFrom "dict.__init__" s.heap.objs.size (.ref o) [] .none) _ _ _
  unfold Builtin.Dict.updateFrom
  refine wpAny_bind (wpAny_typeOf ho'.typeIs ?_)
  rw [if_neg (by decide)]
  refine wpAny_bind ?_
  unfold Builtin.Dict.merge
  refine wpAny_bind ?_
  unfold Builtin.Dict.readDirectly
  refine wpAny_bind (wpAny_isInstance ho'.typeIs isSubtype_dict_dict ?_)
  simp only [Bool.not_true, Bool.false_eq_true, if_false]
  refine wpAny_bind (wpAny_specialOf ho'.typeIs PySem.F.slot_dict_iter.lookup (wpAny_pure ?_))
  simp only [beq_self_eq_true, if_true]
  refine wpAny_bind (wpAny_pure ?_)
  refine wpAny_mergeDict_heap (hsz := by simpa using hsz) hu hdo hoS hnew ho' (.inr ⟨fun x hx => ?_, hap.2⟩) fun h' hd' _ hs' => ?_
  · obtain ⟨oo, h1, h2⟩ := hap.1 x hx
    exact ⟨oo, Heap.get?_push_of_some _ h1, h2⟩
  show wpAny _ _ (Builtin.Dict.addKeywords s.heap.objs.size [] >>= _) _ _ _
  rw [storedAllH_nil_of_nodup more hn] at hd'
  exact wpAny_bind (wpAny_pure (wpAny_pure ⟨rfl, h h' hd' hs'⟩))
theorem call_dictT (hu : X.A.units + 64 < cLine) : CallR X (.type "dict") (fun xs H Q => ∃ (a : Addr) (kvs : List (List Ky × V)), xs = [.ref a] ∧ Rd H a (.dT kvs) ∧ kvs.length ≤ 1 ∧ ∀ p, H p = none → Q (.ref p) (upd H p (.dT kvs))) := by
  intro pins s σ H xs us Q I r q
  obtain ⟨a, kvs, ex, hd, h1, q⟩ := q
  subst ex
  obtain ⟨u, eu, rx⟩ := vals1 r
  subst eu
  cases rx
  obtain ⟨z, lo, vs, rel, dd⟩ := dt_rd I.hok hd
  have hl : vs.length = kvs.length := (Paired.length rel).symm
  refine call_dictH (knd := tupleKind (mixKind X.prog X.w)) (tupleKind_room_in1 (A := X.A.in1) (by show X.A.units + 1 + 1 < cLine; omega)) lo dd ⟨fun x hx => ?_, ?_⟩ (by rw [hl]; exact z) (fun x hx => ?_) fun h' d' hs => ?_
  · obtain ⟨_, _, _, _, _, _, _, h5, _⟩ := dd
    obtain ⟨oo, its, n, e1, e2, _⟩ := h5 x hx
    exact ⟨oo, e1, e2⟩
  · rcases vs with _ | ⟨v, _ | ⟨v2, vs⟩⟩
    · simp
    · simp
    · simp only [List.length_cons] at hl; omega
  · obtain ⟨_, _, _, _, _, _, _, h5, _⟩ := dd
    obtain ⟨oo, its, n, e1, e2⟩ := h5 x hx
    exact ⟨oo, its, n, Heap.get?_push_of_some _ e1, e2⟩
  · have hm : (s.heap.objs.size == sysModules) = false := beq_eq_false_iff_ne.mpr (Nat.ne_of_gt I.big)
    have nw : H s.heap.objs.size = none := I.hok.fresh (Nat.le_refl _)
    obtain ⟨qo, es, ep, hq, k2, k3, k4, _, k5⟩ := d'
    exact ⟨.ref s.heap.objs.size, upd H s.heap.objs.size (.dT kvs), I.laid (t' := s.toks) (fun b u e => (hs.2 b (Nat.ne_of_lt (Heap.lt_size e))).trans (Heap.get?_push_of_some _ e)) (Nat.le_refl _)
      ⟨z, hm, vs, rel.keeps fun b ys e => by rw [upd_ne (ne_of_none e nw)]; exact e, qo, es, ep, hq, k2, k3, k4, k5⟩, rfl, q _ nw⟩
theorem fin_dK {ks : List Ky} {ds : List D} {vs : List V} {p : Addr} {W : WX} {ro : Bool} {G G2 : Gh} {H H2 : Hp} {σ : L2.St} {fr : Fr} {I2 : Is} {Q : VK} (h : PR L W ro G H σ fr (.ok (.dK ks ds, .new) I2) (RkR L H) Q) (x : Ext ro G H G2 H2) (S : Sx L.c ro G2 fr I2 σ H2) (hp : H2 p = none) (hl : KL kyOk ks vs) (r : RVs G2.F G2.M vs ds) : Q (.ref p) (upd H2 p (.dK (ks.zip vs))) :=
  h _ G2 _ (x.trans (Ext.new hp)) (S.new hp) (.new (s := .dK ks ds) rfl ⟨vs, .inl upd_same, hl, r⟩ (x.dom _ hp) (S.notF hp) (S.notFr hp) (S.notIs hp))
theorem fin_dT {ks : List (List Ky)} {ds : List D} {vs : List V} {p : Addr} {W : WX} {ro : Bool} {G G2 : Gh} {H H2 : Hp} {σ : L2.St} {fr : Fr} {I2 : Is} {Q : VK} (h : PR L W ro G H σ fr (.ok (.dT ks ds, .new) I2) (RkR L H) Q) (x : Ext ro G H G2 H2) (S : Sx L.c ro G2 fr I2 σ H2) (hp : H2 p = none) (hl : KL kysOk ks vs) (r : RVs G2.F G2.M vs ds) : Q (.ref p) (upd H2 p (.dT (ks.zip vs))) :=
  h _ G2 _ (x.trans (Ext.new hp)) (S.new hp) (.new (s := .dT ks ds) rfl ⟨vs, .inl upd_same, hl, r⟩ (x.dom _ hp) (S.notF hp) (S.notFr hp) (S.notIs hp))
theorem dict_run (hu : X.A.units + 64 < cLine) : CallR X (.type "dict") (Args L (biD .dict)) := by
  intro pins s σ H2 xs us Q J r h
  obtain ⟨W, ro, G, H, σ', fr, ps, I2, G2, ex, S, hx, h⟩ := h
  obtain ⟨⟨d, k⟩, rfl⟩ := bi1 (fun ps I hp => by
    rcases ps with _ | ⟨p, _ | ⟨q, r⟩⟩
    · rfl
    · exact absurd rfl (hp p)
    · obtain ⟨d, k⟩ := p; cases d <;> rfl) h
  obtain ⟨v, rfl, hv⟩ := args1 hx rfl
  cases d with
  | dK ks ds =>
    obtain ⟨a, vs, rfl, ha, hl, ra⟩ := hv.dK S
    have h : PR L W ro G H σ' fr (.ok (.dK ks ds, .new) I2) (RkR L H) Q := h
    exact call_dictD pins s σ H2 _ us Q J r ⟨a, _, rfl, ha, fun p hp => fin_dK h ex S hp hl ra⟩
  | dT ks ds =>
    obtain ⟨a, vs, rfl, ha, hl, ra⟩ := hv.dT S
    obtain ⟨h1, h⟩ := PR.cond (show PR L W ro G H σ' fr (bif decide (ks.length ≤ 1) then .ok (.dT ks ds, .new) I2 else .bad) (RkR L H) Q from h)
    have h1 := of_decide_eq_true h1
    exact call_dictT hu pins s σ H2 _ us Q J r ⟨a, _, rfl, ha, by rw [List.length_zip]; omega, fun p hp => fin_dT h ex S hp hl ra⟩
  | _ => exact absurd h id
end
end Air
/-! Air: a term is what a written expression says. -/
namespace Air
open PySem PySem.Spec PyProof.Rows L2
def visB (sc : Scope) (x : Str) : Bool := match sc.names.lookup x with
  | some .local => true
  | some .cell => true
  | some .free => true
  | _ => false
def locB (sc : Scope) (x : Str) : Bool := match sc.names.lookup x with
  | some .local => true
  | some .cell => true
  | _ => false
def glB (sc : Scope) (x : Str) : Bool := match sc.names.lookup x with
  | some .globalImplicit => !(x == ("__debug__" : Str))
  | _ => false
def cstB : Cs → PySem.Const → Bool
  | .non, .none => true
  | .bl b, .bool c => b == c
  | .int i, .int j => decide (i = j)
  | .str z, .str y => decide (z = y) && PyData.strOk z
  | _, _ => false
def notStar : Expr → Bool
  | .Starred _ _ => false
  | _ => true
def notSlc : Expr → Bool
  | .Slice _ _ _ _ => false
  | _ => true
def notSet : Expr → Bool
  | .Set _ _ _ => false
  | _ => true
def Bi.nm : Bi → Str
  | .len => "len" | .all => "all" | .any => "any" | .sorted => "sorted" | .list => "list" | .tuple => "tuple" | .min1 => "min" | .max1 => "max" | .min2 => "min" | .max2 => "max" | .minD => "min" | .int => "int" | .str => "str" | .divmod => "divmod" | .dict => "dict" | .sum => "sum" | .sset => "sorted"
/-- a name may be stored -/
def stoB (fb : Str → Bool) (sc : Scope) (x : Str) : Bool := match sc.names.lookup x with
  | some .local => true
  | some .cell => fb x
  | _ => false
def tgB (fb : Str → Bool) (sc : Scope) (N : List Str) : Tg → Expr → Bool
  | .nm i, .Name x _ => decide (N[i]? = some x) && stoB fb sc x
  | .tp is, .Tuple es _ _ => decide (is.length = es.length) && (is.zip es).all fun p => match p.2 with
    | .Name x _ => decide (N[p.1]? = some x) && stoB fb sc x
    | _ => false
  | _, _ => false
def Tg.ix : Tg → List Nat
  | .nm i => [i]
  | .tp is => is
def celB (sc : Scope) (x : Str) : Bool := sc.names.lookup x == some .cell
def isB (sc : Scope) : List Str → Expr → Bool
  | [k], .Name x _ => decide (x = k) && glB sc x && (decide (k = "int") || decide (k = "bool") || decide (k = "str") || decide (k = "tuple") || decide (k = "list"))
  | _, _ => false
/-- no lambda within -/
def knO (kn : Str → Option (Nat × Nat)) : Str → Option (Nat × Nat) := fun x => if x = "<lambda>" ∨ x = "House" then none else kn x
/-- a receiver -/
def rcvB : Expr → Bool
  | .Name _ _ => true
  | .Call (.Name _ _) (_ :: _) [] _ => true
  | _ => false
def kwB : List Str → List Keyword → List Expr → Bool
  | [], [], _ => true
  | k :: ks, ⟨some x, v, _⟩ :: kws, _ => decide (x = k) && notStar v && kwB ks kws []
  | _, _, _ => false
def pmOk (pm : List (Sum Nat Cs)) : Bool := pm.all fun p => match p with
  | .inr (.str z) => PyData.strOk z
  | _ => true
def keyB : List Str → List (Option Expr) → Bool
  | [], [] => true
  | k :: ks, some (.Constant (.str z) _ _) :: r => decide (z = k) && PyData.strOk z && keyB ks r
  | _, _ => false
/-- a dict that can be named ahead -/
def dpB : Expr → Bool
  | .Name _ _ => true
  | .Attribute (.Name _ _) _ _ => true
  | .Subscript (.Name _ _) (.Constant _ _ _) _ => true
  | _ => false
def dtB : Tm → Bool
  | .loc _ => true
  | .fld (.loc _) _ => true
  | .sub (.loc _) (.cns (.str _)) => true
  | _ => false
def argsB (a : Arguments) : Bool := match a with
  | ⟨[], [], none, [], [], none, []⟩ => true
  | _ => false
/-- set(e2), alone -/
def ssB (e : Expr) (xs : List Expr) (k : Str → Expr → Bool) : Bool := match e, xs with
  | .Call (.Name y _) [e2] [] _, [] => k y e2
  | _, _ => false
mutual
def chk (kn : Str → Option (Nat × Nat)) (kw : Kwt) : Tm → Scope → List Str → Expr → Bool
  | .cns c, _, _, .Constant k _ _ => cstB c k
  | .loc i, sc, N, .Name x _ => decide (N[i]? = some x) && visB sc x && !(x == ("__debug__" : Str)) && !(x == ("__classdict__" : Str))
  | .gk y, sc, _, .Name x _ => decide (x = y) && glB sc x && decide (kn y = some (0, 1))
  | .bin o a b, sc, N, .BinOp x p y _ => decide (p = o.op) && chk kn kw a sc N x && chk kn kw b sc N y
  | .neg a, sc, N, .UnaryOp .USub x _ => chk kn kw a sc N x
  | .cmp o a b, sc, N, .Compare x [p] [y] _ => decide (p = o.op) && chk kn kw a sc N x && chk kn kw b sc N y && notSet y
  | .isn ng a, sc, N, .Compare x [p] [.Constant .none _ _] _ => decide (p = if ng then .IsNot else .Is) && chk kn kw a sc N x
  | .isb ng k a, sc, N, .Compare x [p] [.Constant (.bool c) _ _] _ => decide (p = if ng then .IsNot else .Is) && decide (c = k) && chk kn kw a sc N x
  | .ch2 o1 o2 a b c, sc, N, .Compare x [p, q] [y, z] _ => decide (p = o1.op) && decide (q = o2.op) && chk kn kw a sc N x && chk kn kw b sc N y && chk kn kw c sc N z && notSet z
  | .ch3 o1 o2 o3 a b c d, sc, N, .Compare x [p, q, r] [y, z, u] _ => decide (p = o1.op) && decide (q = o2.op) && decide (r = o3.op) && chk kn kw a sc N x && chk kn kw b sc N y && chk kn kw c sc N z && chk kn kw d sc N u && notSet u
  | .and a b, sc, N, .BoolOp .And (x :: y :: r) pos => chk kn kw a sc N x && (match r with
    | [] => chk kn kw b sc N y
    | _ :: _ => chk kn kw b sc N (.BoolOp .And (y :: r) pos))
  | .or a b, sc, N, .BoolOp .Or (x :: y :: r) pos => chk kn kw a sc N x && (match r with
    | [] => chk kn kw b sc N y
    | _ :: _ => chk kn kw b sc N (.BoolOp .Or (y :: r) pos))
  | .not a, sc, N, .UnaryOp .Not x _ => chk kn kw a sc N x
  | .ite c a b, sc, N, .IfExp x y z _ => chk kn kw c sc N x && chk kn kw a sc N y && chk kn kw b sc N z
  | .tup es, sc, N, .Tuple xs _ _ => chkK kn kw es sc N xs
  | .lst es, sc, N, .List xs _ => chkK kn kw es sc N xs
  | .sub a i, sc, N, .Subscript x y _ => chk kn kw a sc N x && chk kn kw i sc N y && notSlc y
  | .slc a lo hi, sc, N, .Subscript x (.Slice l h none _) _ => chk kn kw a sc N x && chkP kn kw lo sc N l && chkP kn kw hi sc N h
  | .rev a, sc, N, .Subscript x (.Slice none none (some (.UnaryOp .USub (.Constant (.int 1) _ _) _)) _) _ => chk kn kw a sc N x
  | .call f .nil, sc, N, .Call (.Name x _) [] [] _ => decide (x = f) && glB sc x && decide (kn f = some (0, 0)) && !mkB f
  | .call f es, sc, N, .Call (.Name x _) (e :: xs) [] _ => decide (x = f) && glB sc x && !mkB f && chkK kn kw es sc N (e :: xs) && (match kn f with
    | some (np, nd) => decide (xs.length + 1 ≤ np) && decide (np ≤ xs.length + 1 + nd) && decide (nd ≤ np)
    | none => false)
  | .blt f es, sc, N, .Call (.Name x _) (e :: xs) [] _ => (decide (x = f.nm) && glB sc x && chkK kn kw es sc N (e :: xs) && !(decide (f = .minD) || decide (f = .sset) || decide (f = .str))) || (decide (f = .sset) && decide (x = "sorted") && glB sc x && ssB e xs (fun y e2 => decide (y = "set") && glB sc y && chkK kn kw es sc N [e2]))
  | .blt .minD es, sc, N, .Call (.Name x _) [e] [⟨some k, v, _⟩] _ => decide (x = "min") && glB sc x && decide (k = "default") && chkK kn kw es sc N [e, v]
  | .isi a ks, sc, N, .Call (.Name x _) [e, t] [] _ => decide (x = "isinstance") && glB sc x && chk kn kw a sc N e && isB sc ks t && notStar e
  | .lc own elt tg it cond, sc, N, .ListComp e [⟨t, i, ifs, 0⟩] scope _ => blkC N sc scope own && chkI kn kw it sc N t i && tgB (celB scope) (relS scope sc) N tg t && tg.ix.all (fun i => decide (i ∈ own.map (·.2))) && chkC (knO kn) kw cond (relS scope sc) N ifs && chk (knO kn) kw elt (relS scope sc) N e && notSet i
  | .told t, sc, N, .Call (.Name x _) [.Lambda ar body scope _] [] _ => decide (x = "_law_told") && glB sc x && decide (kn "<lambda>" = some (0, 2)) && decide (kn "_law_told" = some (0, 2)) && argsB ar && LamX.lamSB sc scope && chk (knO kn) kw t scope N body
  | .fld a x, sc, N, .Attribute e f _ => decide (f = x) && chk kn kw a sc N e && rcvB e && decide (kn (fkey x) = some (0, 5))
  | .meth a m x es, sc, N, .Call (.Attribute e f apos) as [] cpos => decide (f = m) && decide (x = mkey m) && chk kn kw a sc N e && rcvB e && chkK kn kw es sc N as && (apos.endLine == cpos.line) && decide (as.length < 20) && (match kn x with
    | some (np, nd) => decide (as.length + 1 ≤ np) && decide (np ≤ as.length + 1 + nd) && decide (nd ≤ np)
    | none => false)
  | .callK f n ks pm es, sc, N, .Call (.Name x _) as (kw1 :: kws) _ => decide (x = f) && glB sc x && !mkB f && chkK kn kw es sc N (as ++ (kw1 :: kws).map (·.value)) && decide (as.length = n) && kwB ks (kw1 :: kws) [] && decide (kw f n ks = some pm) && pmOk pm && (match kn f with
    | some (np, nd) => decide (nd ≤ np) && decide (pm.length = np)
    | none => false)
  | .methK a m f n ks pm es, sc, N, .Call (.Attribute e g apos) as (kw1 :: kws) cpos => decide (g = m) && decide (f = mkey m) && chk kn kw a sc N e && rcvB e && chkK kn kw es sc N (as ++ (kw1 :: kws).map (·.value)) && decide (as.length + 1 = n) && kwB ks (kw1 :: kws) [] && (apos.endLine == cpos.line) && decide (as.length + kws.length < 20) && decide (kw f n ks = some pm) && pmOk pm && (match kn f with
    | some (np, nd) => decide (nd ≤ np) && decide (pm.length = np)
    | none => false)
  | .new, sc, _, .Call (.Name x _) [] [] _ => decide (x = "House") && glB sc x && decide (kn "House" = some (0, 4)) && decide (kn "House.__init__" = some (1, 0))
  | .dnew _, _, _, .Dict [] [] _ => true
  | .disp ks vs, sc, N, .Dict (k :: r) es _ => keyB ks (k :: r) && chkK kn kw vs sc N es && decide ((k :: r).length = es.length) && decide ((k :: r).length ≤ 15) && decide ks.Nodup
  | .get2 a k d, sc, N, .Call (.Attribute e f apos) [x, y] [] cpos => decide (f = "get") && chk kn kw a sc N e && (rcvB e || dpB e) && chk kn kw k sc N x && chk kn kw d sc N y && notStar x && notStar y && (apos.endLine == cpos.line)
  | .lcD own elt tg a cond, sc, N, .ListComp e [⟨t, i, ifs, 0⟩] scope _ => blkC N sc scope own && chk kn kw a sc N i && dpB i && dtB a && tgB (celB scope) (relS scope sc) N tg t && tg.ix.all (fun i => decide (i ∈ own.map (·.2))) && chkC (knO kn) kw cond (relS scope sc) N ifs && chk (knO kn) kw elt (relS scope sc) N e && notSet i
  | .vals a, sc, N, .Call (.Name x _) [.Call (.Attribute e f apos) [] [] cpos] [] _ => decide (x = "list") && glB sc x && decide (f = "values") && chk kn kw a sc N e && rcvB e && (apos.endLine == cpos.line)
  | _, _, _, _ => false
def chkK (kn : Str → Option (Nat × Nat)) (kw : Kwt) : Tm → Scope → List Str → List Expr → Bool
  | .nil, _, _, [] => true
  | .cons a b, sc, N, x :: xs => chk kn kw a sc N x && notStar x && chkK kn kw b sc N xs
  | _, _, _, _ => false
def chkP (kn : Str → Option (Nat × Nat)) (kw : Kwt) : Tm → Scope → List Str → Option Expr → Bool
  | .nil, _, _, none => true
  | .cons a .nil, sc, N, some x => chk kn kw a sc N x
  | _, _, _, _ => false
def chkC (kn : Str → Option (Nat × Nat)) (kw : Kwt) : Tm → Scope → List Str → List Expr → Bool
  | .nil, _, _, [] => true
  | .cons a .nil, sc, N, [x] => chk kn kw a sc N x
  | _, _, _, _ => false
def chkI (kn : Str → Option (Nat × Nat)) (kw : Kwt) : Tm → Scope → List Str → Expr → Expr → Bool
  | .rng1 a, sc, N, _, .Call (.Name x _) [e] [] _ => decide (x = "range") && glB sc x && chk kn kw a sc N e && notStar e
  | .rng2 a b, sc, N, _, .Call (.Name x _) [e, f] [] _ => decide (x = "range") && glB sc x && chk kn kw a sc N e && notStar e && chk kn kw b sc N f && notStar f
  | .enm a, sc, N, .Tuple _ _ _, .Call (.Name x _) [e] [] _ => decide (x = "enumerate") && glB sc x && chk kn kw a sc N e && notStar e
  | .zp a b, sc, N, .Tuple _ _ _, .Call (.Name x _) [e, f] [] _ => decide (x = "zip") && glB sc x && chk kn kw a sc N e && notStar e && chk kn kw b sc N f && notStar f
  | .cons a .nil, sc, N, _, i => chk kn kw a sc N i
  | _, _, _, _, _ => false
end
end Air
/-! Air: a term's run (1): what the parts say. -/
namespace Air
open PySem PySem.Spec PyProof.Rows L2
/-! ### in ro mode the table stays -/
section
variable {cn : Str → Option D} {cf : Str → Bool → List D → Is → R Sl}
theorem keeps_bind {α β : Type} {r : R α} {f : α → Is → R β} {I : Is} (h : r.keeps I) (hf : ∀ a, (f a I).keeps I) : (r.bind f).keeps I := by
  cases r with
  | ok a I' => obtain rfl : I' = I := h; exact hf a
  | exc x I' => exact h
  | bad => trivial
theorem keeps_cond {α : Type} {b : Bool} {x y : R α} {I : Is} (hx : x.keeps I) (hy : y.keeps I) : (bif b then x else y).keeps I := by cases b <;> assumption
theorem keeps_binD (o : Bo) (a b : D) (I : Is) : (binD o a b I).keeps I := by
  cases o <;> cases a <;> cases b <;> first | trivial | rfl | exact keeps_cond rfl trivial
theorem keeps_b2 (b : Bool) (I : Is) : (b2 b I).keeps I := rfl
theorem keeps_cmpD (o : Co) (a b : D) (I : Is) : (cmpD o a b I).keeps I := by
  cases o
  case eq => exact keeps_cond rfl trivial
  case ne => exact keeps_cond rfl trivial
  case inn => show R.keeps (match inDD a b with | some k => b2 k I | none => .bad) I; split <;> first | trivial | rfl
  case nin => show R.keeps (match inDD a b with | some k => b2 (!k) I | none => .bad) I; split <;> first | trivial | rfl
  all_goals cases a <;> cases b <;> first | trivial | rfl
theorem keeps_subD (a i : D) (k : Kd) (I : Is) : (subD a i k I).keeps I := by
  cases a <;> cases i <;> first | trivial | skip
  · exact keeps_cond (by split <;> first | trivial | rfl) trivial
  · show R.keeps (match L2.atI _ _ with | some d => bif decide (k = .cst) then .bad else .ok ((d : D), Kd.fro) I | none => .bad) I
    split
    · exact keeps_cond trivial rfl
    · trivial
  · show R.keeps (match L2.atI _ _ with | some d => .ok ((d : D), Kd.fro) I | none => .bad) I
    split <;> first | trivial | rfl
  all_goals first
    | (show R.keeps (match L2.atI _ _ with | some d => .ok (D.int d, Kd.fro) I | none => .bad) I; split <;> first | trivial | rfl)
    | (show R.keeps (match lookD _ _ with | some (some d) => .ok ((d : D), Kd.fro) I | _ => .bad) I; split <;> first | trivial | rfl)
theorem keeps_slcD (a : D) (k : Kd) (lo hi : Option Int) (I : Is) : (slcD a k lo hi I).keeps I := by
  cases a <;> first | trivial | rfl | exact keeps_cond rfl trivial | exact keeps_cond trivial rfl
theorem keeps_fld {I : Is} (p : D × Kd) (x : Str) : R.keeps (match p.1 with | .ins k => (match fldD I k x with | some s => (match s.rd with | some q => .ok q I | none => .bad) | none => .bad) | _ => (.bad : R (D × Kd))) I := by
  split
  · split
    · split <;> first | trivial | rfl
    · trivial
  · trivial
theorem keeps_biD (f : Bi) (as : List (D × Kd)) (I : Is) : (biD f as I).keeps I := by
  unfold biD
  split <;> first | trivial | rfl | exact keeps_cond rfl trivial | exact keeps_cond trivial rfl | (split <;> first | trivial | rfl | exact keeps_cond rfl trivial)
theorem keeps_reset {α : Type} (r : R α) (I : Is) : (r.reset I).keeps I := by cases r <;> first | trivial | rfl
theorem keeps_quiet {α : Type} {r : R α} {I : Is} (h : r.keeps I) : r.quiet.keeps I := by cases r <;> first | trivial | exact h
theorem keeps_callD (x : Str) (as : List (D × Kd)) (I : Is) : (callD cf x true as I).keeps I := by
  unfold callD
  split
  · exact keeps_bind (keeps_reset _ _) fun a => by split <;> first | trivial | rfl
  · refine keeps_cond trivial (keeps_bind (keeps_quiet (keeps_reset _ _)) fun a => ?_)
    split
    · exact keeps_cond rfl trivial
    · trivial
theorem keeps_lcL {step : Fr → Is → R (Option D)} {tg : Tg} {fr : Fr} {I : Is} (h : ∀ fr, (step fr I).keeps I) : ∀ xs, (lcL step tg fr xs I).keeps I
  | [] => rfl
  | x :: xs => by
    unfold lcL
    split
    · trivial
    · exact keeps_bind (h _) fun o => keeps_bind (keeps_lcL h xs) fun ys => rfl
theorem keeps_ok {α : Type} (a : α) (I : Is) : (R.ok a I).keeps I := rfl
theorem keeps_tell {r : R (D × Kd)} {I : Is} (h : r.keeps I) : (tellR r).keeps I := by
  cases r with
  | ok p I' => exact h
  | exc x I' =>
    obtain rfl : I' = I := h
    exact keeps_cond rfl trivial
  | bad => trivial
theorem ev_keeps : ∀ t : Tm, (∀ fr I, (ev cn cf t true fr I).keeps I) ∧ (∀ fr I, (evK cn cf t true fr I).keeps I) ∧ (∀ fr I, (evP cn cf t true fr I).keeps I) ∧ (∀ fr I, (evC cn cf t true fr I).keeps I) ∧ (∀ fr I, (evI cn cf t true fr I).keeps I) := by
  have tst : ∀ {β : Type} {r : R (D × Kd)} {f : Bool → Is → R β} {I : Is}, r.keeps I → (∀ b, (f b I).keeps I) → (r.tst f).keeps I := fun h hf => keeps_bind h fun p => by
    split <;> first | trivial | exact hf _
  have fz : ∀ {β : Type} {r : R (D × Kd)} {f : D → Is → R β} {I : Is}, r.keeps I → (∀ b, (f b I).keeps I) → (r.fz f).keeps I := fun h hf => keeps_bind h fun p => by
    split <;> first | trivial | exact hf _
  intro t
  induction t with
  | cns c => exact ⟨fun _ _ => rfl, fun _ _ => trivial, fun _ _ => trivial, fun _ _ => trivial, fun _ _ => trivial⟩
  | loc i => exact ⟨fun fr I => by simp only [ev]; split <;> first | trivial | rfl, fun _ _ => trivial, fun _ _ => trivial, fun _ _ => trivial, fun _ _ => trivial⟩
  | gk x => exact ⟨fun fr I => by simp only [ev]; split <;> first | trivial | rfl, fun _ _ => trivial, fun _ _ => trivial, fun _ _ => trivial, fun _ _ => trivial⟩
  | nil => exact ⟨fun _ _ => trivial, fun _ _ => rfl, fun _ _ => rfl, fun _ _ => rfl, fun _ _ => trivial⟩
  | cons a b iha ihb =>
    refine ⟨fun _ _ => trivial, fun fr I => ?_, fun fr I => ?_, fun fr I => ?_, fun fr I => ?_⟩
    · simp only [evK]; exact keeps_bind (iha.1 _ _) fun p => keeps_bind (by simpa using ihb.2.1 _ _) fun _ => rfl
    · cases b <;> first | trivial | skip
      simp only [evP]; exact keeps_bind (iha.1 _ _) fun p => by split <;> first | trivial | rfl
    · cases b <;> first | trivial | skip
      simp only [evC]; exact tst (iha.1 _ _) fun _ => rfl
    · cases b <;> first | trivial | skip
      simp only [evI]; exact keeps_bind (iha.1 _ _) fun p => by split <;> first | trivial | rfl
  | bin o a b iha ihb => exact ⟨fun fr I => by simp only [ev]; exact keeps_bind (iha.1 _ _) fun p => keeps_bind (by simpa using ihb.1 _ _) fun _ => keeps_binD _ _ _ _, fun _ _ => trivial, fun _ _ => trivial, fun _ _ => trivial, fun _ _ => trivial⟩
  | neg a iha => exact ⟨fun fr I => by simp only [ev]; exact keeps_bind (iha.1 _ _) fun p => by split <;> first | trivial | rfl, fun _ _ => trivial, fun _ _ => trivial, fun _ _ => trivial, fun _ _ => trivial⟩
  | cmp o a b iha ihb => exact ⟨fun fr I => by simp only [ev]; exact keeps_bind (iha.1 _ _) fun p => keeps_bind (by simpa using ihb.1 _ _) fun _ => keeps_cmpD _ _ _ _, fun _ _ => trivial, fun _ _ => trivial, fun _ _ => trivial, fun _ _ => trivial⟩
  | isn ng a iha => exact ⟨fun fr I => by simp only [ev]; exact keeps_bind (iha.1 _ _) fun p => by split <;> rfl, fun _ _ => trivial, fun _ _ => trivial, fun _ _ => trivial, fun _ _ => trivial⟩
  | isb ng k a iha => exact ⟨fun fr I => by simp only [ev]; exact keeps_bind (iha.1 _ _) fun p => by split <;> first | trivial | rfl, fun _ _ => trivial, fun _ _ => trivial, fun _ _ => trivial, fun _ _ => trivial⟩
  | ch2 o1 o2 a b c iha ihb ihc =>
    refine ⟨fun fr I => ?_, fun _ _ => trivial, fun _ _ => trivial, fun _ _ => trivial, fun _ _ => trivial⟩
    simp only [ev, Bool.true_or]
    exact keeps_bind (iha.1 _ _) fun p => keeps_bind (ihb.1 _ _) fun q => tst (keeps_cmpD _ _ _ _) fun t => keeps_cond (keeps_bind (ihc.1 _ _) fun _ => keeps_cmpD _ _ _ _) rfl
  | ch3 o1 o2 o3 a b c d iha ihb ihc ihd =>
    refine ⟨fun fr I => ?_, fun _ _ => trivial, fun _ _ => trivial, fun _ _ => trivial, fun _ _ => trivial⟩
    simp only [ev, Bool.true_or]
    exact keeps_bind (iha.1 _ _) fun p => keeps_bind (ihb.1 _ _) fun q => tst (keeps_cmpD _ _ _ _) fun t => keeps_cond (keeps_bind (ihc.1 _ _) fun _ => tst (keeps_cmpD _ _ _ _) fun t => keeps_cond (keeps_bind (ihd.1 _ _) fun _ => keeps_cmpD _ _ _ _) rfl) rfl
  | and a b iha ihb => exact ⟨fun fr I => by simp only [ev]; exact tst (iha.1 _ _) fun t => keeps_cond (tst (ihb.1 _ _) fun _ => rfl) rfl, fun _ _ => trivial, fun _ _ => trivial, fun _ _ => trivial, fun _ _ => trivial⟩
  | or a b iha ihb => exact ⟨fun fr I => by simp only [ev]; exact tst (iha.1 _ _) fun t => keeps_cond rfl (tst (ihb.1 _ _) fun _ => rfl), fun _ _ => trivial, fun _ _ => trivial, fun _ _ => trivial, fun _ _ => trivial⟩
  | not a iha => exact ⟨fun fr I => by simp only [ev]; exact tst (iha.1 _ _) fun t => rfl, fun _ _ => trivial, fun _ _ => trivial, fun _ _ => trivial, fun _ _ => trivial⟩
  | ite c a b ihc iha ihb => exact ⟨fun fr I => by simp only [ev]; exact tst (ihc.1 _ _) fun t => keeps_cond (iha.1 _ _) (ihb.1 _ _), fun _ _ => trivial, fun _ _ => trivial, fun _ _ => trivial, fun _ _ => trivial⟩
  | tup es ih => exact ⟨fun fr I => by simp only [ev]; exact keeps_bind (ih.2.1 _ _) fun p => by (split; exact keeps_cond rfl trivial; trivial), fun _ _ => trivial, fun _ _ => trivial, fun _ _ => trivial, fun _ _ => trivial⟩
  | told e ih => exact ⟨fun fr I => by simp only [ev]; exact keeps_tell (ih.1 _ _), fun _ _ => trivial, fun _ _ => trivial, fun _ _ => trivial, fun _ _ => trivial⟩
  | lst es ih => exact ⟨fun fr I => by simp only [ev]; exact keeps_bind (ih.2.1 _ _) fun p => by (split; exact keeps_cond rfl trivial; trivial), fun _ _ => trivial, fun _ _ => trivial, fun _ _ => trivial, fun _ _ => trivial⟩
  | sub a i iha ihb => exact ⟨fun fr I => by simp only [ev]; exact keeps_bind (iha.1 _ _) fun p => keeps_bind (by simpa using ihb.1 _ _) fun _ => keeps_subD _ _ _ _, fun _ _ => trivial, fun _ _ => trivial, fun _ _ => trivial, fun _ _ => trivial⟩
  | slc a lo hi iha ihl ihh => exact ⟨fun fr I => by simp only [ev, Bool.true_or]; exact keeps_bind (iha.1 _ _) fun p => keeps_bind (ihl.2.2.1 _ _) fun _ => keeps_bind (ihh.2.2.1 _ _) fun _ => keeps_slcD _ _ _ _ _, fun _ _ => trivial, fun _ _ => trivial, fun _ _ => trivial, fun _ _ => trivial⟩
  | rev a iha => exact ⟨fun fr I => by simp only [ev]; exact keeps_bind (iha.1 _ _) fun p => by split <;> first | trivial | rfl, fun _ _ => trivial, fun _ _ => trivial, fun _ _ => trivial, fun _ _ => trivial⟩
  | call x es ih => exact ⟨fun fr I => by simp only [ev]; exact keeps_bind (ih.2.1 _ _) fun p => keeps_callD _ _ _, fun _ _ => trivial, fun _ _ => trivial, fun _ _ => trivial, fun _ _ => trivial⟩
  | blt f es ih => exact ⟨fun fr I => by simp only [ev]; exact keeps_bind (ih.2.1 _ _) fun p => keeps_biD _ _ _, fun _ _ => trivial, fun _ _ => trivial, fun _ _ => trivial, fun _ _ => trivial⟩
  | isi a ks iha =>
    refine ⟨fun fr I => ?_, fun _ _ => trivial, fun _ _ => trivial, fun _ _ => trivial, fun _ _ => trivial⟩
    simp only [ev]
    refine keeps_bind (iha.1 _ _) fun p => ?_
    split
    · split <;> first | trivial | rfl
    · trivial
  | lc own elt tg it cond ihe ihi ihc =>
    refine ⟨fun fr I => ?_, fun _ _ => trivial, fun _ _ => trivial, fun _ _ => trivial, fun _ _ => trivial⟩
    simp only [ev, Bool.true_or]
    exact keeps_bind (ihi.2.2.2.2 _ _) fun p => keeps_bind (keeps_quiet (keeps_lcL (fun fr => keeps_bind (ihc.2.2.2.1 _ _) fun t => keeps_cond (fz (ihe.1 _ _) fun _ => keeps_ok _ _) (keeps_ok _ _)) _)) fun _ => keeps_cond rfl trivial
  | fld a x iha => exact ⟨fun fr I => by simp only [ev]; exact keeps_bind (iha.1 _ _) fun p => keeps_fld p x, fun _ _ => trivial, fun _ _ => trivial, fun _ _ => trivial, fun _ _ => trivial⟩
  | meth a m x es iha ihe =>
    refine ⟨fun fr I => ?_, fun _ _ => trivial, fun _ _ => trivial, fun _ _ => trivial, fun _ _ => trivial⟩
    simp only [ev]
    refine keeps_bind (iha.1 _ _) fun p => ?_
    split
    · exact keeps_cond (keeps_bind (ihe.2.1 _ _) fun p => keeps_callD _ _ _) trivial
    · trivial
  | callK x n ks pm es ih =>
    refine ⟨fun fr I => ?_, fun _ _ => trivial, fun _ _ => trivial, fun _ _ => trivial, fun _ _ => trivial⟩
    simp only [ev]
    refine keeps_bind (ih.2.1 _ _) fun p => ?_
    split <;> first | exact keeps_callD _ _ _ | trivial
  | methK a m x n ks pm es iha ihe =>
    refine ⟨fun fr I => ?_, fun _ _ => trivial, fun _ _ => trivial, fun _ _ => trivial, fun _ _ => trivial⟩
    simp only [ev]
    refine keeps_bind (iha.1 _ _) fun p => ?_
    split
    · refine keeps_cond (keeps_bind (ihe.2.1 _ _) fun p => ?_) trivial
      split <;> first | exact keeps_callD _ _ _ | trivial
    · trivial
  | new => exact ⟨fun fr I => by simp only [ev]; exact trivial, fun _ _ => trivial, fun _ _ => trivial, fun _ _ => trivial, fun _ _ => trivial⟩
  | dnew t => exact ⟨fun fr I => rfl, fun _ _ => trivial, fun _ _ => trivial, fun _ _ => trivial, fun _ _ => trivial⟩
  | disp ks vs ih =>
    refine ⟨fun fr I => ?_, fun _ _ => trivial, fun _ _ => trivial, fun _ _ => trivial, fun _ _ => trivial⟩
    simp only [ev]
    refine keeps_bind (ih.2.1 _ _) fun p => ?_
    split <;> first | exact keeps_cond rfl trivial | trivial
  | get2 a k d iha ihk ihd =>
    refine ⟨fun fr I => ?_, fun _ _ => trivial, fun _ _ => trivial, fun _ _ => trivial, fun _ _ => trivial⟩
    simp only [ev, Bool.true_or]
    refine keeps_bind (iha.1 _ _) fun p => keeps_cond (keeps_bind (ihk.1 _ _) fun q => keeps_bind (ihd.1 _ _) fun r => ?_) trivial
    split
    · rfl
    · split <;> first | trivial | rfl
    · trivial
  | vals a iha =>
    refine ⟨fun fr I => ?_, fun _ _ => trivial, fun _ _ => trivial, fun _ _ => trivial, fun _ _ => trivial⟩
    simp only [ev]
    refine keeps_bind (iha.1 _ _) fun p => ?_
    split <;> first | trivial | rfl
  | lcD own elt tg a cond ihe iha ihc =>
    refine ⟨fun fr I => ?_, fun _ _ => trivial, fun _ _ => trivial, fun _ _ => trivial, fun _ _ => trivial⟩
    simp only [ev, Bool.true_or]
    refine keeps_bind (iha.1 _ _) fun p => ?_
    split
    · exact keeps_cond trivial (keeps_bind (keeps_quiet (keeps_lcL (fun fr => keeps_bind (ihc.2.2.2.1 _ _) fun t => keeps_cond (fz (ihe.1 _ _) fun _ => keeps_ok _ _) (keeps_ok _ _)) _)) fun _ => keeps_cond rfl trivial)
    · trivial
  | rng1 a iha => exact ⟨fun _ _ => trivial, fun _ _ => trivial, fun _ _ => trivial, fun _ _ => trivial, fun fr I => by simp only [evI]; exact keeps_bind (iha.1 _ _) fun p => by (split; exact keeps_cond rfl trivial; trivial)⟩
  | rng2 a b iha ihb => exact ⟨fun _ _ => trivial, fun _ _ => trivial, fun _ _ => trivial, fun _ _ => trivial, fun fr I => by simp only [evI, Bool.true_or]; exact keeps_bind (iha.1 _ _) fun p => keeps_bind (ihb.1 _ _) fun q => by (split; exact keeps_cond rfl trivial; trivial)⟩
  | enm a iha => exact ⟨fun _ _ => trivial, fun _ _ => trivial, fun _ _ => trivial, fun _ _ => trivial, fun fr I => by simp only [evI]; exact keeps_bind (iha.1 _ _) fun p => by split <;> first | trivial | rfl⟩
  | zp a b iha ihb => exact ⟨fun _ _ => trivial, fun _ _ => trivial, fun _ _ => trivial, fun _ _ => trivial, fun fr I => by simp only [evI, Bool.true_or]; exact keeps_bind (iha.1 _ _) fun p => keeps_bind (ihb.1 _ _) fun q => by split <;> first | trivial | (split <;> first | trivial | rfl)⟩
end
end Air
/-! Air: a term's run (2): the wishes, calls, walks. -/
namespace Air
open PySem PySem.Spec PyProof.Rows L2
variable [Kf]
abbrev St := L2.St
/-- what a def promises -/
def spF (L : Lg) (n : Nat) (g : Bool → List D → Is → R Sl) : Sp := fun vs H Q E => vs.length = n ∧ ∃ ro G I ds, G.aF = [] ∧ Sx L.c ro G [] I [] H ∧ RVs G.F G.M vs ds ∧
  match g ro ds I with
  | .ok s I' => ∀ v G' H', Ext ro G H G' H' → Sx L.c ro G' [] (bif ro then I else I') [] H' → (∀ p, s.out = some p → Rk L H G' H' p v) → Q v H'
  | .exc x I' => ∀ cls d G' H', Ext ro G H G' H' → Sx L.c ro G' [] (bif ro then I else I') [] H' → XR L G' H' x cls d → E cls d H'
  | .bad => False
/-- what is written, in the parameters' order -/
def pmV (pm : List (Sum Nat Cs)) (vs zs : List V) : List V := pm.map fun p => match p with
  | .inl j => ((vs ++ zs)[j]?).getD .non
  | .inr c => c.v
/-- a def as its callers know it -/
structure FnR (L : Lg) (P : Program) (w : World) (base : Heap) (k : Nat) (x : Str) (f : Addr) (fd : FuncData) (ps : List Str) (dvs : List V) (dfl : List D) (g : Bool → List D → Is → R Sl) : Prop where
  at_ : mkB x = false → L.mg x = some (.ref f)
  mt : ∀ m, x = mkey m → Cls L.K L.c.C ∧ Meth L.K L.c.C m f
  kp : PySem.W.keepIn L.K (.ref f) = true
  ok : FnOk P w L.K L.mg base (L2.CX P w) k f fd ps (spF L ps.length g)
  dv : RVs (fun _ => none) [] dvs dfl
  dl : dfl.length ≤ ps.length
  bd : ∀ m, m ≤ dvs.length → ∃ ds, Binds L.K fd ps ds ∧ Vals (dvs.drop (dvs.length - m)) ds
  bk : ∀ n ks pm, L.kw x n ks = some pm → ∃ g', KBn L.K fd ps n ks g' (pmV pm)
  cf : ∀ ro as I, L.cf x ro as I = if as.length ≤ ps.length ∧ ps.length ≤ as.length + dfl.length then g ro (as ++ dfl.drop (as.length + dfl.length - ps.length)) I else .bad
section
variable {L : Lg} {H : Hp}
theorem spF_lg {L' : Lg} {np : Nat} {g : Bool → List D → Is → R Sl} {vs : List V} {Q : VK} {E : XK} (hc : L'.c = L.c) (hm : L'.mg = L.mg) (h : spF L np g vs H Q E) : spF L' np g vs H Q E := by
  obtain ⟨cn', kn', kw', cf', c', mg'⟩ := L'
  obtain ⟨cn, kn, kw, cf, c, mg⟩ := L
  cases hc
  cases hm
  obtain ⟨hlen, ro, G, I, ds, haF, S, rv, hm⟩ := h
  refine ⟨hlen, ro, G, I, ds, haF, S, rv, ?_⟩
  cases e : g ro ds I with
  | ok s I' => rw [e] at hm; exact fun v G' H' x S q => hm v G' H' x S fun p e => (q p e).lg
  | exc x I' => rw [e] at hm; exact hm
  | bad => rw [e] at hm; exact hm
theorem FnR.kn {k2 : Str → Option (Nat × Nat)} {P : Program} {w : World} {base : Heap} {k : Nat} {x : Str} {f : Addr} {fd : FuncData} {ps : List Str} {dvs : List V} {dfl : List D} {g : Bool → List D → Is → R Sl} (F : FnR L P w base k x f fd ps dvs dfl g) : FnR { L with kn := k2 } P w base k x f fd ps dvs dfl g :=
  ⟨F.at_, F.mt, F.kp, ⟨fun vs H Q E h => F.ok.len vs H Q E (spF_lg (L := { L with kn := k2 }) (L' := L) rfl rfl h), fun A outer s H args us vs Q E hr e0 hb hv h => F.ok.run A outer s H args us vs Q E hr e0 hb hv (spF_lg (L := { L with kn := k2 }) (L' := L) rfl rfl h)⟩, F.dv, F.dl, F.bd, F.bk, F.cf⟩
end
structure Good (L : Lg) (X : Cx) (W : WX) : Prop where
  K : X.K = L.K
  mg : X.mg = L.mg
  calm : X.calm = true
  nd : X.N.Nodup
  hu : X.A.units + 64 < cLine
  tk : L2.Takes X W
  po : PassesOwn (model X.prog X.w) X.A X.env X.xe
  bi : ∀ x, x ∈ (["len", "all", "any", "sorted", "list", "tuple", "min", "max", "int", "str", "divmod", "dict", "sum", "isinstance", "range", "enumerate", "zip", "set", "bool", "KeyError"] : List Str) → L.mg x = none
  cn : ∀ x, L.kn x = some (0, 1) → ∃ d, L.cn x = some d ∧ (match d with
    | .int i => ∃ t, L.mg x = some (.int i t)
    | .str z => PyData.strOk z = true ∧ ∃ t, L.mg x = some (.str z t)
    | .tup ds => ∃ a vs, L.mg x = some (.ref a) ∧ (∀ H, SqT L.K H a vs) ∧ RVs (fun _ => none) [] vs ds
    | _ => False)
  xc : ∀ c, L.kn c = some (0, 3) → ∃ C, L.mg c = some (.ref C) ∧ PySem.W.excIn L.K C He.veBase "ValueError.__new__" = true ∧ PySem.W.keepIn L.K (.ref C) = true ∧ Raises X (.ref C)
  lam : L.kn "<lambda>" = some (0, 2) → LamA X L.c.Tb
  tel : L.kn "_law_told" = some (0, 2) → TelD X.K X.mg "_law_told" (TTl X.mg tellN)
  fl : ∀ f, L.kn (fkey f) = some (0, 5) → Cls X.K L.c.C ∧ NoAttr X.K L.c.C f
  hs : L.kn "House" = some (0, 4) → L.mg "House" = some (.ref L.c.C) ∧ ∃ f, Mk X.K L.c.C f
  k : ∃ k, Room k X.A ∧ (L.kn "<lambda>" = some (0, 2) → Room (k + 3) X.A) ∧ (L.kn "House" = some (0, 4) → Room (k + 1) X.A) ∧ ∀ x np nd, L.kn x = some (np, nd) → nd ≤ np → ∃ f fd ps dvs dfl g, ps.length = np ∧ dfl.length = nd ∧ FnR L X.prog X.w X.base k x f fd ps dvs dfl g

/-- the new containers among values -/
def nwA : List (D × Kd) → List V → List Addr
  | p :: ps, v :: vs => (match p.2, v with
    | .new, .ref a => [a]
    | _, _ => []) ++ nwA ps vs
  | _, _ => []
def te (L : Lg) (W : WX) (t : Tm) : TE := fun σ H Q => ∃ ro G fr I, Sx L.c ro G fr I σ H ∧ PR L W ro G H σ fr (ev L.cn L.cf t ro fr I) (RkR L H) Q
def tt (L : Lg) (W : WX) (t : Tm) : TT := fun σ H Q => ∃ ro G fr I, Sx L.c ro G fr I σ H ∧ PR L W ro G H σ fr ((ev L.cn L.cf t ro fr I).tst fun b I => .ok b I) (fun _ _ (b : Bool) (c : Bool) => c = b) Q
def ta (L : Lg) (W : WX) (t : Tm) : TA := fun σ H Q => ∃ ro G fr I, Sx L.c ro G fr I σ H ∧ PR L W ro G H σ fr (evK L.cn L.cf t ro fr I) (fun G' H' ps vs => Rks L H G' H' ps vs ∧ (nwA ps vs).Nodup) Q
def tp (L : Lg) (W : WX) (t : Tm) : TO := fun σ H Q => ∃ ro G fr I, Sx L.c ro G fr I σ H ∧ PR L W ro G H σ fr (evP L.cn L.cf t ro fr I) (fun _ _ (o : Option Int) (o' : Option Int) => o' = o) Q
def tc (L : Lg) (W : WX) (t : Tm) : TT := fun σ H Q => ∃ ro G fr I, Sx L.c ro G fr I σ H ∧ PR L W ro G H σ fr (evC L.cn L.cf t ro fr I) (fun _ _ (b : Bool) (c : Bool) => c = b) Q
/-- one turn's item: as it is, or a new tuple -/
def Yl (G : Gh) (H : Hp) (v : V) (H' : Hp) (d : D) : Prop := (H' = H ∧ RV G.F G.M v d) ∨ (∃ T vs ds, v = .ref T ∧ H T = none ∧ H' = upd H T (.tup vs) ∧ d = .tup ds ∧ RVs G.F G.M vs ds) ∨ ∃ T vs ds, v = .ref T ∧ H T = some (.tup vs) ∧ H' = H ∧ d = .tup ds ∧ RVs G.F G.M vs ds
/-- what is walked gives these items, while its sources stay -/
def WkR (G : Gh) (H : Hp) (p : List D × Kd) (J : It) : Prop := ∃ (src : List Addr) (Gd : Hp → Prop) (Y : Nat → Hp → V → Hp → Prop), Walk J p.1.length Gd Y ∧
  (∀ a ∈ src, H a ≠ none ∧ (p.2 = .inst ∨ a ∉ G.aI) ∧ (p.2 = .own ∨ a ∉ G.aF)) ∧
  (∀ (G2 : Gh) (H2 : Hp), (∀ a u, G.F a = some u → G2.F a = some u) → G.M <+: G2.M → (∀ a ∈ src, Kp H H2 a) → Gd H2) ∧
  (∀ (i : Nat) (v : V) (H2 H3 : Hp) (G2 : Gh), i < p.1.length → (∀ a u, G.F a = some u → G2.F a = some u) → G.M <+: G2.M → (∀ a ∈ src, Kp H H2 a) → Y i H2 v H3 → ∃ d, p.1[i]? = some d ∧ Yl G2 H2 v H3 d)
def ti (L : Lg) (W : WX) (t : Tm) : TI := fun σ H Rr => ∃ ro G fr I, Sx L.c ro G fr I σ H ∧ PR L W ro G H σ fr (evI L.cn L.cf t ro fr I) (fun G' H' p J => WkR G' H' p J) Rr

section
variable {L : Lg} {W : WX} {X : Cx} {ro ro' : Bool} {G G1 G2 : Gh} {H H1 H2 : Hp} {σ : St} {fr : Fr} {I I1 : Is}
theorem PE.imp {e : Expr} {t t' : TE} (h : PE X e t) (i : ∀ σ H Q, t' σ H Q → t σ H Q) : PE X e t' := ⟨fun pins s σ H Q I q => h.run pins s σ H Q I (i _ _ _ q)⟩
theorem PT.imp {e : Expr} {t t' : TT} (h : PT X e t) (i : ∀ σ H Q, t' σ H Q → t σ H Q) : PT X e t' := ⟨fun pins s σ H Q I q => h.run pins s σ H Q I (i _ _ _ q)⟩
theorem PW.imp {e : Expr} {t t' : TT} (h : PW X e t) (i : ∀ σ H Q, t' σ H Q → t σ H Q) : PW X e t' := ⟨fun wh pins s σ H Q I q => h.run wh pins s σ H Q I (i _ _ _ q)⟩
theorem PA.imp {e : List Expr} {t t' : TA} (h : PA X e t) (i : ∀ σ H Q, t' σ H Q → t σ H Q) : PA X e t' := ⟨fun pos pins s σ H Q I q => h.run pos pins s σ H Q I (i _ _ _ q)⟩
theorem PO.imp {e : Option Expr} {t t' : TO} (h : PO X e t) (i : ∀ σ H Q, t' σ H Q → t σ H Q) : PO X e t' := ⟨fun pins s σ H Q I q => h.run pins s σ H Q I (i _ _ _ q)⟩
theorem PTs.imp {e : List Expr} {t t' : TT} (h : PTs X e t) (i : ∀ σ H Q, t' σ H Q → t σ H Q) : PTs X e t' := ⟨fun pins s σ H Q I q => h.run pins s σ H Q I (i _ _ _ q)⟩
theorem PI.imp {tg e : Expr} {t t' : TI} (h : PI X tg e t) (i : ∀ σ H Q, t' σ H Q → t σ H Q) : PI X tg e t' := ⟨fun pins s σ H Q I q => h.run pins s σ H Q I (i _ _ _ q)⟩

theorem te_kn {k : Str → Option (Nat × Nat)} {t : Tm} {Q : VK} (h : te L W t σ H Q) : te { L with kn := k } W t σ H Q := by
  obtain ⟨ro, G, fr, I, S, h⟩ := h
  exact ⟨ro, G, fr, I, S, h.imp (rel' := RkR { L with kn := k } H) (fun _ _ _ _ r => r.lg) fun _ _ q => q⟩
/-- a further term, behind one that lies so -/
theorem te_next {t : Tm} {k : Kd} {γ : Type} {f : D × Kd → Is → R γ} {β : Type} {rel' : Gh → Hp → γ → β → Prop} {Q : β → Hp → Prop} (x : Ext ro G H G1 H1) (S1 : Sx L.c ro G1 fr I1 σ H1)
    (h : PR L W ro G H σ fr ((ev L.cn L.cf t (ro || isInst k) fr I1).bind f) rel' Q) :
    te L W t σ H1 (fun v H2 => ∃ q I2 G2, Ext ro G H G2 H2 ∧ Ext (ro || isInst k) G1 H1 G2 H2 ∧ Sx L.c ro G2 fr I2 σ H2 ∧ Rk L H G2 H2 q v ∧ PR L W ro G H σ fr (f q I2) rel' Q) := by
  have h1 := PR.bind (β := V) (rel := fun G' H' p v => Rk L H G' H' p v ∧ Ext (ro || isInst k) G1 H1 G' H') h
  refine ⟨ro || isInst k, G1, fr, I1, ?_, ?_⟩
  · cases hk : isInst k with
    | false => rw [Bool.or_false]; exact S1
    | true =>
      rw [Bool.or_true]
      cases ro with
      | true => exact S1
      | false => exact S1.weak true
  · refine PR.at (rel1 := fun G' H' p v => Rk L H1 G' H' p v) x S1 ?_ (fun G' H' p v y S r => ⟨r.from x.dom, y⟩) (h1.imp (fun _ _ _ _ r => r) ?_)
    · cases hk : isInst k with
      | false => exact .inl (Bool.or_false _)
      | true => exact .inr ⟨Bool.or_true _, by rw [Bool.or_true]; exact (ev_keeps t).1 _ _⟩
    · rintro v H2 ⟨q, I2, G2, _, y, S2, ⟨r1, r2⟩, h2⟩
      exact ⟨q, I2, G2, y, r2, S2, r1, h2⟩
theorem te_two {a b : Tm} {f : D × Kd → D × Kd → Is → R (D × Kd)} {Q : VK} (S : Sx L.c ro G fr I σ H) (h : PR L W ro G H σ fr ((ev L.cn L.cf a ro fr I).bind fun p I => (ev L.cn L.cf b (ro || isInst p.2) fr I).bind fun q I => f p q I) (RkR L H) Q) :
    te L W a σ H (fun x H1 => te L W b σ H1 fun y H2 => Two L f x y H2 Q) := by
  refine ⟨ro, G, fr, I, S, PR.imp (PR.bind (rel := RkR L H) h) (fun _ _ _ _ r => r) ?_⟩
  rintro v H1 ⟨p, I1, G1, _, x, S1, r1, h1⟩
  obtain ⟨ro2, G2, fr2, I2, S2, h2⟩ := te_next x S1 h1
  refine ⟨ro2, G2, fr2, I2, S2, h2.imp (fun _ _ _ _ r => r) ?_⟩
  rintro w H2 ⟨q, I3, G3, y1, y2, S3, r2, h3⟩
  exact ⟨W, ro, G, H, σ, fr, p, q, I3, G3, y1, S3, r1.later S1 y2, r2, h3⟩
theorem te_one {a : Tm} {f : D × Kd → Is → R (D × Kd)} {Q : VK} (S : Sx L.c ro G fr I σ H) (h : PR L W ro G H σ fr ((ev L.cn L.cf a ro fr I).bind f) (RkR L H) Q) :
    te L W a σ H (fun x H1 => One L f x H1 Q) := by
  refine ⟨ro, G, fr, I, S, PR.imp (PR.bind (rel := RkR L H) h) (fun _ _ _ _ r => r) ?_⟩
  rintro v H1 ⟨p, I1, G1, _, x, S1, r1, h1⟩
  exact ⟨W, ro, G, H, σ, fr, p, I1, G1, x, S1, r1, h1⟩
theorem te.imp {t : Tm} {Q Q' : VK} (h : te L W t σ H Q) (i : ∀ v H', Q v H' → Q' v H') : te L W t σ H Q' := by
  obtain ⟨ro, G, fr, I, S, q⟩ := h
  exact ⟨ro, G, fr, I, S, q.imp (fun _ _ _ _ r => r) i⟩
/-! ### tests -/
theorem tt_te {t : Tm} {Q : Bool → Hp → Prop} (h : tt L W t σ H Q) : te L W t σ H (fun x H1 => ∃ c, x = .bl c ∧ Q c H1) := by
  obtain ⟨ro, G, fr, I, S, h⟩ := h
  refine ⟨ro, G, fr, I, S, PR.imp (PR.bind (rel := RkR L H) h) (fun _ _ _ _ r => r) ?_⟩
  rintro v H1 ⟨⟨d, k⟩, I1, G1, _, x, S1, r1, h1⟩
  cases d with
  | bl b => exact ⟨b, r1.bl, h1 b G1 H1 x S1 rfl⟩
  | _ => exact absurd h1 id
theorem pt_of {t : Tm} {e : Expr} (h : PE X e (te L W t)) (he : ∀ whole, isTrue e X.env whole = (do let v ← whole; standAt e.pos; holding [v] (truthy v))) : PT X e (tt L W t) :=
  PT.imp (pt_val h he) fun σ H Q q => tt_te q
/-- a test, then more -/
theorem tt_next {t : Tm} {γ β : Type} {f : Bool → Is → R γ} {rel' : Gh → Hp → γ → β → Prop} {Q : β → Hp → Prop} (S : Sx L.c ro G fr I σ H) (h : PR L W ro G H σ fr ((ev L.cn L.cf t ro fr I).tst f) rel' Q) :
    tt L W t σ H (fun b H1 => ∃ I1 G1, Ext ro G H G1 H1 ∧ Sx L.c ro G1 fr I1 σ H1 ∧ PR L W ro G H σ fr (f b I1) rel' Q) := by
  have e : (ev L.cn L.cf t ro fr I).tst f = ((ev L.cn L.cf t ro fr I).tst fun b I => .ok b I).bind f := by
    unfold R.tst
    cases ev L.cn L.cf t ro fr I with
    | ok p I' => obtain ⟨d, k⟩ := p; cases d <;> rfl
    | exc x I' => rfl
    | bad => rfl
  rw [e] at h
  refine ⟨ro, G, fr, I, S, PR.imp (PR.bind (rel := fun _ _ (b : Bool) (c : Bool) => c = b) h) (fun _ _ _ _ r => r) ?_⟩
  rintro b H1 ⟨b', I1, G1, _, x, S1, r, h1⟩
  obtain rfl : b = b' := r
  exact ⟨I1, G1, x, S1, h1⟩
/-- on from a later state, in the same mode -/
theorem PR.on {α β : Type} {r : R α} {rel rel1 : Gh → Hp → α → β → Prop} {Q : β → Hp → Prop} (x : Ext ro G H G1 H1) (S1 : Sx L.c ro G1 fr I1 σ H1) (hrel : ∀ G' H' a v, rel1 G' H' a v → rel G' H' a v) (h : PR L W ro G H σ fr r rel Q) : PR L W ro G1 H1 σ fr r rel1 Q :=
  PR.at x S1 (.inl rfl) (fun G' H' a v _ _ q => hrel _ _ _ _ q) h
/-! ### new things given away -/
def RkW (H0 : Hp) (G : Gh) (H : Hp) (p : D × Kd) (v : V) : Prop := (p.2 = .fro ∧ RV G.F G.M v p.1) ∨ (p.2 = .new ∧ ∃ a s, v = .ref a ∧ Sl.inn p.1 = some s ∧ SlAt false G.F G.M H a s ∧ H0 a = none ∧ a ∉ G.aF ∧ a ∉ G.aI)
theorem Rk.w {H0 : Hp} {p : D × Kd} {v : V} {d : D} (h : Rk L H0 G H p v) (e : frzK p = some d) : RkW H0 G H p v ∧ d = p.1 := by
  cases h with
  | fro h => cases e; exact ⟨.inl ⟨rfl, h⟩, rfl⟩
  | own e1 h m => cases e
  | inst e1 h m => cases e
  | new e1 h h0 h1 h2 h3 => cases e; exact ⟨.inr ⟨rfl, _, _, rfl, e1, h, h0, h2, h3⟩, rfl⟩
  | cst => cases e
theorem inn_thing {lk : Bool} {d : D} {s : Sl} {a : Addr} {F : Hp} {M : List (Addr × Addr)} (e : Sl.inn d = some s) (h : SlAt false F M H a s) : ∃ u, H a = some u ∧ Fine u ∧ (∀ w, Sub H a w → w = u) ∧ ∀ F', (∀ b w, F b = some w → F' b = some w) → F' a = some u → RV F' M (.ref a) d := by
  have nofrz : ∀ u, Fine u → (∀ o xs, u ≠ .frz o xs) → H a = some u → ∀ w, Sub H a w → w = u := fun u _ hn ha w hw => by
    rcases hw with hw | ⟨_, o, hw⟩
    · rw [ha] at hw; exact (Option.some.inj hw).symm
    · rw [ha] at hw; exact absurd (Option.some.inj hw) (hn o w)
  cases d <;> simp only [Sl.inn, Option.some.injEq, reduceCtorEq] at e <;> subst e
  · obtain ⟨vs, e, r⟩ := h
    exact ⟨_, e, trivial, nofrz _ trivial (fun _ _ z => by cases z) e, fun F' hF hf => .lst hf (r.mono hF (List.prefix_refl _))⟩
  · obtain ⟨vs, e | ⟨z, _⟩, l, r⟩ := h
    · exact ⟨_, e, trivial, nofrz _ trivial (fun _ _ z => by cases z) e, fun F' hF hf => .dK hf l (r.mono hF (List.prefix_refl _))⟩
    · cases z
  · obtain ⟨vs, e | ⟨z, _⟩, l, r⟩ := h
    · exact ⟨_, e, trivial, nofrz _ trivial (fun _ _ z => by cases z) e, fun F' hF hf => .dT hf l (r.mono hF (List.prefix_refl _))⟩
    · cases z
/-- only F grows -/
structure Grow (G G' : Gh) : Prop where
  F : ∀ a u, G.F a = some u → G'.F a = some u
  M : G'.M = G.M
  aF : G'.aF = G.aF
  aI : G'.aI = G.aI
/-- a tuple that stands is known from now on -/
theorem tup_known {lk : Bool} {q : Addr} {vs : List V} {ds : List D} (S : Sx L.c lk G fr I σ H) (hq : H q = some (.tup vs)) (r : RVs G.F G.M vs ds) : ∃ G3, Grow G G3 ∧ Sx L.c lk G3 fr I σ H ∧ RV G3.F G3.M (.ref q) (.tup ds) ∧ (∀ b, b ≠ q → G3.F b = G.F b) ∧ (∀ {ro : Bool} {G0 : Gh} {H0 : Hp}, Ext ro G0 H0 G H → Ext ro G0 H0 G3 H) ∧ (∀ {ro : Bool} {G0 : Gh} {H0 : Hp}, ExtS ro G0 H0 G H → ExtS ro G0 H0 G3 H) := by
  have old : Old H q := .inr ⟨vs, hq⟩
  cases e : G.F q with
  | some w =>
    have : w = .tup vs := by
      rcases S.sub q w e with z | ⟨_, o, z⟩
      · rw [hq] at z; exact (Option.some.inj z).symm
      · rw [hq] at z; cases z
    subst this
    exact ⟨G, ⟨fun _ _ e => e, rfl, rfl, rfl⟩, S, .tup e r, fun _ _ => rfl, fun x => x, fun x => x⟩
  | none =>
    refine ⟨G.put q (.tup vs), ⟨put_mono e, rfl, rfl, rfl⟩, S.freeze trivial (.inl hq) (fun z => S.fr.old q z old) (fun z => S.is.old q z old) e, .tup upd_same (r.mono (put_mono e) (List.prefix_refl _)), fun b hb => upd_ne hb, fun x => x.putO (x.old old) e, fun x => x.putO (.inl (x.old old)) e⟩
theorem Grow.refl : Grow G G := ⟨fun _ _ e => e, rfl, rfl, rfl⟩
theorem Grow.trans (a : Grow G G1) (b : Grow G1 G2) : Grow G G2 := ⟨fun x u e => b.F x u (a.F x u e), b.M.trans a.M, b.aF.trans a.aF, b.aI.trans a.aI⟩
theorem frz_one {p : D × Kd} {v : V} (x : Ext ro G H G1 H1) (S : Sx L.c ro G1 fr I1 σ H1) (h : RkW H G1 H1 p v) : ∃ G2, Grow G1 G2 ∧ Ext ro G H G2 H1 ∧ Sx L.c ro G2 fr I1 σ H1 ∧ RV G2.F G2.M v p.1 := by
  rcases h with ⟨_, h⟩ | ⟨_, a, s, rfl, e, h, h0, h2, h3⟩
  · exact ⟨G1, .refl, x, S, h⟩
  · obtain ⟨u, ha, fu, us, rr⟩ := inn_thing (lk := false) e h
    cases q : G1.F a with
    | some w =>
      have := us w (S.sub a w q)
      subst this
      exact ⟨G1, .refl, x, S, rr _ (fun _ _ e => e) q⟩
    | none => exact ⟨G1.put a u, ⟨put_mono q, rfl, rfl, rfl⟩, x.put h0 q, S.freeze fu (.inl ha) h2 h3 q, rr _ (put_mono q) upd_same⟩
theorem RkW.grow {H0 : Hp} {p : D × Kd} {v : V} (g : Grow G G1) (h : RkW H0 G H p v) : RkW H0 G1 H p v := by
  have hM : G.M <+: G1.M := g.M ▸ List.prefix_refl _
  rcases h with ⟨e, h⟩ | ⟨e1, a, s, rfl, e, h, h0, h2, h3⟩
  · exact .inl ⟨e, h.mono g.F hM⟩
  · exact .inr ⟨e1, a, s, rfl, e, h.mono g.F hM fun _ e _ => e, h0, g.aF ▸ h2, g.aI ▸ h3⟩
theorem frz_all : ∀ {ps : List (D × Kd)} {vs : List V} {ds : List D} {G1 : Gh}, Ext ro G H G1 H1 → Sx L.c ro G1 fr I1 σ H1 → Paired (RkW H G1 H1) ps vs → frzAll ps = some ds → ∃ G2, Grow G1 G2 ∧ Ext ro G H G2 H1 ∧ Sx L.c ro G2 fr I1 σ H1 ∧ RVs G2.F G2.M vs ds
  | [], _, _, G1, x, S, h, e => by
    cases h
    cases e
    exact ⟨G1, .refl, x, S, .nil⟩
  | p :: ps, _, ds, G1, x, S, h, e => by
    cases h with
    | cons h hs =>
      unfold frzAll at e
      cases e1 : frzK p with
      | none => rw [e1] at e; cases e
      | some d =>
        cases e2 : frzAll ps with
        | none => rw [e1, e2] at e; cases e
        | some ds' =>
          rw [e1, e2] at e
          cases e
          obtain ⟨G2, g, x2, S2, r⟩ := frz_one x S h
          obtain ⟨G3, g3, x3, S3, rs⟩ := frz_all x2 S2 (L2.Paired.mapP hs fun a b q => q.grow g) e2
          have hd : d = p.1 := by
            obtain ⟨d0, k⟩ := p
            cases k <;> cases e1 <;> rfl
          subst hd
          exact ⟨G3, g.trans g3, x3, S3, .cons (r.mono g3.F (g3.M ▸ List.prefix_refl _)) rs⟩
theorem Rks.w : ∀ {ps : List (D × Kd)} {vs : List V} {ds : List D} {H0 : Hp}, Rks L H0 G H ps vs → frzAll ps = some ds → Paired (RkW H0 G H) ps vs
  | [], _, _, _, h, e => by cases h; exact .nil
  | p :: ps, _, ds, _, h, e => by
    cases h with
    | cons h hs =>
      unfold frzAll at e
      cases e1 : frzK p with
      | none => rw [e1] at e; cases e
      | some d =>
        cases e2 : frzAll ps with
        | none => rw [e1, e2] at e; cases e
        | some ds' => exact .cons (h.w e1).1 (hs.w e2)
/-- a value that stands still from now on -/
theorem PR.fz {t : Tm} {γ β : Type} {f : D → Is → R γ} {rel' : Gh → Hp → γ → β → Prop} {Q : β → Hp → Prop} (S : Sx L.c ro G fr I σ H) (h : PR L W ro G H σ fr ((ev L.cn L.cf t ro fr I).fz f) rel' Q) :
    te L W t σ H (fun v H1 => ∃ d I1 G1, Ext ro G H G1 H1 ∧ Sx L.c ro G1 fr I1 σ H1 ∧ RV G1.F G1.M v d ∧ PR L W ro G H σ fr (f d I1) rel' Q) := by
  refine ⟨ro, G, fr, I, S, PR.imp (PR.bind (rel := RkR L H) h) (fun _ _ _ _ r => r) ?_⟩
  rintro v H1 ⟨p, I1, G1, _, x, S1, r1, h1⟩
  cases e : frzK p with
  | none => rw [e] at h1; exact absurd h1 id
  | some d =>
    rw [e] at h1
    obtain ⟨w, hd⟩ := r1.w e
    obtain ⟨G2, g, x2, S2, r⟩ := frz_one x S1 w
    exact ⟨d, I1, G2, x2, S2, hd ▸ r, h1⟩
end
end Air
/-! Air: a term's run (3): the main theorem for terms. -/
namespace Air
open PySem PySem.Spec PyProof.Rows L2
variable [Kf]
section
variable {L : Lg} {W : WX} {X : Cx} {ro ro' : Bool} {G G1 G2 : Gh} {H H1 H2 : Hp} {σ : St} {fr : Fr} {I I1 : Is}
theorem FrR.at_ {F : Hp} {M : List (Addr × Addr)} {as : List Addr} (h : FrR F M H σ fr as) : ∀ {i : Nat} {s : Sl}, fr[i]? = some s → ∃ ov bs, σ[i]? = some ov ∧ SlV false F M H ov s bs ∧ ∀ a ∈ bs, a ∈ as := by
  induction h with
  | nil => intro i s e; simp at e
  | cons h0 _ ih =>
    intro i s e
    cases i with
    | zero => simp at e; subst e; exact ⟨_, _, rfl, h0, fun a ha => List.mem_append_left _ ha⟩
    | succ i =>
      obtain ⟨ov, bs, h1, h2, h3⟩ := ih (i := i) (s := s) (by simpa using e)
      exact ⟨ov, bs, by simpa using h1, h2, fun a ha => List.mem_append_right _ (h3 a ha)⟩
theorem FrR.len {F : Hp} {M : List (Addr × Addr)} {as : List Addr} (h : FrR F M H σ fr as) : σ.length = fr.length := by
  induction h with
  | nil => rfl
  | cons _ _ ih => simp [ih]
/-- a name's value -/
theorem loc_run {i : Nat} {Q : VK} (h : te L W (.loc i) σ H Q) : tVar i σ H Q := by
  obtain ⟨ro, G, fr, I, S, h⟩ := h
  simp only [ev] at h
  cases e : fr[i]? with
  | none => rw [e] at h; exact absurd h id
  | some s =>
    rw [e] at h
    obtain ⟨ov, bs, h1, h2, h3⟩ := S.fr.at_ e
    cases s with
    | no => exact absurd h id
    | val d =>
      obtain ⟨_, v, rfl, r⟩ := h2
      exact ⟨v, h1, h v G H .refl S (.fro r)⟩
    | lst xs =>
      obtain ⟨a, rfl, rfl, r⟩ := h2
      exact ⟨_, h1, h _ G H .refl S (.own (s := .lst xs) rfl r (h3 a (by simp)))⟩
    | dK ks vs =>
      obtain ⟨a, rfl, rfl, r⟩ := h2
      exact ⟨_, h1, h _ G H .refl S (.own (s := .dK ks vs) rfl r (h3 a (by simp)))⟩
    | dT ks vs =>
      obtain ⟨a, rfl, rfl, r⟩ := h2
      exact ⟨_, h1, h _ G H .refl S (.own (s := .dT ks vs) rfl r (h3 a (by simp)))⟩
theorem gl_of {x : Str} (h : glB X.env.scope x = true) : Gl X x ∧ (x == ("__debug__" : Str)) = false := by
  unfold glB at h
  split at h
  · rename_i e
    exact ⟨e, by simpa using h⟩
  · cases h
theorem vis_of {sc : Scope} {x : Str} (h : visB sc x = true) : Vis sc x := by
  unfold visB at h
  split at h <;> first | exact .inl (by assumption) | exact .inr (.inl (by assumption)) | exact .inr (.inr (by assumption)) | cases h
theorem loc_of {sc : Scope} {x : Str} (h : locB sc x = true) : Loc sc x := by
  unfold locB at h
  split at h <;> first | exact .inl (by assumption) | exact .inr (by assumption) | cases h
theorem star_of {e : Expr} (h : notStar e = true) (es : List Expr) (env : Env) : starEach (e :: es) env = (false, eval e env) :: starEach es env := by
  cases e <;> first | rfl | cases h
theorem chkK_star {kn : Str → Option (Nat × Nat)} {kw : Kwt} {sc : Scope} {N : List Str} : ∀ {t : Tm} {es : List Expr}, chkK kn kw t sc N es = true → ∀ e ∈ es, notStar e = true
  | t, [], _, e, he => by simp at he
  | t, x :: xs, h, e, he => by
    cases t <;> simp only [chkK] at h <;> try (cases h; done)
    simp only [Bool.and_eq_true] at h
    rcases List.mem_cons.mp he with z | z
    · subst z; exact h.1.2
    · exact chkK_star h.2 e z
theorem back_ok {pos : Pos} {env : Env} : ∀ {es : List Expr}, (∀ e ∈ es, notStar e = true) → (backTo pos (starEach es env)).any (·.1) = false
  | [], _ => rfl
  | e :: es, h => by
    rw [star_of (h e List.mem_cons_self)]
    show (false || (backTo pos (starEach es env)).any (·.1)) = false
    rw [back_ok fun x hx => h x (List.mem_cons_of_mem _ hx)]; rfl
theorem plain_ix {e : Expr} (h : notSlc e = true) : PlainIx e := by
  intro o i
  cases e <;> first | rfl | cases h
theorem mark_of {e : Expr} {op : CmpOp} (h : notSet e = true) : behindInMarks op e = false := by
  cases e <;> first | rfl | cases h
theorem fold_of {e : Expr} (h : notSet e = true) (env : Env) : ∀ x, foldedSetIterable e env x = pure x := by
  intro x
  cases e <;> first | rfl | cases h
/-! ### calls -/
theorem call_frame {ro : Bool} (S : Sx L.c ro G fr I σ H) : Sx L.c ro { G with aF := [] } [] I [] H :=
  ⟨.nil, S.is, (List.nodup_append.mp S.nd).2.1, fun a ha => S.sep a (List.mem_append_right _ (by simpa using ha)), S.sub, S.fine, S.tb⟩
theorem call_back {ro : Bool} {I2 : Is} (S : Sx L.c ro G fr I σ H) (x : Ext ro { G with aF := [] } H G2 H2) (S2 : Sx L.c ro G2 [] I2 [] H2) : Ext ro G H { G2 with aF := G.aF } H2 ∧ Sx L.c ro { G2 with aF := G.aF } fr I2 σ H2 := by
  have ni : ∀ a ∈ G.aF, a ∉ G.aI := fun a h1 h2 => (List.nodup_append.mp S.nd).2.2 a h1 a h2 rfl
  have kp : ∀ a ∈ G.aF, Kp H H2 a := fun a ha o e t => x.keep a o e (.inr (ni a ha)) t
  refine ⟨⟨x.keep, x.dom, x.tp, x.F, x.Fn, rfl, x.aI, x.M, x.ro⟩, ⟨S.fr.mono x.F x.M kp, S2.is, ?_, fun a ha => ?_, S2.sub, S2.fine, S2.tb⟩⟩
  · refine List.nodup_append.mpr ⟨(List.nodup_append.mp S.nd).1, (List.nodup_append.mp S2.nd).2.1, fun a h1 b h2 e => ?_⟩
    subst e
    exact (x.aI a h2).elim (ni a h1) fun z => S.fr.there a h1 z
  · rcases List.mem_append.mp ha with h | h
    · show G2.F a = none
      cases q : G2.F a with
      | none => rfl
      | some u =>
        rcases x.Fn a u q with z | z
        · have := S.sep a (List.mem_append_left _ h)
          rw [this] at z; cases z
        · exact absurd z (S.fr.old a h)
    · exact S2.sep a (List.mem_append_right _ h)
/-- from the callee's frame to ours -/
theorem Rk.back {A : List Addr} {H0 : Hp} {p : D × Kd} {v : V} (hA : ∀ b ∈ A, H0 b ≠ none) (h : Rk L H0 G H p v) (hk : p.2 = .fro ∨ p.2 = .new) : Rk L H0 { G with aF := A } H p v := by
  cases h with
  | fro h => exact .fro h
  | own e h m => rcases hk with z | z <;> cases z
  | inst e h m => rcases hk with z | z <;> cases z
  | new e h h0 h1 h2 h3 => exact .new e h h0 h1 (fun z => hA _ z h0) h3
  | cst h r => rcases hk with z | z <;> cases z
theorem out_kd {s : Sl} {p : D × Kd} (h : s.out = some p) : p.2 = .fro ∨ p.2 = .new := by
  cases s <;> simp only [Sl.out, reduceCtorEq, Option.some.injEq] at h <;> subst h <;> simp
/-- a container lent -/
def RkB (G : Gh) (H : Hp) (p : D × Kd) (v : V) : Prop := RV G.F G.M v p.1 ∨ ∃ a s, v = .ref a ∧ Sl.inn p.1 = some s ∧ SlAt false G.F G.M H a s ∧ a ∉ G.aI
theorem bor_all : ∀ {ps : List (D × Kd)} {vs : List V} {G1 : Gh}, G1.aF = [] → Sx L.c ro G1 [] I1 [] H1 → Paired (RkB G1 H1) ps vs → ∃ G2, Grow G1 G2 ∧ Sx L.c ro G2 [] I1 [] H1 ∧ RVs G2.F G2.M vs (ps.map (·.1)) ∧ (∀ b us, G2.F b = some (.tup us) → G1.F b = some (.tup us)) ∧ (∀ b u, G2.F b = some u → H1 b ≠ none)
  | [], _, G1, _, S, h => by
    cases h
    exact ⟨G1, .refl, S, .nil, fun _ _ e => e, fun b u e => (S.sub b u e).there⟩
  | p :: ps, _, G1, ha, S, h => by
    cases h with
    | cons h hs =>
      rcases h with h | ⟨a, s, rfl, e, h, h3⟩
      · obtain ⟨G3, g3, S3, rs, t3, n3⟩ := bor_all ha S hs
        exact ⟨G3, g3, S3, .cons (h.mono g3.F (g3.M ▸ List.prefix_refl _)) rs, t3, n3⟩
      · obtain ⟨u, hu, fu, us, rr⟩ := inn_thing (lk := false) e h
        have nt : ∀ ws, u ≠ .tup ws := fun ws z => by
          subst z
          cases hp : p.1 <;> rw [hp] at e <;> simp only [Sl.inn, Option.some.injEq, reduceCtorEq] at e <;> subst e
          · obtain ⟨_, q, _⟩ := h; rw [hu] at q; cases q
          · obtain ⟨_, q | ⟨q, _⟩, _⟩ := h
            · rw [hu] at q; cases q
            · cases q
          · obtain ⟨_, q | ⟨q, _⟩, _⟩ := h
            · rw [hu] at q; cases q
            · cases q
        cases q : G1.F a with
        | some w =>
          have := us w (S.sub a w q)
          subst this
          obtain ⟨G3, g3, S3, rs, t3, n3⟩ := bor_all ha S hs
          exact ⟨G3, g3, S3, .cons ((rr _ (fun _ _ e => e) q).mono g3.F (g3.M ▸ List.prefix_refl _)) rs, t3, n3⟩
        | none =>
          have S2 := S.freeze fu (.inl hu) (by rw [ha]; simp) h3 q
          have g2 : Grow G1 (G1.put a u) := ⟨put_mono q, rfl, rfl, rfl⟩
          obtain ⟨G3, g3, S3, rs, t3, n3⟩ := bor_all (G1 := G1.put a u) ha S2 (L2.Paired.mapP hs fun p v z => by
            rcases z with z | ⟨b, t, z1, z2, z3, z4⟩
            · exact .inl (z.mono g2.F (List.prefix_refl _))
            · exact .inr ⟨b, t, z1, z2, z3.mono g2.F (List.prefix_refl _) fun _ e _ => e, z4⟩)
          refine ⟨G3, g2.trans g3, S3, .cons ((rr (G1.put a u).F (put_mono q) upd_same).mono g3.F (g3.M ▸ List.prefix_refl _)) rs, fun b ws z => ?_, n3⟩
          have z2 := t3 b ws z
          have z2 : upd G1.F a u b = some (.tup ws) := z2
          by_cases hb : b = a
          · subst hb; rw [upd_same] at z2; exact absurd (Option.some.inj z2) (nt ws)
          · rw [upd_ne hb] at z2; exact z2
mutual
theorem still_RV {F F' : Hp} {M M' : List (Addr × Addr)} (h : ∀ a vs, F a = some (.tup vs) → F' a = some (.tup vs)) : ∀ {v : V} {d : D}, RV F M v d → D.still d = true → RV F' M' v d
  | _, _, .non, _ => .non
  | _, _, .bl b, _ => .bl b
  | _, _, .int i, _ => .int i
  | _, _, .str z o, _ => .str z o
  | _, _, .tup e r, q => .tup (h _ _ e) (still_RVs h r (by simpa [D.still] using q))
  | _, _, .lst _ _, q => by simp [D.still] at q
  | _, _, .dK _ _ _, q => by simp [D.still] at q
  | _, _, .dT _ _ _, q => by simp [D.still] at q
  | _, _, .scr _, q => by simp [D.still] at q
  | _, _, .scrL _, q => by simp [D.still] at q
  | _, _, .scrK _, q => by simp [D.still] at q
  | _, _, .ins _, q => by simp [D.still] at q
theorem still_RVs {F F' : Hp} {M M' : List (Addr × Addr)} (h : ∀ a vs, F a = some (.tup vs) → F' a = some (.tup vs)) : ∀ {vs : List V} {ds : List D}, RVs F M vs ds → D.stills ds = true → RVs F' M' vs ds
  | _, _, .nil, _ => .nil
  | _, _, .cons r rs, q => by
    have q : (D.still _ && D.stills _) = true := q
    rw [Bool.and_eq_true] at q
    exact .cons (still_RV h r q.1) (still_RVs h rs q.2)
end
theorem evK_len {kn : Str → Option (Nat × Nat)} {kw : Kwt} {cn : Str → Option D} {cf : Str → Bool → List D → Is → R Sl} {sc : Scope} {N : List Str} : ∀ {t : Tm} {es : List Expr} {ro : Bool} {fr : Fr} {I I' : Is} {ps : List (D × Kd)}, chkK kn kw t sc N es = true → evK cn cf t ro fr I = .ok ps I' → ps.length = es.length
  | t, [], ro, fr, I, I', ps, h, e => by
    cases t <;> simp only [chkK] at h <;> try (cases h; done)
    simp only [evK] at e
    cases e; rfl
  | t, x :: xs, ro, fr, I, I', ps, h, e => by
    cases t <;> simp only [chkK] at h <;> try (cases h; done)
    rename_i a b
    simp only [Bool.and_eq_true] at h
    simp only [evK] at e
    cases q : ev cn cf a ro fr I with
    | ok p I1 =>
      rw [q] at e
      simp only [R.bind] at e
      cases q2 : evK cn cf b (ro || isInst p.2) fr I1 with
      | ok ps' I2 =>
        rw [q2] at e
        simp only at e
        cases e
        simp [evK_len h.2 q2]
      | exc x I2 => rw [q2] at e; cases e
      | bad => rw [q2] at e; cases e
    | exc x I1 => rw [q] at e; cases e
    | bad => rw [q] at e; cases e
theorem RVs.drop0 {vs : List V} {ds : List D} (r : RVs (fun _ => none) [] vs ds) (n : Nat) (F : Hp) (M : List (Addr × Addr)) : RVs F M (vs.drop n) (ds.drop n) := (r.drop n).still0 F M
theorem Grow.ext (g : Grow G1 G2) : G1.M <+: G2.M := g.M ▸ List.prefix_refl _
theorem Rks.b : ∀ {ps : List (D × Kd)} {vs : List V} {H0 : Hp} {lk : Bool}, Sx L.c lk G fr I σ H → Rks L H0 G H ps vs → ps.any (fun p => decide (p.2 = .cst) || decide (p.2 = .inst)) = false → Paired (RkB { G with aF := [] } H) ps vs
  | [], _, _, _, _, h, _ => by cases h; exact .nil
  | p :: ps, _, _, _, S, h, e => by
    cases h with
    | cons h hs =>
      rw [List.any_cons, Bool.or_eq_false_iff] at e
      refine .cons ?_ (Rks.b S hs e.2)
      have ni : ∀ a ∈ G.aF, a ∉ G.aI := fun a h1 h2 => (List.nodup_append.mp S.nd).2.2 a h1 a h2 rfl
      cases h with
      | fro h => exact .inl h
      | own e1 h m => exact .inr ⟨_, _, rfl, e1, h, ni _ m⟩
      | inst e1 h m => simp at e
      | new e1 h h0 h1 h2 h3 => exact .inr ⟨_, _, rfl, e1, h, h3⟩
      | cst => simp at e
/-- a call, from what its row of values says -/
theorem call_core {P : Program} {w : World} {base : Heap} {k : Nat} {f : Str} {fa : Addr} {fd : FuncData} {ps : List Str} {dvs : List V} {dfl : List D} {gg : Bool → List D → Is → R Sl} (FR : FnR L P w base k f fa fd ps dvs dfl gg) {qs : List (D × Kd)} {vs : List V} {Q : VK}
    (l1 : qs.length ≤ ps.length) (l2 : ps.length ≤ qs.length + dfl.length) (x : Ext ro G H G1 H1) (S1 : Sx L.c ro G1 fr I1 σ H1) (r1 : Rks L H G1 H1 qs vs) (h1 : PR L W ro G H σ fr (callD L.cf f ro qs I1) (RkR L H) Q) :
    spF L ps.length gg (vs ++ dvs.drop (dvs.length - (ps.length - qs.length))) H1 Q (WE W σ) := by
  have ldv : dvs.length = dfl.length := FR.dv.length
  have l3 := FR.dl
  have lvs : vs.length = qs.length := by
    clear h1 l1 l2
    induction r1 with
    | nil => rfl
    | cons _ _ ih => simp [ih]
  have hcf : ∀ ro (as : List D) I, as.length = qs.length → L.cf f ro as I = gg ro (as ++ dfl.drop (dvs.length - (ps.length - qs.length))) I := fun ro as I ha => by
    rw [FR.cf, if_pos (by omega)]
    rw [show as.length + dfl.length - ps.length = dvs.length - (ps.length - qs.length) by omega]
  refine ⟨?_, ?_⟩
  · rw [List.length_append, List.length_drop]; omega
  unfold callD at h1
  cases e3 : frzAll qs with
  | some as =>
    rw [e3] at h1
    simp only at h1
    obtain ⟨G2, gr, x2, S2, ra⟩ := frz_all x S1 (r1.w e3) e3
    have la : as.length = qs.length := by rw [← ra.length]; omega
    have full : RVs G2.F G2.M (vs ++ dvs.drop (dvs.length - (ps.length - qs.length))) (as ++ dfl.drop (dvs.length - (ps.length - qs.length))) := ra.append (FR.dv.drop0 _ _ _)
    refine ⟨ro, { G2 with aF := [] }, I1, _, rfl, call_frame S2, full, ?_⟩
    have fin : ∀ (s : Sl) (v : V) (G' : Gh) (H' : Hp) (I2 : Is), Ext ro { G2 with aF := [] } H1 G' H' → Sx L.c ro G' [] I2 [] H' → (∀ p, s.out = some p → Rk L H1 G' H' p v) → PR L W ro G H σ fr (match s.out with | some p => .ok p I2 | none => .bad) (RkR L H) Q → Q v H' := fun s v G' H' I2 y T rk hp => by
      obtain ⟨y2, T2⟩ := call_back S2 y T
      cases e4 : s.out with
      | none => rw [e4] at hp; exact absurd hp id
      | some p =>
        rw [e4] at hp
        exact hp v _ H' (x2.trans y2) T2 (((rk p e4).back (fun b hb => S2.fr.there b hb) (out_kd e4)).from x2.dom)
    cases ro with
    | true =>
      simp only [cond_true] at h1 ⊢
      rw [hcf _ _ _ la] at h1
      cases e5 : gg true (as ++ dfl.drop (dvs.length - (ps.length - qs.length))) I1 with
      | ok s I' =>
        rw [e5] at h1
        exact fun v G' H' y T rk => fin s v G' H' I1 y T rk h1
      | exc x I' =>
        rw [e5] at h1
        exact fun cls d G' H' y T xr => by
          obtain ⟨y2, T2⟩ := call_back S2 y T
          exact h1 cls d _ H' (x2.trans y2) T2 xr
      | bad => rw [e5] at h1; exact absurd h1 id
    | false =>
      simp only [cond_false] at h1 ⊢
      rw [hcf _ _ _ la] at h1
      cases e5 : gg false (as ++ dfl.drop (dvs.length - (ps.length - qs.length))) I1 with
      | ok s I' =>
        rw [e5] at h1
        exact fun v G' H' y T rk => fin s v G' H' I' y T rk h1
      | exc x I' =>
        rw [e5] at h1
        exact fun cls d G' H' y T xr => by
          obtain ⟨y2, T2⟩ := call_back S2 y T
          exact h1 cls d _ H' (x2.trans y2) T2 xr
      | bad => rw [e5] at h1; exact absurd h1 id
  | none =>
    rw [e3] at h1
    simp only at h1
    cases e4 : qs.any (fun p => decide (p.2 = .cst) || decide (p.2 = .inst)) with
    | true => rw [e4] at h1; exact absurd h1 id
    | false =>
      rw [e4] at h1
      simp only [cond_false] at h1
      have St : Sx L.c true G1 fr I1 σ H1 := by
        cases ro with
        | true => exact S1
        | false => exact S1.weak true
      obtain ⟨G2, gr, S2, ra, t2, n2⟩ := bor_all (G1 := { G1 with aF := [] }) rfl (call_frame St) (Rks.b S1 r1 e4)
      have la : (qs.map (·.1)).length = qs.length := by rw [List.length_map]
      have full : RVs G2.F G2.M (vs ++ dvs.drop (dvs.length - (ps.length - qs.length))) (qs.map (·.1) ++ dfl.drop (dvs.length - (ps.length - qs.length))) := ra.append (FR.dv.drop0 _ _ _)
      refine ⟨true, G2, I1, _, gr.aF, S2, full, ?_⟩
      rw [hcf _ _ _ la] at h1
      have fin : ∀ (G' : Gh) (H' : Hp), Ext true G2 H1 G' H' → Sx L.c true G' [] I1 [] H' → ∃ G3, Ext true G1 H1 G3 H' ∧ Sx L.c ro G3 fr I1 σ H' ∧ (∀ a vs, G'.F a = some (.tup vs) → G3.F a = some (.tup vs)) := fun G' H' y T => by
        have F12 : ∀ b u, G1.F b = some u → G'.F b = some u := fun b u e => y.F b u (gr.F b u e)
        have at3 : ∀ b u, (match G1.F b with | some u => some u | none => (match G'.F b with | some (.tup vs) => some (HO.tup vs) | _ => none)) = some u → G'.F b = some u := fun b u e => by
          split at e
          · rename_i q; cases e; exact F12 _ _ q
          · split at e
            · rename_i q; cases e; exact q
            · cases e
        have x3 : Ext true G1 H1 ⟨fun b => match G1.F b with | some u => some u | none => (match G'.F b with | some (.tup vs) => some (HO.tup vs) | _ => none), G1.M, G1.aF, G1.aI⟩ H' := by
          refine ⟨fun a o e _ t => y.keep a o e (.inl rfl) t, y.dom, y.tp, fun a u e => by show (match G1.F a with | some u => some u | none => _) = _; rw [e], fun a u e => ?_, rfl, fun a h => .inl h, List.prefix_refl _, fun _ => ⟨rfl, rfl⟩⟩
          cases q : G1.F a with
          | some w =>
            have e : (match G1.F a with | some u => some u | none => (match G'.F a with | some (.tup vs) => some (HO.tup vs) | _ => none)) = some u := e
            rw [q] at e
            exact .inl e
          | none =>
            have e : (match G1.F a with | some u => some u | none => (match G'.F a with | some (.tup vs) => some (HO.tup vs) | _ => none)) = some u := e
            have e' := at3 a u e
            rw [q] at e
            simp only at e
            split at e
            · rename_i vs q2
              cases e
              rcases y.Fn a _ e' with z | z
              · have := t2 a _ z
                rw [q] at this; cases this
              · exact .inr z
            · cases e
        refine ⟨_, x3, S1.over x3 (fun a u e => T.sub a u (at3 a u e)) (fun a u e => T.fine a u (at3 a u e)) T.tb, fun a vs e => ?_⟩
        show (match G1.F a with | some u => some u | none => (match G'.F a with | some (.tup vs) => some (HO.tup vs) | _ => none)) = _
        cases q : G1.F a with
        | some w =>
          have := F12 a w q
          rw [e] at this
          exact this.symm ▸ rfl
        | none => simp only [e]
      cases e5 : gg true (qs.map (·.1) ++ dfl.drop (dvs.length - (ps.length - qs.length))) I1 with
      | ok s I' =>
        rw [e5] at h1
        simp only [cond_true]
        intro v G' H' y T rk
        have h1 : PR L W ro G H σ fr (match s with | .val d => bif d.still then .ok (d, .fro) I1 else .bad | _ => .bad) (RkR L H) Q := h1
        cases s with
        | val d =>
          obtain ⟨hs, h1⟩ := PR.cond (show PR L W ro G H σ fr (bif d.still then .ok (d, .fro) I1 else .bad) (RkR L H) Q from h1)
          obtain ⟨G3, x3, S3, t3⟩ := fin G' H' y T
          have r := rk _ rfl
          cases r with
          | fro r => exact h1 v G3 H' (x.trans (x3.weak ro)) S3 (.fro (still_RV t3 r hs))
        | _ => exact absurd h1 id
      | exc x' I' => rw [e5] at h1; exact absurd h1 id
      | bad => rw [e5] at h1; exact absurd h1 id
theorem pe_callA (g : Good L X W) {f : Str} {es : Tm} {e : Expr} {xs : List Expr} {p pos : Pos} {np nd : Nat} (ih : PA X (e :: xs) (ta L W es)) (hx : Gl X f) (hdb : (f == ("__debug__" : Str)) = false) (hm : mkB f = false) (hc : chkK L.kn L.kw es X.env.scope X.N (e :: xs) = true)
    (hk : L.kn f = some (np, nd)) (h1 : xs.length + 1 ≤ np) (h2 : np ≤ xs.length + 1 + nd) (h3 : nd ≤ np) : PE X (.Call (.Name f p) (e :: xs) [] pos) (te L W (.call f es)) := by
  obtain ⟨k, hr, _, _, hfn⟩ := g.k
  obtain ⟨fa, fd, ps, dvs, dfl, gg, e1, e2, FR⟩ := hfn f np nd hk h3
  have ldv : dvs.length = dfl.length := FR.dv.length
  have hst := chkK_star hc
  obtain ⟨ds, hb, hv⟩ := FR.bd (np - (xs.length + 1)) (by omega)
  refine PE.imp (pe_callSD (E := WE W) (g.K ▸ g.mg ▸ FR.ok) hr hx (g.mg ▸ FR.at_ hm) (g.K ▸ FR.kp) (g.K ▸ hb) hv (fun σ => L2.passAt g.tk σ) ih hdb (star_of (hst e List.mem_cons_self) xs X.env) (back_ok fun x hx => hst x (List.mem_cons_of_mem _ hx))) ?_
  rintro σ H Q ⟨ro, G, fr, I, S, h⟩
  simp only [ev] at h
  refine ⟨ro, G, fr, I, S, PR.imp (PR.bind (rel := fun G' H' ps vs => Rks L H G' H' ps vs) h) (fun _ _ _ _ r => r.1) ?_⟩
  rintro vs H1 ⟨qs, I1, G1, hq, x, S1, r1, h1⟩
  have hlen : qs.length = xs.length + 1 := by simpa using evK_len hc hq
  have q := call_core FR (by omega) (by omega) x S1 r1 h1
  rw [show ps.length - qs.length = np - (xs.length + 1) by omega] at q
  exact q
end
end Air
/-! Air: a term's run (4): walks and lists made item by item. -/
namespace Air
open PySem PySem.Spec PyProof.Rows L2
variable [Kf]
section
variable {L : Lg} {W : WX} {X : Cx} {ro ro' : Bool} {G G1 G2 : Gh} {H H1 H2 : Hp} {σ : St} {fr : Fr} {I I1 : Is}
/-! ### what is walked -/
/-- a list at a, for a walk -/
theorem src_lst {ds : List D} {k : Kd} {v : V} {H0 : Hp} {lk : Bool} (S : Sx L.c lk G fr I σ H) (h : Rk L H0 G H (.lst ds, k) v) : ∃ a vs, v = .ref a ∧ H a = some (.lst vs) ∧ RVs G.F G.M vs ds ∧ (k = .inst ∨ a ∉ G.aI) ∧ (k = .own ∨ a ∉ G.aF) := by
  have ni : ∀ a ∈ G.aF, a ∉ G.aI := fun a h1 h2 => (List.nodup_append.mp S.nd).2.2 a h1 a h2 rfl
  have sep : ∀ a u, G.F a = some u → a ∉ G.aF ∧ a ∉ G.aI := fun a u e => ⟨fun z => (by rw [S.sep a (List.mem_append_left _ z)] at e; cases e), fun z => (by rw [S.sep a (List.mem_append_right _ z)] at e; cases e)⟩
  cases h with
  | fro h =>
    cases h with
    | lst e r => exact ⟨_, _, rfl, (S.sub _ _ e).lst, r, .inr (sep _ _ e).2, .inr (sep _ _ e).1⟩
  | own e h m =>
    simp only [Sl.inn, Option.some.injEq] at e
    subst e
    obtain ⟨vs, e, r⟩ := h
    exact ⟨_, vs, rfl, e, r, .inr (ni _ m), .inl rfl⟩
  | inst e h m =>
    simp only [Sl.inn, Option.some.injEq] at e
    subst e
    obtain ⟨vs, e, r⟩ := h
    exact ⟨_, vs, rfl, e, r, .inl rfl, .inr fun z => ni _ z m⟩
  | new e h h0 h1 h2 h3 =>
    simp only [Sl.inn, Option.some.injEq] at e
    subst e
    obtain ⟨vs, e, r⟩ := h
    exact ⟨_, vs, rfl, e, r, .inr h3, .inr h2⟩
theorem wk_lst {ds : List D} {k : Kd} {a : Addr} {vs : List V} {K : PySem.W.Frag} (ha : H a = some (.lst vs)) (r : RVs G.F G.M vs ds) (h1 : k = .inst ∨ a ∉ G.aI) (h2 : k = .own ∨ a ∉ G.aF) : WkR G H (ds, k) (Itl K a) := by
  refine ⟨[a], _, _, r.length ▸ walk_list (xs := vs), fun b hb => ?_, fun G2 H2 _ _ hk => ?_, fun i v H2 H3 G2 hi hF hM hk y => ?_⟩
  · obtain rfl := List.mem_singleton.mp hb
    exact ⟨by rw [ha]; simp, h1, h2⟩
  · exact .of (hk a (by simp) _ ha fun ps z => by cases z)
  · obtain ⟨rfl, y⟩ := y
    obtain ⟨d, e, q⟩ := r.getV y
    exact ⟨d, e, .inl ⟨rfl, q.mono hF hM⟩⟩
theorem wk_tup {ds : List D} {k : Kd} {a : Addr} {vs : List V} {K : PySem.W.Frag} (S : Sx L.c ro G fr I σ H) (ha : G.F a = some (.tup vs)) (r : RVs G.F G.M vs ds) : WkR G H (ds, k) (Itt K a) := by
  have ha' := (S.sub _ _ ha).tup
  refine ⟨[a], _, _, r.length ▸ walk_tup (xs := vs), fun b hb => ?_, fun G2 H2 _ _ hk => ?_, fun i v H2 H3 G2 hi hF hM hk y => ?_⟩
  · obtain rfl := List.mem_singleton.mp hb
    exact ⟨by rw [ha']; simp, .inr fun z => (by rw [S.sep _ (List.mem_append_right _ z)] at ha; cases ha), .inr fun z => (by rw [S.sep _ (List.mem_append_left _ z)] at ha; cases ha)⟩
  · exact .of (hk a (by simp) _ ha' fun ps z => by cases z)
  · obtain ⟨rfl, y⟩ := y
    obtain ⟨d, e, q⟩ := r.getV y
    exact ⟨d, e, .inl ⟨rfl, q.mono hF hM⟩⟩
theorem wk_scr {ns : List Int} {k : Kd} {a : Addr} {o : Obj} {K : PySem.W.Frag} (S : Sx L.c ro G fr I σ H) (ha : G.F a = some (.frz o (.lst (ns.map V.int)))) : WkR G H (ns.map D.int, k) (Itl K a) := by
  have ha' := (S.sub _ _ ha).frz
  have r : RVs G.F G.M (ns.map V.int) (ns.map D.int) := .ints ns
  refine ⟨[a], _, _, r.length ▸ walk_list (xs := ns.map V.int), fun b hb => ?_, fun G2 H2 _ _ hk => ?_, fun i v H2 H3 G2 hi hF hM hk y => ?_⟩
  · obtain rfl := List.mem_singleton.mp hb
    exact ⟨by rw [ha']; simp, .inr fun z => (by rw [S.sep _ (List.mem_append_right _ z)] at ha; cases ha), .inr fun z => (by rw [S.sep _ (List.mem_append_left _ z)] at ha; cases ha)⟩
  · exact .inl (.inr ⟨o, hk a (by simp) _ ha' fun ps z => by cases z⟩)
  · obtain ⟨rfl, y⟩ := y
    obtain ⟨d, e, q⟩ := r.getV y
    exact ⟨d, e, .inl ⟨rfl, q.mono hF hM⟩⟩
theorem wk_scrK {ns : List Int} {k : Kd} {a : Addr} (ha : ∀ H : Hp, SqL Kf.K H a (ns.map V.int)) : WkR G H (ns.map D.int, k) (Itl Kf.K a) := by
  have r : RVs G.F G.M (ns.map V.int) (ns.map D.int) := .ints ns
  refine ⟨[], _, _, r.length ▸ walk_list (xs := ns.map V.int), fun b hb => by simp at hb, fun G2 H2 _ _ hk => ha H2, fun i v H2 H3 G2 hi hF hM hk y => ?_⟩
  obtain ⟨rfl, y⟩ := y
  obtain ⟨d, e, q⟩ := r.getV y
  exact ⟨d, e, .inl ⟨rfl, q.mono hF hM⟩⟩
theorem wk_str {z : Str} {k : Kd} (hz : PyData.strOk z = true) : WkR G H (z.cps.toList.map fun c => D.str ⟨#[c]⟩, k) (Its z) := by
  refine ⟨[], _, _, by rw [List.length_map, Array.length_toList]; exact walk_str, fun b hb => by simp at hb, fun _ _ _ _ _ => trivial, fun i v H2 H3 G2 hi hF hM hk y => ?_⟩
  obtain ⟨rfl, c, e, rfl⟩ := y
  refine ⟨.str ⟨#[c]⟩, by rw [List.getElem?_map, Array.getElem?_toList, e]; rfl, .inl ⟨rfl, .str _ ?_⟩⟩
  exact strOk_sub hz (l := [c]) fun d hd => by
    rw [List.mem_singleton.mp hd]
    exact List.mem_of_getElem? (by rw [Array.getElem?_toList]; exact e)
theorem rngL_len (lo hi : Int) : (rngL lo hi).length = (hi - lo).toNat := by simp [rngL]
theorem wk_rng {lo hi : Int} {k : Kd} : WkR G H (rngL lo hi, k) (Itr lo (hi - lo).toNat) := by
  refine ⟨[], _, _, by rw [rngL_len]; exact walk_range, fun b hb => by simp at hb, fun _ _ _ _ _ => trivial, fun i v H2 H3 G2 h hF hM hk y => ?_⟩
  obtain ⟨rfl, rfl⟩ := y
  rw [rngL_len] at h
  refine ⟨.int (lo + i), ?_, .inl ⟨rfl, .int _⟩⟩
  unfold rngL
  rw [List.getElem?_map, List.getElem?_range h]; rfl
theorem enmL_get : ∀ (xs : List D) (k i : Nat), (enmL k xs)[i]? = xs[i]?.map fun d => .tup [.int ((k + i : Nat) : Int), d]
  | [], k, i => by simp [enmL]
  | x :: xs, k, 0 => by simp [enmL]
  | x :: xs, k, i + 1 => by
    rw [enmL, List.getElem?_cons_succ, List.getElem?_cons_succ, enmL_get xs (k + 1) i]
    rw [show k + 1 + i = k + (i + 1) by omega]
theorem enmL_len : ∀ (xs : List D) (k : Nat), (enmL k xs).length = xs.length
  | [], _ => rfl
  | x :: xs, k => by simp [enmL, enmL_len xs]
theorem wk_enm {ds : List D} {k : Kd} {a : Addr} {vs : List V} {K : PySem.W.Frag} (ha : H a = some (.lst vs)) (r : RVs G.F G.M vs ds) (h1 : k = .inst ∨ a ∉ G.aI) (h2 : k = .own ∨ a ∉ G.aF) : WkR G H (enmL 0 ds, k) (Ite K a) := by
  refine ⟨[a], _, _, by rw [enmL_len, ← r.length]; exact walk_enum (xs := vs), fun b hb => ?_, fun G2 H2 _ _ hk => ?_, fun i v H2 H3 G2 hi hF hM hk y => ?_⟩
  · obtain rfl := List.mem_singleton.mp hb
    exact ⟨by rw [ha]; simp, h1, h2⟩
  · exact .of (hk a (by simp) _ ha fun ps z => by cases z)
  · obtain ⟨T, x, z, e1, e2, e3, e4, e5⟩ := y
    cases e4
    obtain ⟨d, e, q⟩ := r.getV e5
    refine ⟨.tup [.int i, d], by rw [enmL_get, e]; simp, .inr (.inl ⟨T, _, _, e1, e2, e3, rfl, .cons (.int _) (.cons (q.mono hF hM) .nil)⟩)⟩
theorem zpL_get : ∀ (xs ys : List D) (i : Nat) (x y : D), xs[i]? = some x → ys[i]? = some y → (zpL xs ys)[i]? = some (.tup [x, y])
  | [], _, i, _, _, h, _ => by simp at h
  | _ :: _, [], i, _, _, _, h => by simp at h
  | x :: xs, y :: ys, 0, _, _, h1, h2 => by simp at h1 h2; subst h1 h2; rfl
  | x :: xs, y :: ys, i + 1, a, b, h1, h2 => by
    rw [zpL, List.getElem?_cons_succ]
    exact zpL_get xs ys i a b (by simpa using h1) (by simpa using h2)
theorem zpL_len : ∀ (xs ys : List D), (zpL xs ys).length = min xs.length ys.length
  | [], ys => by simp [zpL]
  | x :: xs, [] => by simp [zpL]
  | x :: xs, y :: ys => by simp only [zpL, List.length_cons, zpL_len xs ys]; omega
theorem wk_zp {ds es : List D} {k : Kd} {a b : Addr} {vs ws : List V} {K : PySem.W.Frag} (ha : H a = some (.lst vs)) (r : RVs G.F G.M vs ds) (h1 : k = .inst ∨ a ∉ G.aI) (h2 : k = .own ∨ a ∉ G.aF)
    (hb : H b = some (.lst ws)) (q : RVs G.F G.M ws es) (h3 : k = .inst ∨ b ∉ G.aI) (h4 : k = .own ∨ b ∉ G.aF) : WkR G H (zpL ds es, k) (Itz K a b) := by
  refine ⟨[a, b], _, _, walk_zip (xs := vs) (ys := ws) (by rw [zpL_len, ← r.length, ← q.length]), fun c hc => ?_, fun G2 H2 _ _ hk => ?_, fun i v H2 H3 G2 hi hF hM hk y => ?_⟩
  · simp only [List.mem_cons, List.not_mem_nil, or_false] at hc
    rcases hc with rfl | rfl
    · exact ⟨by rw [ha]; simp, h1, h2⟩
    · exact ⟨by rw [hb]; simp, h3, h4⟩
  · exact ⟨.of (hk a (by simp) _ ha fun ps z => by cases z), .of (hk b (by simp) _ hb fun ps z => by cases z)⟩
  · obtain ⟨T, x, z, e1, e2, e3, e4, e5⟩ := y
    obtain ⟨d, g1, g2⟩ := r.getV e4
    obtain ⟨e, g3, g4⟩ := q.getV e5
    exact ⟨.tup [d, e], zpL_get _ _ _ _ _ g1 g3, .inr (.inl ⟨T, _, _, e1, e2, e3, rfl, .cons (g2.mono hF hM) (.cons (g4.mono hF hM) .nil)⟩)⟩
/-! ### targets -/
theorem sto_of {fb : Str → Bool} (hf : ∀ x, fb x = true → X.fn x = true) {x : Str} (h : stoB fb X.env.scope x = true) : Loc X.env.scope x ∧ (X.fn x = true ∨ X.env.scope.names.lookup x = some .local) := by
  unfold stoB at h
  split at h
  · rename_i e; exact ⟨.inl e, .inr e⟩
  · rename_i e; exact ⟨.inr e, .inl (hf x h)⟩
  · cases h
theorem pgs_names {N : List Str} (hN : X.N = N) (hnd : X.N.Nodup) {fb : Str → Bool} (hf : ∀ x, fb x = true → X.fn x = true) : ∀ {is : List Nat} {es : List Expr}, is.length = es.length → ((is.zip es).all fun p => match p.2 with | .Name x _ => decide (N[p.1]? = some x) && stoB fb X.env.scope x | _ => false) = true →
    PGs X es (fun vs σ H Q => vs.length = is.length ∧ Q ((is.zip vs).foldl (fun σ p => σ.set p.1 (some p.2)) σ) H) ∧ (assignEach es X.env).length = es.length ∧ (assignEach es X.env).findIdx? (·.1) = none
  | [], [], _, _ => by
    refine ⟨⟨fun pins s σ H vs us Q I r h => pgs_nil.run pins s σ H vs us Q I r ⟨List.length_eq_zero_iff.mp h.1, ?_⟩⟩, rfl, rfl⟩
    have := List.length_eq_zero_iff.mp h.1
    subst this
    exact h.2
  | [], _ :: _, h, _ => by simp at h
  | _ :: _, [], h, _ => by simp at h
  | i :: is, e :: es, hl, h => by
    rw [List.zip_cons_cons, List.all_cons, Bool.and_eq_true] at h
    obtain ⟨h1, h2⟩ := h
    obtain ⟨g1, g2, g3⟩ := pgs_names hN hnd hf (by simpa using hl) h2
    cases e with
    | Name x pos =>
      simp only [Bool.and_eq_true, decide_eq_true_eq] at h1
      have pn : PG X (.Name x pos) (gName i) := pg_name hnd (hN ▸ h1.1) (sto_of hf h1.2).1 (sto_of hf h1.2).2
      refine ⟨⟨fun pins s σ H vs us Q I r h => (pgs_cons pn g1 (by rfl)).run pins s σ H vs us Q I r ?_⟩, ?_, ?_⟩
      · obtain ⟨q1, q2⟩ := h
        cases vs with
        | nil => simp at q1
        | cons v vs => exact ⟨v, vs, rfl, by simpa using q1, q2⟩
      · show (assignEach es X.env).length + 1 = es.length + 1
        rw [g2]
      · show (List.findIdx? (·.1) ((false, _) :: assignEach es X.env)) = none
        rw [List.findIdx?_cons, if_neg (by simp), g3]; rfl
    | _ => cases h1
/-- a target takes a value -/
def gA (K : PySem.W.Frag) (tg : Tg) : TG := fun v σ H Q => match tg with
  | .nm i => Q (σ.set i (some v)) H
  | .tp is => ∃ a vs, v = .ref a ∧ (SqT K H a vs ∨ SqL K H a vs) ∧ vs.length = is.length ∧ Q ((is.zip vs).foldl (fun σ p => σ.set p.1 (some p.2)) σ) H
theorem pg_A (hc : X.calm = true) (hnd : X.N.Nodup) {fb : Str → Bool} (hf : ∀ x, fb x = true → X.fn x = true) {tg : Tg} {e : Expr} (h : tgB fb X.env.scope X.N tg e = true) : PG X e (gA X.K tg) := by
  cases tg with
  | nm i =>
    cases e with
    | Name x pos =>
      simp only [tgB, Bool.and_eq_true, decide_eq_true_eq] at h
      exact pg_name hnd h.1 (sto_of hf h.2).1 (sto_of hf h.2).2
    | _ => cases h
  | tp is =>
    cases e with
    | Tuple es k pos =>
      simp only [tgB, Bool.and_eq_true, decide_eq_true_eq] at h
      obtain ⟨g1, g2, g3⟩ := pgs_names rfl hnd hf h.1 h.2
      refine ⟨fun pins s σ H v u Q I r q => ?_⟩
      obtain ⟨a, vs, e1, e2 | e2, e3, e4⟩ := q
      · exact (pg_tup (n := es.length) hc g1 g2 g3).run pins s σ H v u Q I r ⟨a, vs, e1, e2, by rw [e3]; exact h.1, e3, e4⟩
      · exact (pg_unl (n := es.length) hc g1 g2 g3).run pins s σ H v u Q I r ⟨a, vs, e1, e2, by rw [e3]; exact h.1, e3, e4⟩
    | _ => cases h
/-- a slot of the frame takes a value that stands still -/
theorem FrR.put {F : Hp} {M : List (Addr × Addr)} {as : List Addr} (h : FrR F M H σ fr as) (i : Nat) {v : V} {d : D} (r : RV F M v d) : ∃ bs, FrR F M H (σ.set i (some v)) (fr.set i (.val d)) bs ∧ bs.Sublist as := by
  induction h generalizing i with
  | nil => exact ⟨[], .nil, .refl _⟩
  | cons h0 h1 ih =>
    rename_i as1 bs1 σ1 fr1
    cases i with
    | zero => exact ⟨[] ++ bs1, .cons (as := []) ⟨rfl, v, rfl, r⟩ h1, List.sublist_append_right _ _⟩
    | succ i =>
      obtain ⟨bs, h2, h3⟩ := ih i
      exact ⟨as1 ++ bs, .cons h0 h2, (List.Sublist.refl _).append h3⟩
theorem FrR.wipe1 {F : Hp} {M : List (Addr × Addr)} {as : List Addr} (h : FrR F M H σ fr as) (i : Nat) : ∃ bs, FrR F M H (σ.set i none) (fr.set i .no) bs ∧ bs.Sublist as := by
  induction h generalizing i with
  | nil => exact ⟨[], .nil, .refl _⟩
  | cons h0 h1 ih =>
    rename_i as1 bs1 σ1 fr1
    cases i with
    | zero => exact ⟨[] ++ bs1, .cons (s := .no) rfl h1, List.sublist_append_right _ _⟩
    | succ i =>
      obtain ⟨bs, h2, h3⟩ := ih i
      exact ⟨as1 ++ bs, .cons h0 h2, (List.Sublist.refl _).append h3⟩
theorem FrR.wipe {F : Hp} {M : List (Addr × Addr)} {as : List Addr} (h : FrR F M H σ fr as) : ∀ (own : List (Str × Nat)), ∃ bs, FrR F M H (L2.wipe σ (own.map (·.2))) (wipeF fr own) bs ∧ bs.Sublist as
  | [] => ⟨as, h, .refl _⟩
  | p :: own => by
    obtain ⟨bs, h1, h2⟩ := FrR.wipe h own
    obtain ⟨cs, h3, h4⟩ := h1.wipe1 p.2
    exact ⟨cs, h3, h4.trans h2⟩
/-- the frame is another one, with fewer containers of its own -/
theorem Sx.frame {σ' : St} {fr' : Fr} {bs : List Addr} (S : Sx L.c ro G fr I σ H) (h : FrR G.F G.M H σ' fr' bs) (hs : bs.Sublist G.aF) : Sx L.c ro { G with aF := bs } fr' I σ' H :=
  ⟨h, S.is, S.nd.sublist (hs.append (.refl _)), fun a ha => S.sep a ((hs.append (.refl _)).subset ha), S.sub, S.fine, S.tb⟩
theorem asg_fold {F : Hp} {M : List (Addr × Addr)} : ∀ {is : List Nat} {vs : List V} {ds : List D} {σ : St} {fr : Fr} {as : List Addr}, FrR F M H σ fr as → RVs F M vs ds → ∃ bs, FrR F M H ((is.zip vs).foldl (fun σ p => σ.set p.1 (some p.2)) σ) ((is.zip ds).foldl (fun fr p => fr.set p.1 (.val p.2)) fr) bs ∧ bs.Sublist as
  | [], _, _, _, _, as, h, _ => by simp only [List.zip_nil_left, List.foldl_nil]; exact ⟨as, h, .refl _⟩
  | i :: is, _, _, _, _, as, h, .nil => by simp only [List.zip_nil_right, List.foldl_nil]; exact ⟨as, h, .refl _⟩
  | i :: is, _, _, _, _, as, h, .cons r rs => by
    obtain ⟨bs, h1, h2⟩ := h.put i r
    obtain ⟨cs, h3, h4⟩ := asg_fold (is := is) h1 rs
    exact ⟨cs, by simpa only [List.zip_cons_cons, List.foldl_cons] using h3, h4.trans h2⟩
theorem set_wipe {σ : St} {v : Option V} {i : Nat} : ∀ {vs : List Nat}, i ∈ vs → L2.wipe (σ.set i v) vs = L2.wipe σ vs
  | [], h => by simp at h
  | j :: vs, h => by
    by_cases hj : i = j
    · subst hj
      by_cases hm : i ∈ vs
      · unfold L2.wipe; rw [set_wipe hm]
      · unfold L2.wipe
        have : ∀ vs : List Nat, i ∉ vs → L2.wipe (σ.set i v) vs = (L2.wipe σ vs).set i v := fun vs hm => by
          induction vs with
          | nil => rfl
          | cons k vs ih =>
            have hk : k ≠ i := fun e => hm (by simp [e])
            have hn : i ∉ vs := fun e => hm (by simp [e])
            unfold L2.wipe
            rw [ih hn, List.set_comm _ _ hk.symm]
        rw [this vs hm, List.set_set]
    · have hm : i ∈ vs := (List.mem_cons.mp h).resolve_left hj
      unfold L2.wipe; rw [set_wipe hm]
theorem fold_wipe {vs : List Nat} : ∀ {is : List Nat} {ws : List V} {σ : St}, (∀ i ∈ is, i ∈ vs) → L2.wipe ((is.zip ws).foldl (fun σ p => σ.set p.1 (some p.2)) σ) vs = L2.wipe σ vs
  | [], ws, σ, _ => by simp
  | i :: is, [], σ, _ => by simp
  | i :: is, w :: ws, σ, h => by
    rw [List.zip_cons_cons, List.foldl_cons, fold_wipe (is := is) fun j hj => h j (List.mem_cons_of_mem _ hj), set_wipe (h i List.mem_cons_self)]
theorem wipe_wipe {σ : St} : ∀ {vs ws : List Nat}, (∀ i ∈ ws, i ∈ vs) → L2.wipe (L2.wipe σ ws) vs = L2.wipe σ vs
  | vs, [], _ => rfl
  | vs, w :: ws, h => by
    show L2.wipe ((L2.wipe σ ws).set w none) vs = _
    rw [set_wipe (h w List.mem_cons_self), wipe_wipe fun i hi => h i (List.mem_cons_of_mem _ hi)]
/-- a target takes an item: gA's reading -/
theorem gA_run {K : PySem.W.Frag} {tg : Tg} {d : D} {v : V} {fr' : Fr} {Q : St → Hp → Prop} (S : Sx L.c ro G fr I σ H) (r : RV G.F G.M v d) (e : asgT tg d fr = some fr') (h : ∀ σ' bs, FrR G.F G.M H σ' fr' bs → bs.Sublist G.aF → (∀ vs, (∀ i ∈ tg.ix, i ∈ vs) → L2.wipe σ' vs = L2.wipe σ vs) → Q σ' H) : gA K tg v σ H Q := by
  cases tg with
  | nm i =>
    cases e
    obtain ⟨bs, h1, h2⟩ := S.fr.put i r
    exact h _ _ h1 h2 fun vs hv => set_wipe (hv i (by simp [Tg.ix]))
  | tp is =>
    cases d with
    | tup ds =>
      simp only [asgT] at e
      cases q : decide (is.length = ds.length) with
      | false => rw [q] at e; cases e
      | true =>
        rw [q] at e
        cases e
        cases r with
        | tup e1 r =>
          obtain ⟨bs, h1, h2⟩ := asg_fold (is := is) S.fr r
          exact ⟨_, _, rfl, .inl (.of (S.sub _ _ e1).tup), by rw [r.length, of_decide_eq_true q], h _ _ h1 h2 fun vs hv => fold_wipe hv⟩
    | lst ds =>
      simp only [asgT] at e
      cases q : decide (is.length = ds.length) with
      | false => rw [q] at e; cases e
      | true =>
        rw [q] at e
        cases e
        cases r with
        | lst e1 r =>
          obtain ⟨bs, h1, h2⟩ := asg_fold (is := is) S.fr r
          exact ⟨_, _, rfl, .inr (.of (S.sub _ _ e1).lst), by rw [r.length, of_decide_eq_true q], h _ _ h1 h2 fun vs hv => fold_wipe hv⟩
    | _ => cases e
/-- back from a frame of the same names -/
theorem frame_back {ro' : Bool} {I2 : Is} {bs : List Addr} {σ2 : St} {fr2 : Fr} (S : Sx L.c ro G fr I σ H) (x : Ext ro' { G with aF := bs } H G2 H2) (S2 : Sx L.c ro' G2 fr2 I2 σ2 H2) : Ext ro' G H { G2 with aF := G.aF } H2 ∧ Sx L.c ro' { G2 with aF := G.aF } fr I2 σ H2 := by
  have ni : ∀ a ∈ G.aF, a ∉ G.aI := fun a h1 h2 => (List.nodup_append.mp S.nd).2.2 a h1 a h2 rfl
  have kp : ∀ a ∈ G.aF, Kp H H2 a := fun a ha o e t => x.keep a o e (.inr (ni a ha)) t
  refine ⟨⟨x.keep, x.dom, x.tp, x.F, x.Fn, rfl, x.aI, x.M, x.ro⟩, ⟨S.fr.mono x.F x.M kp, S2.is, ?_, fun a ha => ?_, S2.sub, S2.fine, S2.tb⟩⟩
  · refine List.nodup_append.mpr ⟨(List.nodup_append.mp S.nd).1, (List.nodup_append.mp S2.nd).2.1, fun a h1 b h2 e => ?_⟩
    subst e
    exact (x.aI a h2).elim (ni a h1) fun z => S.fr.there a h1 z
  · show G2.F a = none
    rcases List.mem_append.mp ha with h | h
    · cases q : G2.F a with
      | none => rfl
      | some u =>
        rcases x.Fn a u q with z | z
        · have := S.sep a (List.mem_append_left _ h)
          rw [this] at z; cases z
        · exact absurd z (S.fr.old a h)
    · exact S2.sep a (List.mem_append_right _ h)
end
end Air
/-! Air: a term's run (5): the main theorem. -/
namespace Air
open PySem PySem.Spec PyProof.Rows L2
variable [Kf]
abbrev noW : WX := fun _ _ _ _ => False
section
variable {L : Lg} {W : WX} {X : Cx} {ro ro' : Bool} {G G1 G2 : Gh} {H H1 H2 : Hp} {σ : St} {fr : Fr} {I I1 : Is}
/-- the same, no lambda within -/
def Lg.nl (L : Lg) : Lg := { L with kn := knO L.kn }
theorem nl_kn {L : Lg} {x : Str} {p : Nat × Nat} (h : L.nl.kn x = some p) : L.kn x = some p := by
  have h : (if x = "<lambda>" ∨ x = "House" then none else L.kn x) = some p := h
  split at h
  · cases h
  · exact h
theorem nl_no {L : Lg} (p : Nat × Nat) : ¬ L.nl.kn "<lambda>" = some p := by
  intro h
  have h : (if ("<lambda>" : Str) = "<lambda>" ∨ ("<lambda>" : Str) = "House" then none else L.kn "<lambda>") = some p := h
  rw [if_pos (.inl rfl)] at h; cases h
theorem nl_noH {L : Lg} (p : Nat × Nat) : ¬ L.nl.kn "House" = some p := by
  intro h
  have h : (if ("House" : Str) = "<lambda>" ∨ ("House" : Str) = "House" then none else L.kn "House") = some p := h
  rw [if_pos (.inr rfl)] at h; cases h
theorem Good.blk (g : Good L X W) (s : Shared) (H : Hp) (scope : Scope) (cenv : Env) (fp : List Addr) : Good L.nl (X.blk s H scope cenv fp) noW where
  K := g.K
  mg := g.mg
  calm := g.calm
  nd := g.nd
  hu := g.hu
  tk := fun u s' x => by
    obtain ⟨a, B, sI, pins, σ, H, cls, d, _, _, _, _, _, _, _, _, w⟩ := x
    exact w
  po := PassesOwn.never
  bi := g.bi
  cn := fun x h => g.cn x (nl_kn h)
  xc := fun c h => g.xc c (nl_kn h)
  lam := fun h => absurd h (nl_no _)
  tel := fun h => g.tel (nl_kn h)
  fl := fun f h => g.fl f (nl_kn h)
  hs := fun h => absurd h (nl_noH _)
  k := by
    obtain ⟨k, h1, _, _, h2⟩ := g.k
    exact ⟨k, h1, fun h => absurd h (nl_no _), fun h => absurd h (nl_noH _), fun x np nd h hd => by
      obtain ⟨f, fd, ps, dvs, dfl, gg, e1, e2, F⟩ := h2 x np nd (nl_kn h) hd
      exact ⟨f, fd, ps, dvs, dfl, gg, e1, e2, F.kn⟩⟩
theorem quiet_ok {α β : Type} {r : R α} {f : α → Is → R β} {rel : Gh → Hp → β → V → Prop} {Q : VK} (h : PR L W ro G H σ fr (r.quiet.bind f) rel Q) : ∃ a I', r = .ok a I' ∧ PR L W ro G H σ fr (f a I') rel Q := by
  cases r with
  | ok a I' => exact ⟨a, I', rfl, h⟩
  | exc x I' => exact absurd h id
  | bad => exact absurd h id
theorem PR.okay {α β : Type} {r : R α} {a : α} {I' : Is} {rel : Gh → Hp → α → β → Prop} {Q : β → Hp → Prop} (e : r = .ok a I') (h : ∀ v G' H', Ext ro G H G' H' → Sx L.c ro G' fr I' σ H' → rel G' H' a v → Q v H') : PR L W ro G H σ fr r rel Q := by
  subst e; exact h
theorem lc_core {K : PySem.W.Frag} {own : List (Str × Nat)} {elt cond : Tm} {tg : Tg} {p : List D × Kd} {J : It} (hix : ∀ j ∈ tg.ix, j ∈ own.map (·.2)) {σ : St} {H : Hp} {Q : VK} (x : Ext ro G H G1 H1) (S1 : Sx L.c ro G1 fr I1 σ H1) (wk : WkR G1 H1 p J)
    (h1 : PR L W ro G H σ fr (((lcL (fun fr I => (evC L.cn L.cf cond (ro || isInst p.2) fr I).bind fun t I => bif t then (ev L.cn L.cf elt (ro || isInst p.2) fr I).fz fun d I => .ok (some d) I else .ok none I) tg (wipeF fr own) p.1 I1).quiet).bind fun ds I => bif decide (ds.length ≤ lim) then .ok (.lst ds, .new) I else .bad) (RkR L H) Q) :
    tLc (fun _ _ R => R J H1) (gA K tg) (tc L noW cond) (te L noW elt) (own.map (·.2)) σ H Q := by
  obtain ⟨ds, I2, hl, h2⟩ := quiet_ok h1
  obtain ⟨hlim, h2⟩ := PR.cond h2
  have hlim := of_decide_eq_true hlim
  intro Da hD
  obtain ⟨src, Gd, Y, w, w1, w2, w3⟩ := wk
  generalize hro : (ro || isInst p.2) = ro' at hl
  generalize hstep : (fun (fr : Fr) (I : Is) => (evC L.cn L.cf cond ro' fr I).bind fun t I => bif t then (ev L.cn L.cf elt ro' fr I).fz fun d I => .ok (some d) I else .ok none I) = step at hl
  have S1' : Sx L.c ro' G1 fr I1 σ H1 := by
    cases ro' with
    | false => simp only [Bool.or_eq_false_iff] at hro; rw [hro.1] at S1; exact S1
    | true => cases ro with
      | true => exact S1
      | false => exact S1.weak true
  have srcK : ∀ {Gc : Gh} {Hc : Hp}, Ext ro' G1 H1 Gc Hc → ∀ a ∈ src, Kp H1 Hc a := fun y a ha o e t => y.keep a o e (by
    rcases (w1 a ha).2.1 with z | z
    · left; rw [← hro, z]; simp [isInst]
    · exact .inr z) t
  -- the state between two turns
  let Pv : Nat → Hp → Prop := fun j Hc => ∃ (Gc : Gh) (Ic : Is) (vs : List V) (as rs : List D), Ext ro' G1 H1 Gc Hc ∧ Sx L.c ro' Gc fr Ic σ Hc ∧ Hc Da = some (.lst vs) ∧ RVs Gc.F Gc.M vs as ∧ Gc.F Da = none ∧ Da ∉ Gc.aF ∧ Da ∉ Gc.aI ∧
    lcL step tg (wipeF fr own) (p.1.drop j) Ic = .ok rs I2 ∧ ds = as ++ rs
  refine lc_it w (fun j Hc => Pv j Hc) ?_ ?_ ?_ ?_
  · exact ⟨G1, I1, [], [], ds, Ext.new hD, S1'.new hD, upd_same, .nil, S1.notF hD, S1.notFr hD, S1.notIs hD, hl, rfl⟩
  · rintro j Hc _ ⟨Gc, Ic, vs, as, rs, y, _⟩
    exact w2 Gc Hc y.F y.M (srcK y)
  · rintro j v Hc H' hj ⟨Gc, Ic, vs, as, rs, y, Sc, cD, cr, nF, nA, nI, hrs, hds⟩ hy
    obtain ⟨d, hd, yl⟩ := w3 j v Hc H' Gc hj y.F y.M (srcK y) hy
    -- the item
    obtain ⟨G3, y3, S3, r3, c3, f3, a3, i3, cr3⟩ : ∃ G3, Ext ro' G1 H1 G3 H' ∧ Sx L.c ro' G3 fr Ic σ H' ∧ RV G3.F G3.M v d ∧ H' Da = some (.lst vs) ∧ G3.F Da = none ∧ Da ∉ G3.aF ∧ Da ∉ G3.aI ∧ RVs G3.F G3.M vs as := by
      rcases yl with ⟨rfl, r⟩ | ⟨T, ws, es, rfl, hT, rfl, rfl, r⟩ | ⟨T, ws, es, rfl, hT, rfl, rfl, r⟩
      · exact ⟨Gc, y, Sc, r, cD, nF, nA, nI, cr⟩
      · have hTD : Da ≠ T := ne_of_none cD hT
        refine ⟨Gc.put T (.tup ws), (y.trans (Ext.new hT)).put (y.dom _ hT) (Sc.notF hT), (Sc.new hT).freeze trivial (.inl upd_same) (Sc.notFr hT) (Sc.notIs hT) (Sc.notF hT), .tup upd_same (r.mono (put_mono (Sc.notF hT)) (List.prefix_refl _)), by rw [upd_ne hTD]; exact cD, ?_, nA, nI, cr.mono (put_mono (Sc.notF hT)) (List.prefix_refl _)⟩
        show upd Gc.F T _ Da = none
        rw [upd_ne hTD]; exact nF
      · obtain ⟨G3, g3, S3, r3, ne3, x3, _⟩ := tup_known Sc hT r
        have hTD : Da ≠ T := fun z => by rw [z, hT] at cD; cases cD
        exact ⟨G3, x3 y, S3, r3, cD, (ne3 Da hTD).trans nF, g3.aF ▸ nA, g3.aI ▸ nI, cr.mono g3.F (g3.M ▸ List.prefix_refl _)⟩
    have hdrop : p.1.drop j = d :: p.1.drop (j + 1) := by
      obtain ⟨hj2, e⟩ := List.getElem?_eq_some_iff.mp hd
      rw [List.drop_eq_getElem_cons hj2, e]
    rw [hdrop] at hrs
    unfold lcL at hrs
    cases ea : asgT tg d (wipeF fr own) with
    | none => rw [ea] at hrs; cases hrs
    | some fr' =>
      rw [ea] at hrs
      simp only at hrs
      obtain ⟨bs0, fw, sw⟩ := S3.fr.wipe own
      have Sw := S3.frame fw sw
      refine gA_run Sw r3 ea fun σ' bs fb sb wp => ⟨?_, ?_⟩
      · rw [wp _ hix, wipe_wipe fun i hi => hi]
      · have S4 : Sx L.c ro' { G3 with aF := bs } fr' Ic σ' H' := S3.frame fb (sb.trans sw)
        cases es : step fr' Ic with
        | exc x' I' => rw [es] at hrs; cases hrs
        | bad => rw [es] at hrs; cases hrs
        | ok o I7 =>
        rw [es] at hrs
        simp only [R.bind] at hrs
        have es : (evC L.cn L.cf cond ro' fr' Ic).bind (fun t I => bif t then (ev L.cn L.cf elt ro' fr' I).fz fun d I => .ok (some d) I else .ok none I) = .ok o I7 := by rw [← es, ← hstep]
        cases er : lcL step tg (wipeF fr own) (p.1.drop (j + 1)) I7 with
        | exc x' I' => rw [er] at hrs; cases hrs
        | bad => rw [er] at hrs; cases hrs
        | ok ys I8 =>
        rw [er] at hrs
        simp only [R.ok.injEq] at hrs
        obtain ⟨rfl, rfl⟩ := hrs
        cases ec : evC L.cn L.cf cond ro' fr' Ic with
        | exc x' I' => rw [ec] at es; cases es
        | bad => rw [ec] at es; cases es
        | ok tb I3 =>
          rw [ec] at es
          have es : (bif tb then (ev L.cn L.cf elt ro' fr' I3).fz fun d I => .ok (some d) I else .ok none I3) = .ok o I7 := es
          refine ⟨ro', _, fr', Ic, S4, PR.okay ec fun b G5 H5 y5 S5 hb => ?_⟩
          subst hb
          obtain ⟨z5, T5⟩ := frame_back S3 y5 S5
          have D5 : H5 Da = some (.lst vs) := y5.keep Da _ c3 (.inr i3) fun ps z => by cases z
          have nD : H' Da ≠ none := by rw [c3]; simp
          have nO : ¬ Old H' Da := by rintro (z | ⟨_, z⟩) <;> rw [c3] at z <;> cases z
          have f5 : G5.F Da = none := by
            cases q : G5.F Da with
            | none => rfl
            | some u =>
              rcases y5.Fn Da u q with z | z
              · have z : G3.F Da = some u := z
                rw [f3] at z; cases z
              · exact absurd z nO
          have i5 : Da ∉ G5.aI := fun z => (y5.aI Da z).elim i3 nD
          cases b with
          | false =>
            rw [if_neg Bool.false_ne_true]
            simp only [cond_false, R.ok.injEq] at es
            obtain ⟨rfl, rfl⟩ := es
            exact ⟨_, I3, vs, as, ys, y3.trans z5, T5, D5, cr3.mono y5.F y5.M, f5, a3, i5, er, by rw [hds]; rfl⟩
          | true =>
            rw [if_pos rfl]
            simp only [cond_true] at es
            cases ee : ev L.cn L.cf elt ro' fr' I3 with
            | exc x' I' => rw [ee] at es; cases es
            | bad => rw [ee] at es; cases es
            | ok q I4 =>
              rw [ee] at es
              simp only [R.fz, R.bind] at es
              cases ef : frzK q with
              | none => rw [ef] at es; cases es
              | some dd =>
                rw [ef] at es
                simp only [R.ok.injEq] at es
                obtain ⟨rfl, rfl⟩ := es
                refine ⟨ro', G5, fr', I3, S5, PR.okay ee fun v6 G6 H6 y6 S6 r6 => ?_⟩
                obtain ⟨w6, hdd⟩ := r6.w ef
                have Dn5 : H5 Da ≠ none := by rw [D5]; simp
                have D6 : H6 Da = some (.lst vs) := y6.keep Da _ D5 (.inr i5) fun ps z => by cases z
                obtain ⟨G7, g7, x7, S7, r7⟩ := frz_one y6 S6 w6
                have y7 := y5.trans x7
                obtain ⟨z7, T7⟩ := frame_back S3 y7 S7
                have i7 : Da ∉ G7.aI := fun z => (y7.aI Da z).elim i3 nD
                have f7 : G7.F Da = none := by
                  cases q : G7.F Da with
                  | none => rfl
                  | some u =>
                    rcases y7.Fn Da u q with z | z
                    · have z : G3.F Da = some u := z
                      rw [f3] at z; cases z
                    · exact absurd z nO
                refine ⟨vs, D6, ?_, ?_⟩
                · have l1 := cr.length
                  have l2 : ds.length = as.length + (ys.length + 1) := by rw [hds]; simp
                  rw [← lim_eq]; omega
                · -- the list has one more
                  have nT : ∀ o, H6 Da = some o → (∀ ps, o ≠ .tbl ps) := fun o e ps z => by rw [D6] at e; rw [z] at e; cases e
                  refine ⟨{ G7 with aF := G3.aF }, I4, vs ++ [v6], as ++ [dd], ys, ?_, ?_, upd_same, (cr3.mono y7.F y7.M).append (.cons (hdd ▸ r7) .nil), f7, a3, i7, er, by rw [hds]; simp⟩
                  · have b0 := y3.trans z7
                    refine ⟨fun a o e hk tb => ?_, fun a e => ?_, fun a ws e => ?_, b0.F, b0.Fn, b0.aF, b0.aI, b0.M, b0.ro⟩
                    · rw [upd_ne (ne_of_none e hD)]
                      exact b0.keep a o e hk tb
                    · by_cases ha : a = Da
                      · subst ha; exact hD
                      · rw [upd_ne ha] at e; exact b0.dom a e
                    · by_cases ha : a = Da
                      · subst ha; exact .inl hD
                      · rw [upd_ne ha] at e; exact b0.tp a ws e
                  · have kp : ∀ a, a ≠ Da → Kp H6 (upd H6 Da (.lst (vs ++ [v6]))) a := fun a ha o e _ => by rw [upd_ne ha]; exact e
                    refine ⟨T7.fr.mono (fun _ _ e => e) (List.prefix_refl _) fun a ha => kp a fun z => a3 (z ▸ ha), T7.is.mono (fun _ _ e => e) (List.prefix_refl _) (fun a ha => kp a fun z => i7 (z ▸ ha)) (fun a p e => ?_), T7.nd, T7.sep, fun a u e => ?_, T7.fine, ?_⟩
                    · rw [upd_ne]
                      · exact e
                      · rintro rfl; rw [D6] at e; cases e
                    · refine (T7.sub a u e).mono fun o q => ?_
                      rw [upd_ne]
                      · exact q
                      · rintro rfl
                        have e : G7.F a = some u := e
                        rw [f7] at e; cases e
                    · intro q hq
                      obtain ⟨ps, h1, h2, h3⟩ := T7.tb q hq
                      refine ⟨ps, ?_, h2, fun pos cv hc => ?_⟩
                      · rw [upd_ne]
                        · exact h1
                        · rintro z; rw [z, D6] at h1; cases h1
                      · obtain ⟨c, e1, e2⟩ := h3 pos cv hc
                        refine ⟨c, e1, ?_⟩
                        rw [upd_ne]
                        · exact e2
                        · rintro rfl
                          rw [D6] at e2
                          unfold LamX.CodeO at e2
                          cases e2
  · rintro Hc ⟨Gc, Ic, vs, as, rs, y, Sc, cD, cr, nF, nA, nI, hrs, hds⟩
    rw [List.drop_length] at hrs
    unfold lcL at hrs
    simp only [R.ok.injEq] at hrs
    obtain ⟨rfl, rfl⟩ := hrs
    rw [List.append_nil] at hds
    subst hds
    have hI : ro' = true → ro = false → Ic = I1 := fun h1 _ => by
      subst h1
      have k := keeps_lcL (I := I1) (tg := tg) (fr := wipeF fr own) (step := fun fr I => (evC L.cn L.cf cond true fr I).bind fun t I => bif t then (ev L.cn L.cf elt true fr I).fz fun d I => .ok (some d) I else .ok none I) (fun fr => keeps_bind ((ev_keeps cond).2.2.2.1 _ _) fun t => keeps_cond (keeps_bind ((ev_keeps elt).1 _ _) fun q => by split <;> first | trivial | exact keeps_ok _ _) (keeps_ok _ _)) p.1
      rw [hstep, hl] at k
      exact k
    have fin : Ext ro G H Gc Hc ∧ Sx L.c ro Gc fr Ic σ Hc := by
      cases ro with
      | true =>
        have e : ro' = true := by rw [← hro]; rfl
        subst e
        exact ⟨x.trans y, Sc⟩
      | false =>
        cases ro' with
        | false => exact ⟨x.trans y, Sc⟩
        | true =>
          have e := hI rfl rfl
          subst e
          exact ⟨x.trans (y.weak false), S1.strong y Sc⟩
    exact h2 _ Gc Hc fin.1 fin.2 (.new (s := .lst ds) rfl ⟨vs, cD, cr⟩ (x.dom _ hD) nF nA nI)
theorem te_lc {K : PySem.W.Frag} {own : List (Str × Nat)} {elt it cond : Tm} {tg : Tg} (hix : ∀ j ∈ tg.ix, j ∈ own.map (·.2)) {σ : St} {H : Hp} {Q : VK} (h : te L W (.lc own elt tg it cond) σ H Q) : tLc (ti L W it) (gA K tg) (tc L noW cond) (te L noW elt) (own.map (·.2)) σ H Q := by
  obtain ⟨ro, G, fr, I, S, h⟩ := h
  simp only [ev] at h
  refine ⟨ro, G, fr, I, S, PR.imp (PR.bind (rel := fun G' H' p J => WkR G' H' p J) h) (fun _ _ _ _ r => r) ?_⟩
  rintro J H1 ⟨p, I1, G1, _, x, S1, wk, h1⟩
  exact lc_core hix x S1 wk h1
theorem pe_lcA (g : Good L X W) {own : List (Str × Nat)} {elt it cond : Tm} {tg : Tg} {e t i : Expr} {ifs : List Expr} {scope : Scope} {pos : Pos} (hb : blkC X.N X.env.scope scope own = true) (ht : tgB (celB scope) (relS scope X.env.scope) X.N tg t = true) (hix : ∀ j ∈ tg.ix, j ∈ own.map (·.2)) (hs : notSet i = true)
    (hi : PI X t i (ti L W it)) (hc : ∀ X', Good L.nl X' noW → X'.env.scope = relS scope X.env.scope → X'.N = X.N → PTs X' ifs (tc L noW cond)) (he : ∀ X', Good L.nl X' noW → X'.env.scope = relS scope X.env.scope → X'.N = X.N → PE X' e (te L noW elt)) :
    PE X (.ListComp e [⟨t, i, ifs, 0⟩] scope pos) (te L W (.lc own elt tg it cond)) := by
  exact PE.imp (pe_lc (g := gA X.K tg) g.calm g.nd hi (blkOk_by hb)
    (fun s H C cl fp => pg_A (X := X.blk s H scope (compEnvC scope cl C X.env) fp) (fb := celB scope) g.calm g.nd (fun x hx => by simpa [celB] using hx) ht)
    (fun s H C cl fp => hc _ (g.blk s H scope _ fp) rfl rfl) (fun s H C cl fp => he _ (g.blk s H scope _ fp) rfl rfl) (fold_of hs _)) fun σ H Q q => te_lc hix q
end
end Air
/-! Air: a term's run (6): the main theorem. -/
namespace Air
open PySem PySem.Spec PyProof.Rows L2
variable [Kf]
section
variable {L : Lg} {W : WX} {X : Cx} {ro ro' : Bool} {G G1 G2 : Gh} {H H1 H2 : Hp} {σ : St} {fr : Fr} {I I1 : Is}
theorem te_cns {c : Cs} {Q : VK} (h : te L W (.cns c) σ H Q) (hs : ∀ z, c = .str z → PyData.strOk z = true) : Q (match c with | .non => .non | .bl b => .bl b | .int i => .int i | .str z => .str z) H := by
  obtain ⟨ro, G, fr, I, S, h⟩ := h
  cases c with
  | non => exact h _ G H .refl S (.fro .non)
  | bl b => exact h _ G H .refl S (.fro (.bl b))
  | int i => exact h _ G H .refl S (.fro (.int i))
  | str z => exact h _ G H .refl S (.fro (.str z (hs z rfl)))
theorem pe_cnsA {c : Cs} {k : PySem.Const} {j : Nat} {pos : Pos} (h : cstB c k = true) : PE X (.Constant k j pos) (te L W (.cns c)) := by
  cases c <;> cases k <;> simp only [cstB, Bool.false_eq_true] at h <;> try (cases h; done)
  · exact PE.imp pe_non fun σ H Q q => te_cns q (by simp)
  · rename_i b d
    have e : b = d := eq_of_beq h
    subst e
    exact PE.imp pe_bl fun σ H Q q => te_cns q (by simp)
  · rename_i a b
    obtain rfl := of_decide_eq_true h
    exact PE.imp pe_int fun σ H Q q => te_cns q (by simp)
  · rename_i a b
    simp only [Bool.and_eq_true, decide_eq_true_eq] at h
    obtain ⟨rfl, h⟩ := h
    exact PE.imp pe_str fun σ H Q q => te_cns q (by rintro z e; cases e; exact h)
theorem pe_gkA (g : Good L X W) {x : Str} {pos : Pos} (hx : Gl X x) (hd : (x == ("__debug__" : Str)) = false) (hn : L.kn x = some (0, 1)) : PE X (.Name x pos) (te L W (.gk x)) := by
  obtain ⟨d, e, c⟩ := g.cn x hn
  cases d with
  | int i =>
    obtain ⟨t, e2⟩ := c
    refine PE.imp (pe_glob (v := .int i) hx (g.mg ▸ e2) ⟨t, rfl⟩ hd) fun σ H Q q => ?_
    obtain ⟨ro, G, fr, I, S, h⟩ := q
    simp only [ev, e] at h
    exact h _ G H .refl S (.fro (.int i))
  | str z =>
    obtain ⟨ok, t, e2⟩ := c
    refine PE.imp (pe_glob (v := .str z) hx (g.mg ▸ e2) ⟨t, rfl⟩ hd) fun σ H Q q => ?_
    obtain ⟨ro, G, fr, I, S, h⟩ := q
    simp only [ev, e] at h
    exact h _ G H .refl S (.fro (.str z ok))
  | tup ds =>
    obtain ⟨a, vs, e2, e3, e4⟩ := c
    refine PE.imp (pe_glob (v := .ref a) hx (g.mg ▸ e2) rfl hd) fun σ H Q q => ?_
    obtain ⟨ro, G, fr, I, S, h⟩ := q
    simp only [ev, e] at h
    exact h _ G H .refl S (.cst e3 e4)
  | _ => exact absurd c id
theorem cr_imp {f : Value} {r r' : List V → Hp → VK → Prop} (h : CallR X f r) (i : ∀ xs H Q, r' xs H Q → r xs H Q) : CallR X f r' := fun pins s σ H xs us Q J rv q => h pins s σ H xs us Q J rv (i _ _ _ q)
theorem te_blt {f : Bi} {es : Tm} {Q : VK} (h : te L W (.blt f es) σ H Q) : ta L W es σ H (fun vs H1 => Args L (biD f) vs H1 Q) := by
  obtain ⟨ro, G, fr, I, S, h⟩ := h
  simp only [ev] at h
  refine ⟨ro, G, fr, I, S, PR.imp (PR.bind (rel := fun G' H' ps vs => Rks L H G' H' ps vs) h) (fun _ _ _ _ r => r.1) ?_⟩
  rintro vs H1 ⟨ps, I1, G1, _, x, S1, r1, h1⟩
  exact ⟨W, ro, G, H, σ, fr, ps, I1, G1, x, S1, r1, h1⟩
theorem pe_bltA (g : Good L X W) {f : Bi} {es : Tm} {e : Expr} {xs : List Expr} {p pos : Pos} (ih : PA X (e :: xs) (ta L W es)) (hx : Gl X f.nm) (hst : ∀ e' ∈ e :: xs, notStar e' = true)
    (hf : (decide (f = .minD) || decide (f = .sset) || decide (f = .str)) = false) : PE X (.Call (.Name f.nm p) (e :: xs) [] pos) (te L W (.blt f es)) := by
  have h1 := star_of (hst e List.mem_cons_self) xs X.env
  have h2 : (backTo pos (starEach xs X.env)).any (·.1) = false := back_ok fun x hx => hst x (List.mem_cons_of_mem _ hx)
  have fn : ∀ {id : String} {nm : Str}, f.nm = nm → CallR X (.builtin id) (Args L (biD f)) → bootBuiltins nm = some (.builtin id) → X.mg nm = none → nm ≠ "__name__" → (nm == ("__debug__" : Str)) = false → PE X (.Call (.Name f.nm p) (e :: xs) [] pos) (te L W (.blt f es)) := fun {id nm} e0 hc hb hm hn hdb => by
    rw [e0] at hx ⊢
    exact PE.imp (pe_callB hc hx hm hb ih hn hdb h1 h2) fun σ H Q q => te_blt q
  have ty : ∀ {id : String} {nm : Str}, f.nm = nm → CallR X (.type id) (Args L (biD f)) → bootBuiltins nm = some (.type id) → X.mg nm = none → nm ≠ "__name__" → (nm == ("__debug__" : Str)) = false → PE X (.Call (.Name f.nm p) (e :: xs) [] pos) (te L W (.blt f es)) := fun {id nm} e0 hc hb hm hn hdb => by
    rw [e0] at hx ⊢
    exact PE.imp (pe_callTy hc hx hm hb ih hn hdb h1 h2) fun σ H Q q => te_blt q
  have mg : ∀ x, x ∈ (["len", "all", "any", "sorted", "list", "tuple", "min", "max", "int", "str", "divmod", "dict", "sum", "isinstance", "range", "enumerate", "zip", "set", "bool", "KeyError"] : List Str) → X.mg x = none := fun x hx => g.mg ▸ g.bi x hx
  cases f with
  | len => exact fn rfl (len_run g.K) boot_len (mg _ (by decide +kernel)) (by decide) (by decide)
  | all => exact fn rfl (all_run g.K g.calm) boot_all (mg _ (by decide +kernel)) (by decide) (by decide)
  | any => exact fn rfl (any_run g.K g.calm) boot_any (mg _ (by decide +kernel)) (by decide) (by decide)
  | sorted => exact fn rfl (sorted_run g.K g.calm) (by decide +kernel) (mg _ (by decide +kernel)) (by decide) (by decide)
  | list => exact ty rfl (list_run g.K) (by decide +kernel) (mg _ (by decide +kernel)) (by decide) (by decide)
  | tuple => exact ty rfl (tuple_run g.K) (by decide +kernel) (mg _ (by decide +kernel)) (by decide) (by decide)
  | min1 => exact fn rfl (min1_run g.calm) (by decide +kernel) (mg _ (by decide +kernel)) (by decide) (by decide)
  | max1 => exact fn rfl (max1_run g.calm) (by decide +kernel) (mg _ (by decide +kernel)) (by decide) (by decide)
  | min2 => exact fn rfl (min2_run g.calm) (by decide +kernel) (mg _ (by decide +kernel)) (by decide) (by decide)
  | max2 => exact fn rfl (max2_run g.calm) (by decide +kernel) (mg _ (by decide +kernel)) (by decide) (by decide)
  | int => exact ty rfl int_run (by decide +kernel) (mg _ (by decide +kernel)) (by decide) (by decide)
  | sum => exact fn rfl (sum_run g.calm) (by decide +kernel) (mg _ (by decide +kernel)) (by decide) (by decide)
  | minD => exact absurd hf (by decide)
  | sset => exact absurd hf (by decide)
  | str => exact absurd hf (by decide)
  | divmod => exact fn rfl divmod_run (by decide +kernel) (mg _ (by decide +kernel)) (by decide) (by decide)
  | dict => exact ty rfl (dict_run g.hu) (by decide +kernel) (mg _ (by decide +kernel)) (by decide) (by decide)
end
end Air
/-! Air: sorted(set(xs)), xs a list of ints (the library has set of a tuple of ints: HandS.SetFor; this is the same road for a list). -/
namespace Air
open PySem PySem.Spec PyProof.Rows L2
section
variable {P : Program} {w : World} {A : Around} {E : Value → Shared → Prop} {s : Shared}
/-- an empty set, as it is laid -/
abbrev nst (w : World) : Obj := { cls := .type "set", dict := none, data := .set #[] 0 (.fresh 0 0 (!w.params.followText "set-order")) }
/-- what a set filled from l's ints is -/
def Filled (w : World) (s : Shared) (ns : List Int) (r : Value) (s2 : Shared) : Prop := r = .none ∧ ∃ h' tk c, s2 = { s with heap := h', toks := tk } ∧ SetR w h' s.heap.objs.size (fun j => decide (j ∈ ns)) c ∧ c ≤ ns.length ∧ (∀ b o, s.heap.get? b = some o → h'.get? b = some o)
set_option maxHeartbeats 6400000 in
theorem setI_list {l : Addr} {items : Array Value} (ns : List Int) {Q : Value → Shared → Prop} (hh : A.handled = none) (hl : s.heap.IsList l items) (hi : IntsAre items.toList ns) (hb : ns.length + 1 < scanBound)
    (h : ∀ (h' : Heap) (tk c : Nat), SetR w h' s.heap.objs.size (fun j => decide (j ∈ ns)) c → c ≤ ns.length → (∀ b o, s.heap.get? b = some o → h'.get? b = some o) → Q (.ref s.heap.objs.size) { s with heap := h', toks := tk }) :
    wpAny (model P w) A (call (.type "set") [.ref l]) Q E s := by
  have hz : items.size = ns.length := by
    have q := IntsAre.length hi
    rwa [Array.length_toList] at q
  have hval : ∀ (i : Nat) (v : Value), items[i]? = some v → ∃ k t, ns[i]? = some k ∧ v = .int k t := fun i v hv => by
    have hlt : i < ns.length := by rw [← hz]; exact (Array.getElem?_eq_some_iff.mp hv).1
    obtain ⟨t, e⟩ := IntsAre.int_at hi i v (by rw [Array.getElem?_toList]; exact hv)
    refine ⟨ns[i], t, List.getElem?_eq_getElem hlt, ?_⟩
    rw [e, List.getD_eq_getElem?_getD, List.getElem?_eq_getElem hlt]; rfl
  obtain ⟨_, _, m0⟩ := F.called_set.mro
  have m1 := F.called_set.made
  have m2 := F.called_set.sub
  have m3 := F.called_set.notType
  have m4 := F.called_set.canCreate
  have m5 := F.typeCall_set_1 (.ref l)
  refine wpAny_call (codeAny_of_tree ?_)
  show wpAny _ _ (callAny (.type "set") _) _ _ _
  refine wpAny_pure ⟨Code.quiet_builtin _ (by decide +kernel), codeAny_builtin PySem.F.entry_type_call ?_⟩
  rw [Around.under_plain (weight_type_call_type "set" [.ref l] []) rfl]
  repeat (any_goals (first | assumption | wp_step))
  refine codeAny_mono (code_set_led1 (.ref l) (E := E) (Q₁ := fun obj s₁ => obj = .ref s.heap.objs.size ∧ s₁ = { s with heap := s.heap.push (nst w) }) ⟨rfl, rfl⟩) fun r s₁ hr => ?_
  cases r with
  | error e => exact hr
  | ok fl =>
    cases fl with
    | ret obj =>
      obtain ⟨rfl, rfl⟩ := hr
      have hS : (s.heap.push (nst w)).get? s.heap.objs.size = some (nst w) := Heap.get?_push_size _ rfl
      have hT : Shared.TypeIs { s with heap := s.heap.push (nst w) } (.ref s.heap.objs.size) "set" := ⟨_, hS, rfl⟩
      have m6 := F.called_set.init.lookup
      have m7 := F.called_set.init.bind (.ref s.heap.objs.size)
      repeat (any_goals (first | assumption | wp_step))
      refine codeAny_mono (codeAny_call_builtin (R := wants (Filled w s ns) E) F.called_set.init.plain PySem.F.entry_set_init (check_set_init_1 hT ?_)) fun r₂ s₂ hr₂ => ?_
      · obtain ⟨⟨oc, od, odt, osl⟩, ho, hc, n, hd⟩ := hl
        simp only at hc hd
        subst hc; subst hd
        have lt1 : l < s.heap.objs.size := Heap.lt_size ho
        have ho1 : (s.heap.push (nst w)).get? l = some { cls := .type "list", dict := od, data := .seq items n, slots := osl } := Heap.get?_push_of_some _ ho
        have hl1 : (s.heap.push (nst w)).IsList l items := ⟨_, ho1, rfl, n, rfl⟩
        have k1 := PySem.F.sub_list_set
        have k2 := PySem.F.sub_list_frozenset
        have k3 : (Value.type "list" == Value.type "dict") = false := by decide
        unfold Builtin.«set.__init__» noKeywords Builtin.Frozenset.updateFrom
        generalize hPI : pyIter = PI
        wp_walk
        subst hPI
        refine wpAny_pyIter_list hl1 ?_
        refine wpAny_bind (wpAny_runValue ?_)
        have hh3 : A.in1.in1.in1.handled = none := by simp [hh]
        have hneI : l ≠ (s.heap.push (nst w)).objs.size := by rw [Heap.size_push]; exact Nat.ne_of_lt (Nat.lt_succ_of_lt lt1)
        have hSf : s.heap.objs.size ∉ [(s.heap.push (nst w)).objs.size, l] := by
          rw [Heap.size_push]; simp only [List.mem_cons, List.not_mem_nil, or_false, not_or]; exact ⟨Nat.ne_of_lt (Nat.lt_succ_self _), Nat.ne_of_gt lt1⟩
        refine set_update_ints ((Walks.list hh3 _ l hneI items).toS) s.heap.objs.size hSf ns hz hb hval (items.size - 0) 0 _ (by omega) (Nat.zero_le _)
          ⟨⟨_, Heap.get?_push_size _ rfl, rfl, rfl⟩, (hl1.push _)⟩ ?hS0 ?hR
        case hS0 => exact ⟨0, Nat.le_refl 0, setR_new_at (Heap.get?_push_of_some _ hS)⟩
        case hR =>
          intro s' c' hm hc' hS'
          obtain ⟨h', g2, d', tk', os'⟩ := s'
          obtain rfl : g2 = s.gens := hm.gens
          obtain rfl : d' = s.drawn := hm.drawn
          obtain rfl : os' = s.os := hm.os
          show wpAny _ _ _ _ _ _
          refine wpAny_pure ?_
          show wpAny _ _ (ret Value.none) _ _ _
          refine wpAny_pure ⟨rfl, h', tk', c', rfl, hS', (by rw [hz] at hc'; exact hc'), fun b o e => ?_⟩
          have hb0 : b < s.heap.objs.size := Heap.lt_size e
          exact hm.heap b o (by rw [Heap.size_push]; simp only [List.mem_cons, List.not_mem_nil, or_false, not_or]; exact ⟨Nat.ne_of_lt hb0, Nat.ne_of_lt (Nat.lt_succ_of_lt hb0)⟩) (Heap.get?_push_of_some _ (Heap.get?_push_of_some _ e))
      · cases r₂ with
        | error e => exact hr₂
        | ok fl₂ =>
          cases fl₂ with
          | ret r =>
            obtain ⟨rfl, h', tk, c', rfl, hS', hc', hk'⟩ := hr₂
            repeat (any_goals (first | assumption | wp_step))
            exact h _ _ _ hS' hc' hk'
          | _ => exact hr₂.elim
    | _ => exact hr.elim
end
end Air
/-! Air: sorted(set(xs)), xs a list of ints. -/
namespace Air
open PySem PySem.Spec PyProof.Rows L2
section
variable {X : Cx}
/-- sorted(set(xs)) -/
def tSSet (K : PySem.W.Frag) (ta : TE) : TE := fun σ H Q => ta σ H fun x H1 => ∃ (l : Addr) (ns : List Int), x = .ref l ∧ SqL K H1 l (ns.map V.int) ∧ ns.length < 64 ∧
  ∀ (out : List Int) (p : Addr), out.Pairwise (· < ·) → (∀ k : Int, k ∈ out ↔ k ∈ ns) → H1 p = none → Q (.ref p) (upd H1 p (.lst (out.map V.int)))
theorem pe_sset {a : Expr} {ta : TE} {p p2 q pos : Pos} (hc : X.calm = true) (hg : Gl X "sorted") (hm : X.mg "sorted" = none) (hg2 : Gl X "set") (hm2 : X.mg "set" = none) (ha : PE X a ta)
    (na : starEach [a] X.env = (false, eval a X.env) :: starEach [] X.env) : PE X (.Call (.Name "sorted" p) [.Call (.Name "set" p2) [a] [] q] [] pos) (tSSet X.K ta) := by
  refine ⟨fun pins s σ H Q I h => ?_⟩
  refine Call_ (ld_blt I hg hm (show bootBuiltins "sorted" = some (.builtin "sorted") by decide +kernel) ?_)
  refine PyProof.Rows.callWith_builtin1 (PyProof.Rows.args_cons ?_ rfl) rfl rfl
  refine Call_ (ld_blt I hg2 hm2 (show bootBuiltins "set" = some (.type "set") by decide +kernel) ?_)
  refine PyProof.Rows.callWith_type1 (PyProof.Rows.args_cons (thn (ha.run pins s σ H _ I h) fun v s1 ⟨x, H1, I1, r1, q1⟩ => PyProof.Rows.args_nil ?_) na) na rfl
  obtain ⟨l, ns, rfl, hq, hl, q1⟩ := q1
  cases r1
  obtain ⟨its, r, pl, hz⟩ := I1.list hq
  refine setI_list ns (I1.ok.hd hc) pl.isList (by simpa using ints_of_vals r) (by unfold scanBound; omega) fun h' tk c R hcn hk => ?_
  refine PyProof.Rows.args_nil ?_
  have I2 : Inv X pins σ H1 { s1 with heap := h', toks := tk } := I1.kept fun b o e => hk b o e
  refine sorted_set R (I2.ok.hd hc) (by omega) fun s' p out c2 os k g o hp hg hi hs hm hl2 => ?_
  have hlen : (os.map V.int).length ≤ sizeLine := by rw [List.length_map, hl2, sizeLine_eq]; omega
  have hn : H1 p = none := I2.hok.fresh hp
  have J : Inv X pins σ (upd H1 p (.lst (os.map V.int))) { { s1 with heap := h', toks := tk } with heap := s'.heap, gens := s'.gens, drawn := s'.drawn, toks := s'.toks } :=
    I2.call (ch := []) (Un.laid k hp hn) (I2.hok.laid k hp ⟨hlen, out.toList, c2, vals_of_ints hi, hg⟩) (by rw [g]; exact I2.bare) (fun _ z => nomatch z)
  have e : s' = { { s1 with heap := h', toks := tk } with heap := s'.heap, gens := s'.gens, drawn := s'.drawn, toks := s'.toks } := by
    cases s'
    cases s1
    cases o
    rfl
  rw [e]
  exact ⟨.ref p, _, J, rfl, q1 os p hs (fun k => by rw [hm k]; simp) hn⟩
end
end Air
/-! Air: a term's run (7): the main theorem. -/
namespace Air
open PySem PySem.Spec PyProof.Rows L2
variable [Kf]
section
variable {L : Lg} {W : WX} {X : Cx} {ro ro' : Bool} {G G1 G2 : Gh} {H H1 H2 : Hp} {σ : St} {fr : Fr} {I I1 : Is}
theorem te_and {a b : Tm} {Q : VK} (h : te L W (.and a b) σ H Q) : te L W a σ H (fun x H1 => ∃ c, x = .bl c ∧ if c = true then te L W b σ H1 (fun y H2 => ∃ d, y = .bl d ∧ Q (.bl d) H2) else Q (.bl false) H1) := by
  obtain ⟨ro, G, fr, I, S, h⟩ := h
  simp only [ev] at h
  refine te.imp (tt_te (tt_next S h)) fun v H1 => ?_
  rintro ⟨c, rfl, I1, G1, x, S1, h1⟩
  refine ⟨c, rfl, ?_⟩
  cases c with
  | false => rw [if_neg Bool.false_ne_true]; exact h1 _ G1 H1 x S1 (.fro (.bl _))
  | true =>
    rw [if_pos rfl]
    have h1 : PR L W ro G H σ fr ((ev L.cn L.cf b ro fr I1).tst fun u I => b2 u I) (RkR L H) Q := h1
    have h2 := PR.on (rel1 := RkR L H1) x S1 (fun _ _ _ _ r => r.from x.dom) h1
    refine te.imp (tt_te (tt_next S1 h2)) fun w H2 => ?_
    rintro ⟨d, rfl, I2, G2, y, S2, h3⟩
    exact ⟨d, rfl, h3 _ G2 H2 y S2 (.fro (.bl _))⟩
theorem te_or {a b : Tm} {Q : VK} (h : te L W (.or a b) σ H Q) : te L W a σ H (fun x H1 => ∃ c, x = .bl c ∧ if c = true then Q (.bl true) H1 else te L W b σ H1 (fun y H2 => ∃ d, y = .bl d ∧ Q (.bl d) H2)) := by
  obtain ⟨ro, G, fr, I, S, h⟩ := h
  simp only [ev] at h
  refine te.imp (tt_te (tt_next S h)) fun v H1 => ?_
  rintro ⟨c, rfl, I1, G1, x, S1, h1⟩
  refine ⟨c, rfl, ?_⟩
  cases c with
  | true => rw [if_pos rfl]; exact h1 _ G1 H1 x S1 (.fro (.bl _))
  | false =>
    rw [if_neg Bool.false_ne_true]
    have h1 : PR L W ro G H σ fr ((ev L.cn L.cf b ro fr I1).tst fun u I => b2 u I) (RkR L H) Q := h1
    have h2 := PR.on (rel1 := RkR L H1) x S1 (fun _ _ _ _ r => r.from x.dom) h1
    refine te.imp (tt_te (tt_next S1 h2)) fun w H2 => ?_
    rintro ⟨d, rfl, I2, G2, y, S2, h3⟩
    exact ⟨d, rfl, h3 _ G2 H2 y S2 (.fro (.bl _))⟩
theorem tst_b2 {β : Type} (r : R (D × Kd)) (f : Bool → Is → R β) : (r.tst fun u I => b2 u I).tst f = r.tst f := by
  unfold R.tst
  cases r with
  | ok p I => obtain ⟨d, k⟩ := p; cases d <;> rfl
  | exc x I => rfl
  | bad => rfl
theorem tst_bind {α β : Type} (r : R (D × Kd)) (f : Bool → Is → R (D × Kd)) (g : Bool → Is → R β) : (r.tst f).tst g = r.tst fun b I => (f b I).tst g := by
  unfold R.tst
  cases r with
  | ok p I => obtain ⟨d, k⟩ := p; cases d <;> rfl
  | exc x I => rfl
  | bad => rfl
theorem tt_and {a b : Tm} {Q : Bool → Hp → Prop} (h : tt L W (.and a b) σ H Q) : tt L W a σ H (fun c H1 => if c = true then tt L W b σ H1 Q else Q false H1) := by
  obtain ⟨ro, G, fr, I, S, h⟩ := h
  simp only [ev] at h
  rw [tst_bind (α := Unit)] at h
  obtain ⟨ro2, G2, fr2, I2, S2, h2⟩ := tt_next S h
  refine ⟨ro2, G2, fr2, I2, S2, h2.imp (fun _ _ _ _ r => r) ?_⟩
  rintro c H1 ⟨I1, G1, x, S1, h1⟩
  cases c with
  | false => rw [if_neg Bool.false_ne_true]; exact h1 _ G1 H1 x S1 rfl
  | true =>
    rw [if_pos rfl]
    have h1 : PR L W ro G H σ fr (((ev L.cn L.cf b ro fr I1).tst fun u I => b2 u I).tst fun b I => .ok b I) (fun _ _ (b : Bool) (c : Bool) => c = b) Q := h1
    rw [tst_b2] at h1
    exact ⟨ro, G1, fr, I1, S1, PR.on x S1 (fun _ _ _ _ r => r) h1⟩
theorem tt_or {a b : Tm} {Q : Bool → Hp → Prop} (h : tt L W (.or a b) σ H Q) : tt L W a σ H (fun c H1 => if c = true then Q true H1 else tt L W b σ H1 Q) := by
  obtain ⟨ro, G, fr, I, S, h⟩ := h
  simp only [ev] at h
  rw [tst_bind (α := Unit)] at h
  obtain ⟨ro2, G2, fr2, I2, S2, h2⟩ := tt_next S h
  refine ⟨ro2, G2, fr2, I2, S2, h2.imp (fun _ _ _ _ r => r) ?_⟩
  rintro c H1 ⟨I1, G1, x, S1, h1⟩
  cases c with
  | true => rw [if_pos rfl]; exact h1 _ G1 H1 x S1 rfl
  | false =>
    rw [if_neg Bool.false_ne_true]
    have h1 : PR L W ro G H σ fr (((ev L.cn L.cf b ro fr I1).tst fun u I => b2 u I).tst fun b I => .ok b I) (fun _ _ (b : Bool) (c : Bool) => c = b) Q := h1
    rw [tst_b2] at h1
    exact ⟨ro, G1, fr, I1, S1, PR.on x S1 (fun _ _ _ _ r => r) h1⟩
theorem tt.imp {t : Tm} {Q Q' : Bool → Hp → Prop} (h : tt L W t σ H Q) (i : ∀ v H', Q v H' → Q' v H') : tt L W t σ H Q' := by
  obtain ⟨ro, G, fr, I, S, q⟩ := h
  exact ⟨ro, G, fr, I, S, q.imp (fun _ _ _ _ r => r) i⟩
theorem tt_not {a : Tm} {Q : Bool → Hp → Prop} (h : tt L W (.not a) σ H Q) : tt L W a σ H (fun c H1 => Q (!c) H1) := by
  obtain ⟨ro, G, fr, I, S, h⟩ := h
  simp only [ev] at h
  rw [tst_bind (α := Unit)] at h
  obtain ⟨ro2, G2, fr2, I2, S2, h2⟩ := tt_next S h
  refine ⟨ro2, G2, fr2, I2, S2, h2.imp (fun _ _ _ _ r => r) ?_⟩
  rintro c H1 ⟨I1, G1, x, S1, h1⟩
  exact h1 _ G1 H1 x S1 rfl
theorem te_not {a : Tm} {Q : VK} (h : te L W (.not a) σ H Q) : te L W a σ H (fun x H1 => ∃ c, x = .bl c ∧ Q (.bl (!c)) H1) := by
  obtain ⟨ro, G, fr, I, S, h⟩ := h
  simp only [ev] at h
  refine te.imp (tt_te (tt_next S h)) fun v H1 => ?_
  rintro ⟨c, rfl, I1, G1, x, S1, h1⟩
  exact ⟨c, rfl, h1 _ G1 H1 x S1 (.fro (.bl _))⟩
theorem te_ite {c a b : Tm} {Q : VK} (h : te L W (.ite c a b) σ H Q) : tt L W c σ H (fun t H1 => if t = true then te L W a σ H1 Q else te L W b σ H1 Q) := by
  obtain ⟨ro, G, fr, I, S, h⟩ := h
  simp only [ev] at h
  refine tt.imp (tt_next S h) fun t H1 => ?_
  rintro ⟨I1, G1, x, S1, h1⟩
  cases t with
  | true => rw [if_pos rfl]; exact ⟨ro, G1, fr, I1, S1, PR.on (rel1 := RkR L H1) x S1 (fun _ _ _ _ r => r.from x.dom) h1⟩
  | false => rw [if_neg Bool.false_ne_true]; exact ⟨ro, G1, fr, I1, S1, PR.on (rel1 := RkR L H1) x S1 (fun _ _ _ _ r => r.from x.dom) h1⟩
theorem te_tup {es : Tm} {Q : VK} (h : te L W (.tup es) σ H Q) : tTup (ta L W es) σ H Q := by
  obtain ⟨ro, G, fr, I, S, h⟩ := h
  simp only [ev] at h
  refine ⟨ro, G, fr, I, S, PR.imp (PR.bind (rel := fun G' H' ps vs => Rks L H G' H' ps vs) h) (fun _ _ _ _ r => r.1) ?_⟩
  rintro vs H1 ⟨ps, I1, G1, _, x, S1, r1, h1⟩
  cases e : frzAll ps with
  | none => rw [e] at h1; exact absurd h1 id
  | some ds =>
    rw [e] at h1
    obtain ⟨hl, h1⟩ := PR.cond (show PR L W ro G H σ fr (bif decide (ds.length ≤ lim) then .ok (.tup ds, .fro) I1 else .bad) (RkR L H) Q from h1)
    obtain ⟨G2, g, x2, S2, r2⟩ := frz_all x S1 (r1.w e) e
    exact ⟨by rw [r2.length, ← lim_eq]; exact of_decide_eq_true hl, fun p hp => fin_tup h1 x2 S2 hp r2⟩
theorem te_lst {es : Tm} {Q : VK} (h : te L W (.lst es) σ H Q) : tLst (ta L W es) σ H Q := by
  obtain ⟨ro, G, fr, I, S, h⟩ := h
  simp only [ev] at h
  refine ⟨ro, G, fr, I, S, PR.imp (PR.bind (rel := fun G' H' ps vs => Rks L H G' H' ps vs) h) (fun _ _ _ _ r => r.1) ?_⟩
  rintro vs H1 ⟨ps, I1, G1, _, x, S1, r1, h1⟩
  cases e : frzAll ps with
  | none => rw [e] at h1; exact absurd h1 id
  | some ds =>
    rw [e] at h1
    obtain ⟨hl, h1⟩ := PR.cond (show PR L W ro G H σ fr (bif decide (ds.length ≤ lim) then .ok (.lst ds, .new) I1 else .bad) (RkR L H) Q from h1)
    obtain ⟨G2, g, x2, S2, r2⟩ := frz_all x S1 (r1.w e) e
    exact ⟨by rw [r2.length, ← lim_eq]; exact of_decide_eq_true hl, fun p hp => fin_lst h1 x2 S2 hp r2⟩
theorem tp_next {t : Tm} {k : Bool} {γ : Type} {f : Option Int → Is → R γ} {β : Type} {rel' : Gh → Hp → γ → β → Prop} {Q : β → Hp → Prop} (x : Ext ro G H G1 H1) (S1 : Sx L.c ro G1 fr I1 σ H1)
    (h : PR L W ro G H σ fr ((evP L.cn L.cf t (ro || k) fr I1).bind f) rel' Q) :
    tp L W t σ H1 (fun o H2 => ∃ I2 G2, Ext ro G H G2 H2 ∧ Ext (ro || k) G1 H1 G2 H2 ∧ Sx L.c ro G2 fr I2 σ H2 ∧ PR L W ro G H σ fr (f o I2) rel' Q) := by
  have h1 := PR.bind (β := Option Int) (rel := fun G' H' (o : Option Int) (o' : Option Int) => o' = o ∧ Ext (ro || k) G1 H1 G' H') h
  refine ⟨ro || k, G1, fr, I1, ?_, ?_⟩
  · cases k with
    | false => rw [Bool.or_false]; exact S1
    | true =>
      rw [Bool.or_true]
      cases ro with
      | true => exact S1
      | false => exact S1.weak true
  · refine PR.at (rel1 := fun _ _ (o : Option Int) (o' : Option Int) => o' = o) x S1 ?_ (fun G' H' p v y S r => ⟨r, y⟩) (h1.imp (fun _ _ _ _ r => r) ?_)
    · cases k with
      | false => exact .inl (Bool.or_false _)
      | true => exact .inr ⟨Bool.or_true _, by rw [Bool.or_true]; exact (ev_keeps t).2.2.1 _ _⟩
    · rintro v H2 ⟨q, I2, G2, _, y, S2, ⟨rfl, r2⟩, h2⟩
      exact ⟨I2, G2, y, r2, S2, h2⟩
theorem te_slc {a lo hi : Tm} {Q : VK} (h : te L W (.slc a lo hi) σ H Q) : tSl (Cut L) (te L W a) (tp L W lo) (tp L W hi) σ H Q := by
  obtain ⟨ro, G, fr, I, S, h⟩ := h
  simp only [ev] at h
  refine ⟨ro, G, fr, I, S, PR.imp (PR.bind (rel := RkR L H) h) (fun _ _ _ _ r => r) ?_⟩
  rintro v H1 ⟨p, I1, G1, _, x, S1, r1, h1⟩
  obtain ⟨ro2, G2, fr2, I2, S2, h2⟩ := tp_next x S1 h1
  refine ⟨ro2, G2, fr2, I2, S2, h2.imp (fun _ _ _ _ r => r) ?_⟩
  rintro l H2 ⟨I3, G3, y1, y2, S3, h3⟩
  obtain ⟨ro4, G4, fr4, I4, S4, h4⟩ := tp_next y1 S3 h3
  refine ⟨ro4, G4, fr4, I4, S4, h4.imp (fun _ _ _ _ r => r) ?_⟩
  rintro u H3 ⟨I5, G5, z1, z2, S5, h5⟩
  exact ⟨W, ro, G, H, σ, fr, p, I5, G5, z1, S5, (r1.later S1 y2).later S3 z2, h5⟩
theorem mem_addU {x k : Int} : ∀ {l : List Int}, k ∈ addU x l ↔ k = x ∨ k ∈ l
  | [] => by simp [addU]
  | y :: r => by
    unfold addU
    have ih := mem_addU (x := x) (k := k) (l := r)
    cases h1 : decide (x < y) with
    | true => simp
    | false =>
      cases h2 : decide (x = y) with
      | true =>
        have e := of_decide_eq_true h2
        subst e
        simp
      | false =>
        simp only [cond_false, List.mem_cons, ih]
        constructor
        · rintro (h | h | h)
          · exact .inr (.inl h)
          · exact .inl h
          · exact .inr (.inr h)
        · rintro (h | h | h)
          · exact .inr (.inl h)
          · exact .inl h
          · exact .inr (.inr h)
theorem mem_setL {k : Int} : ∀ {l : List Int}, k ∈ setL l ↔ k ∈ l
  | [] => by simp [setL]
  | x :: r => by
    rw [setL, mem_addU, mem_setL (l := r), List.mem_cons]
theorem addU_pwO {x : Int} : ∀ {l : List Int}, l.Pairwise (· < ·) → (addU x l).Pairwise (· < ·)
  | [], _ => by simp [addU]
  | y :: r, h => by
    obtain ⟨h1, h2⟩ := List.pairwise_cons.mp h
    unfold addU
    cases q1 : decide (x < y) with
    | true =>
      have q1 := of_decide_eq_true q1
      refine List.pairwise_cons.mpr ⟨fun z hz => ?_, h⟩
      rcases List.mem_cons.mp hz with e | hz
      · omega
      · have := h1 z hz; omega
    | false =>
      have q1 := of_decide_eq_false q1
      cases q2 : decide (x = y) with
      | true => exact h
      | false =>
        have q2 := of_decide_eq_false q2
        refine List.pairwise_cons.mpr ⟨fun z hz => ?_, addU_pwO h2⟩
        rcases mem_addU.mp hz with e | hz
        · omega
        · exact h1 z hz
theorem setL_pwO : ∀ l : List Int, (setL l).Pairwise (· < ·)
  | [] => .nil
  | x :: r => addU_pwO (setL_pwO r)
theorem pw_eq : ∀ {a b : List Int}, a.Pairwise (· < ·) → b.Pairwise (· < ·) → (∀ k, k ∈ a ↔ k ∈ b) → a = b
  | [], [], _, _, _ => rfl
  | [], y :: b, _, _, h => absurd ((h y).mpr List.mem_cons_self) (by simp)
  | x :: a, [], _, _, h => absurd ((h x).mp List.mem_cons_self) (by simp)
  | x :: a, y :: b, p, q, h => by
    obtain ⟨p1, p2⟩ := List.pairwise_cons.mp p
    obtain ⟨q1, q2⟩ := List.pairwise_cons.mp q
    have hx := (h x).mp List.mem_cons_self
    have hy := (h y).mpr List.mem_cons_self
    have e : x = y := by
      rcases List.mem_cons.mp hx with e | hx
      · exact e
      · rcases List.mem_cons.mp hy with e | hy
        · exact e.symm
        · have := q1 x hx; have := p1 y hy; omega
    subst e
    rw [pw_eq p2 q2 fun k => ?_]
    have hk := h k
    constructor
    · intro hm
      rcases List.mem_cons.mp (hk.mp (List.mem_cons_of_mem _ hm)) with e | h2
      · have := p1 k hm; omega
      · exact h2
    · intro hm
      rcases List.mem_cons.mp (hk.mpr (List.mem_cons_of_mem _ hm)) with e | h2
      · have := q1 k hm; omega
      · exact h2
theorem te_sset (hK : X.K = L.K) {a : Tm} {Q : VK} (h : te L W (.blt .sset (.cons a .nil)) σ H Q) : tSSet X.K (te L W a) σ H Q := by
  obtain ⟨ro, G, fr, I, S, h⟩ := h
  have e0 : ev L.cn L.cf (.blt .sset (.cons a .nil)) ro fr I = (ev L.cn L.cf a ro fr I).bind fun p I => biD .sset [p] I := by
    simp only [ev, evK]
    cases ev L.cn L.cf a ro fr I <;> rfl
  rw [e0] at h
  refine te.imp (te_one S h) fun v H1 => ?_
  rintro ⟨W', ro', G', H', σ', fr', ⟨d, k⟩, I1, G1, x, S1, r, h1⟩
  cases d with
  | lst ds =>
    obtain ⟨b, vs, rfl, hb, rb⟩ := r.lst S1
    have h1 : PR L W' ro' G' H' σ' fr' (match intsD ds with
      | some ns => bif decide (ns.length < 64) then .ok (.lst ((setL ns).map D.int), .new) I1 else .bad
      | none => .bad) (RkR L H') Q := h1
    cases q : intsD ds with
    | none => rw [q] at h1; exact absurd h1 id
    | some ns =>
      rw [q] at h1
      obtain ⟨hl, h1⟩ := PR.cond h1
      have e1 := rb.intsD q
      subst e1
      refine ⟨b, ns, rfl, .of hb, of_decide_eq_true hl, fun out p hp hm hn => fin_lst h1 x S1 hn ?_⟩
      rw [← pw_eq hp (setL_pwO ns) fun k => (hm k).trans mem_setL.symm]
      exact .ints _
  | _ => exact absurd h1 id
theorem te_rev (hK : X.K = L.K) {a : Tm} {Q : VK} (h : te L W (.rev a) σ H Q) : tRevL X.K (te L W a) σ H Q := by
  obtain ⟨ro, G, fr, I, S, h⟩ := h
  simp only [ev] at h
  refine te.imp (te_one S h) fun v H1 => ?_
  rintro ⟨W', ro', G', H', σ', fr', ⟨d, k⟩, I1, G1, x, S1, r, h1⟩
  cases d with
  | lst ds =>
    obtain ⟨b, vs, rfl, hb, rb⟩ := r.lst S1
    exact ⟨b, vs, rfl, .of hb, fun p hp => fin_lst h1 x S1 hp rb.reverse⟩
  | _ => exact absurd h1 id
theorem te_neg {a : Tm} {Q : VK} (h : te L W (.neg a) σ H Q) : tUn (rU fun i => .int (-i)) (te L W a) σ H Q := by
  obtain ⟨ro, G, fr, I, S, h⟩ := h
  simp only [ev] at h
  refine te.imp (te_one S h) fun v H1 => ?_
  rintro ⟨W', ro', G', H', σ', fr', ⟨d, k⟩, I1, G1, x, S1, r, h1⟩
  cases d with
  | int i => exact ⟨i, r.int, fin_fro h1 x S1 (.int _)⟩
  | _ => exact absurd h1 id
theorem non_iff {H0 : Hp} {d : D} {k : Kd} {v : V} (r : Rk L H0 G H (d, k) v) : (v = .non) ↔ d = .non := by
  cases r with
  | fro r => cases r <;> simp
  | own e | inst e | new e => cases d <;> simp [Sl.inn] at e ⊢
  | cst => simp
theorem te_isn {ng : Bool} {a : Tm} {Q : VK} (h : te L W (.isn ng a) σ H Q) : te L W a σ H (fun x H1 => Q (.bl (xor ng (decide (x = .non)))) H1) := by
  obtain ⟨ro, G, fr, I, S, h⟩ := h
  simp only [ev] at h
  refine te.imp (te_one S h) fun v H1 => ?_
  rintro ⟨W', ro', G', H', σ', fr', ⟨d, k⟩, I1, G1, x, S1, r, h1⟩
  have e := non_iff r
  by_cases hd : d = .non
  · subst hd
    rw [decide_eq_true (e.mpr rfl)]
    have h1 : PR L W' ro' G' H' σ' fr' (b2 (!ng) I1) (RkR L H') Q := h1
    rw [show xor ng true = !ng by cases ng <;> rfl]
    exact fin_bl h1 x S1
  · rw [decide_eq_false fun z => hd (e.mp z)]
    have h1 : PR L W' ro' G' H' σ' fr' (b2 ng I1) (RkR L H') Q := by
      cases d <;> first | exact absurd rfl hd | exact h1
    rw [show xor ng false = ng by cases ng <;> rfl]
    exact fin_bl h1 x S1
theorem te_isb {ng c : Bool} {a : Tm} {Q : VK} (h : te L W (.isb ng c a) σ H Q) : te L W a σ H (fun x H1 => ∃ b, x = .bl b ∧ Q (.bl (xor ng (decide (b = c)))) H1) := by
  obtain ⟨ro, G, fr, I, S, h⟩ := h
  simp only [ev] at h
  refine te.imp (te_one S h) fun v H1 => ?_
  rintro ⟨W', ro', G', H', σ', fr', ⟨d, k⟩, I1, G1, x, S1, r, h1⟩
  cases d with
  | bl b =>
    refine ⟨b, r.bl, ?_⟩
    have h1 : PR L W' ro' G' H' σ' fr' (b2 (xor ng (b == c)) I1) (RkR L H') Q := h1
    rw [show decide (b = c) = (b == c) by cases b <;> cases c <;> rfl]
    exact fin_bl h1 x S1
  | _ => exact absurd h1 id
end
end Air
/-! Air: a term's run (8): chains, walks, rows. -/
namespace Air
open PySem PySem.Spec PyProof.Rows L2
variable [Kf]
section
variable {L : Lg} {W : WX} {X : Cx} {ro ro' : Bool} {G G1 G2 : Gh} {H H1 H2 : Hp} {σ : St} {fr : Fr} {I I1 : Is}
/-! ### chains -/
def tChain3 (r r' r'' : R2) (ta tb tc td : TE) : TE := fun σ H Q => ta σ H fun x H1 => tb σ H1 fun y H2 => r x y H2 fun z H3 => ∃ k, z = .bl k ∧
  (if k = true then tc σ H3 fun w H4 => r' y w H4 fun z' H5 => ∃ k', z' = .bl k' ∧ (if k' = true then td σ H5 fun u H6 => r'' w u H6 Q else Q (.bl false) H5) else Q (.bl false) H3)
section
variable {a b c d : Expr} {ta tb tc td : TE} {pos : Pos}
theorem pe_chain3 {op op' op'' : CmpOp} {r r' r'' : R2} (ho : OpR X (compareOp op) r) (ho' : OpR X (compareOp op') r') (ho'' : OpR X (compareOp op'') r'') (ha : PE X a ta) (hb : PE X b tb) (hc : PE X c tc) (hd : PE X d td)
    (hm : lastMarks [op, op', op''] [b, c, d] = false) : PE X (.Compare a [op, op', op''] [b, c, d] pos) (tChain3 r r' r'' ta tb tc td) := by
  refine ⟨fun pins s σ H Q I h => ?_⟩
  refine Compare_chain (thn (ha.run pins s σ H _ I h) fun v s1 ⟨x, H1, I1, r1, q1⟩ => chain_link (thn (hb.run pins s1 σ H1 _ I1 q1) fun u s2 ⟨y, H2, I2, r2, q2⟩ =>
    thn (ho pins s2 σ H2 x y v u _ I2 r1 r2 q2) fun d s3 ⟨z, H3, I3, r3, k, e, q3⟩ => ?_)) hm
  subst e
  cases r3
  refine wpAny_truthy_bool ?_
  cases k with
  | false => exact ite_ff ⟨.bl false, H3, I3, rfl, q3⟩
  | true =>
    refine ite_tt (chain_link (thn (hc.run pins s3 σ H3 _ I3 q3) fun w' s4 ⟨z', H4, I4, r4, q4⟩ => thn (ho' pins s4 σ H4 y z' u w' _ I4 r2 r4 q4) fun d' s5 ⟨z2, H5, I5, r5, k2, e2, q5⟩ => ?_))
    subst e2
    cases r5
    refine wpAny_truthy_bool ?_
    cases k2 with
    | false => exact ite_ff ⟨.bl false, H5, I5, rfl, q5⟩
    | true => exact ite_tt (chain_last (thn (hd.run pins s5 σ H5 _ I5 q5) fun w2 s6 ⟨z3, H6, I6, r6, q6⟩ => ho'' pins s6 σ H6 z' z3 w' w2 Q I6 r4 r6 q6))
theorem pt_chain3 {op op' op'' : CmpOp} {r r' r'' : R2} (ho : OpR X (compareOp op) r) (ho' : OpR X (compareOp op') r') (ho'' : OpR X (compareOp op'') r'') (ha : PE X a ta) (hb : PE X b tb) (hc : PE X c tc) (hd : PE X d td)
    (hm : lastMarks [op, op', op''] [b, c, d] = false) : PT X (.Compare a [op, op', op''] [b, c, d] pos) (tTest (tChain3 r r' r'' ta tb tc td)) := by
  refine ⟨fun pins s σ H Q I h => ?_⟩
  refine isTrue_chain (thn (ha.run pins s σ H _ I h) fun v s1 ⟨x, H1, I1, r1, q1⟩ => test_link (thn (hb.run pins s1 σ H1 _ I1 q1) fun u s2 ⟨y, H2, I2, r2, q2⟩ =>
    thn (ho pins s2 σ H2 x y v u _ I2 r1 r2 q2) fun d s3 ⟨z, H3, I3, r3, k, e, q3⟩ => ?_)) hm
  subst e
  cases r3
  refine wpAny_truthy_bool ?_
  cases k with
  | false =>
    obtain ⟨k', e', q'⟩ := q3
    cases e'
    exact ite_ff ⟨H3, I3, q'⟩
  | true =>
    refine ite_tt (test_link (thn (hc.run pins s3 σ H3 _ I3 q3) fun w' s4 ⟨z', H4, I4, r4, q4⟩ => thn (ho' pins s4 σ H4 y z' u w' _ I4 r2 r4 q4) fun d' s5 ⟨z2, H5, I5, r5, k2, e2, q5⟩ => ?_))
    subst e2
    cases r5
    refine wpAny_truthy_bool ?_
    cases k2 with
    | false =>
      obtain ⟨k', e', q'⟩ := q5
      cases e'
      exact ite_ff ⟨H5, I5, q'⟩
    | true =>
      refine ite_tt (test_last (thn (hd.run pins s5 σ H5 _ I5 q5) fun w2 s6 ⟨z3, H6, I6, r6, q6⟩ => thn (ho'' pins s6 σ H6 z' z3 w' w2 _ I6 r4 r6 q6) fun d2 s7 ⟨z4, H7, I7, r7, k3, e3, q7⟩ => ?_))
      subst e3
      cases r7
      exact wpAny_truthy_bool ⟨H7, I7, q7⟩
end
theorem te_ch2 {o1 o2 : Co} {a b c : Tm} {Q : VK} (h : te L W (.ch2 o1 o2 a b c) σ H Q) : tChain (TwoB L o1) (TwoB L o2) (te L W a) (te L W b) (te L W c) σ H Q := by
  obtain ⟨ro, G, fr, I, S, h⟩ := h
  simp only [ev] at h
  refine ⟨ro, G, fr, I, S, PR.imp (PR.bind (rel := RkR L H) h) (fun _ _ _ _ r => r) ?_⟩
  rintro x H1 ⟨p, I1, G1, _, e1, S1, r1, h1⟩
  refine te.imp (te_next e1 S1 h1) ?_
  rintro y H2 ⟨q, I2, G2, y1, y2, S2, r2, h2⟩
  refine ⟨ro, G2, H, σ, fr, p, q, I2, S2, r1.later S1 y2, r2, ?_⟩
  rcases cmpD_b o1 p.1 q.1 I2 with z | ⟨k, z⟩
  · rw [z] at h2; exact absurd h2 id
  · rw [z] at h2 ⊢
    refine ⟨k, rfl, ?_⟩
    have h2 : PR L W ro G H σ fr (bif k then (ev L.cn L.cf c (ro || isInst q.2) fr I2).bind fun r I => cmpD o2 q.1 r.1 I else b2 false I2) (RkR L H) Q := h2
    cases k with
    | false => rw [if_neg Bool.false_ne_true]; exact fin_bl h2 y1 S2
    | true =>
      rw [if_pos rfl]
      refine te.imp (te_next (k := q.2) y1 S2 h2) ?_
      rintro w H3 ⟨r, I3, G3, z1, z2, S3, r3, h3⟩
      exact ⟨ro, G3, H, σ, fr, q, r, I3, S3, r2.later S2 z2, r3, h3.pb z1 S3⟩
theorem te_ch3 {o1 o2 o3 : Co} {a b c d : Tm} {Q : VK} (h : te L W (.ch3 o1 o2 o3 a b c d) σ H Q) : tChain3 (TwoB L o1) (TwoB L o2) (TwoB L o3) (te L W a) (te L W b) (te L W c) (te L W d) σ H Q := by
  obtain ⟨ro, G, fr, I, S, h⟩ := h
  simp only [ev] at h
  refine ⟨ro, G, fr, I, S, PR.imp (PR.bind (rel := RkR L H) h) (fun _ _ _ _ r => r) ?_⟩
  rintro x H1 ⟨p, I1, G1, _, e1, S1, r1, h1⟩
  refine te.imp (te_next e1 S1 h1) ?_
  rintro y H2 ⟨q, I2, G2, y1, y2, S2, r2, h2⟩
  refine ⟨ro, G2, H, σ, fr, p, q, I2, S2, r1.later S1 y2, r2, ?_⟩
  rcases cmpD_b o1 p.1 q.1 I2 with z | ⟨k, z⟩
  · rw [z] at h2; exact absurd h2 id
  · rw [z] at h2 ⊢
    refine ⟨k, rfl, ?_⟩
    have h2 : PR L W ro G H σ fr (bif k then (ev L.cn L.cf c (ro || isInst q.2) fr I2).bind fun r I => (cmpD o2 q.1 r.1 I).tst fun t I =>
        bif t then (ev L.cn L.cf d (ro || isInst r.2) fr I).bind fun u I => cmpD o3 r.1 u.1 I else b2 false I else b2 false I2) (RkR L H) Q := h2
    cases k with
    | false => rw [if_neg Bool.false_ne_true]; exact fin_bl h2 y1 S2
    | true =>
      rw [if_pos rfl]
      refine te.imp (te_next (k := q.2) y1 S2 h2) ?_
      rintro w H3 ⟨r, I3, G3, z1, z2, S3, r3, h3⟩
      refine ⟨ro, G3, H, σ, fr, q, r, I3, S3, r2.later S2 z2, r3, ?_⟩
      rcases cmpD_b o2 q.1 r.1 I3 with z | ⟨k, z⟩
      · rw [z] at h3; exact absurd h3 id
      · rw [z] at h3 ⊢
        refine ⟨k, rfl, ?_⟩
        have h3 : PR L W ro G H σ fr (bif k then (ev L.cn L.cf d (ro || isInst r.2) fr I3).bind fun u I => cmpD o3 r.1 u.1 I else b2 false I3) (RkR L H) Q := h3
        cases k with
        | false => rw [if_neg Bool.false_ne_true]; exact fin_bl h3 z1 S3
        | true =>
          rw [if_pos rfl]
          refine te.imp (te_next (k := r.2) z1 S3 h3) ?_
          rintro w2 H4 ⟨u, I4, G4, u1, u2, S4, r4, h4⟩
          exact ⟨ro, G4, H, σ, fr, r, u, I4, S4, r3.later S3 u2, r4, h4.pb u1 S4⟩
/-- a value's reading as a test -/
theorem te_bl {t : Tm} {Q : Bool → Hp → Prop} (h : tt L W t σ H Q) : te L W t σ H (fun x H' => ∃ k, x = .bl k ∧ Q k H') := tt_te h
/-! ### rows -/
theorem Rks.from {H0 : Hp} : ∀ {ps : List (D × Kd)} {vs : List V}, Rks L H1 G2 H2 ps vs → (∀ a, H1 a = none → H0 a = none) → Rks L H0 G2 H2 ps vs
  | _, _, .nil, _ => .nil
  | _, _, .cons r rs, k => .cons (r.from k) (Rks.from rs k)
theorem zpK_ok {p q k : Kd} (h : zpK p q = some k) : (p = .inst → k = .inst) ∧ (p = .own → k = .own) ∧ (q = .inst → k = .inst) ∧ (q = .own → k = .own) := by
  cases p <;> cases q <;> cases k <;> first | (exact absurd h (by decide)) | decide
theorem ta_next {t : Tm} {k : Bool} {γ : Type} {f : List (D × Kd) → Is → R γ} {β : Type} {rel' : Gh → Hp → γ → β → Prop} {Q : β → Hp → Prop} (x : Ext ro G H G1 H1) (S1 : Sx L.c ro G1 fr I1 σ H1)
    (h : PR L W ro G H σ fr ((evK L.cn L.cf t (ro || k) fr I1).bind f) rel' Q) :
    ta L W t σ H1 (fun vs H2 => ∃ ps I2 G2, Ext ro G H G2 H2 ∧ Ext (ro || k) G1 H1 G2 H2 ∧ Sx L.c ro G2 fr I2 σ H2 ∧ (Rks L H1 G2 H2 ps vs ∧ (nwA ps vs).Nodup) ∧ PR L W ro G H σ fr (f ps I2) rel' Q) := by
  have h1 := PR.bind (β := List V) (rel := fun G' H' (ps : List (D × Kd)) vs => (Rks L H1 G' H' ps vs ∧ (nwA ps vs).Nodup) ∧ Ext (ro || k) G1 H1 G' H') h
  refine ⟨ro || k, G1, fr, I1, ?_, ?_⟩
  · cases k with
    | false => rw [Bool.or_false]; exact S1
    | true =>
      rw [Bool.or_true]
      cases ro with
      | true => exact S1
      | false => exact S1.weak true
  · refine PR.at (rel1 := fun G' H' ps vs => Rks L H1 G' H' ps vs ∧ (nwA ps vs).Nodup) x S1 ?_ (fun G' H' p v y S r => ⟨r, y⟩) (h1.imp (fun _ _ _ _ r => r) ?_)
    · cases k with
      | false => exact .inl (Bool.or_false _)
      | true => exact .inr ⟨Bool.or_true _, by rw [Bool.or_true]; exact (ev_keeps t).2.1 _ _⟩
    · rintro v H2 ⟨q, I2, G2, _, y, S2, ⟨r1, r2⟩, h2⟩
      exact ⟨q, I2, G2, y, r2, S2, r1, h2⟩
theorem nwA_new {H0 : Hp} : ∀ {ps : List (D × Kd)} {vs : List V}, Rks L H0 G H ps vs → ∀ a ∈ nwA ps vs, H0 a = none
  | _, _, .nil, a, h => by simp [nwA] at h
  | _, _, .cons r rs, a, h => by
    rcases List.mem_append.mp h with z | z
    · cases r with
      | new e h' h0 h1 h2 h3 =>
        rw [List.mem_singleton.mp z]; exact h0
      | fro h' => simp at z
      | own e h' m => simp at z
      | inst e h' m => simp at z
      | cst h' r' => simp at z
    · exact nwA_new rs a z
theorem ta_cons {a b : Tm} {Q : List V → Hp → Prop} (h : ta L W (.cons a b) σ H Q) : tCons (te L W a) (ta L W b) σ H Q := by
  obtain ⟨ro, G, fr, I, S, h⟩ := h
  simp only [evK] at h
  refine ⟨ro, G, fr, I, S, PR.imp (PR.bind (rel := RkR L H) h) (fun _ _ _ _ r => r) ?_⟩
  rintro x H1 ⟨p, I1, G1, _, e1, S1, r1, h1⟩
  obtain ⟨ro2, G2, fr2, I2, S2, h2⟩ := ta_next e1 S1 h1
  refine ⟨ro2, G2, fr2, I2, S2, h2.imp (fun _ _ _ _ r => r) ?_⟩
  rintro vs H2 ⟨ps, I3, G3, y1, y2, S3, ⟨r3, n3⟩, h3⟩
  refine h3 _ G3 H2 y1 S3 ⟨.cons (r1.later S1 y2) (r3.from e1.dom), ?_⟩
  refine List.nodup_append.mpr ⟨?_, n3, fun u hu w hw e => ?_⟩
  · split <;> simp
  · subst e
    have hn := nwA_new r3 u hw
    cases r1 with
    | new e h' h0 h1 h2 h3 => rw [List.mem_singleton.mp hu] at hn; exact h'.some hn
    | fro h' => simp at hu
    | own e h' m => simp at hu
    | inst e h' m => simp at hu
    | cst h' r' => simp at hu
/-! ### what is walked -/
def iAny (K : PySem.W.Frag) (tl : TE) : TI := fun σ H R => tl σ H fun x H1 => (∃ a, x = .ref a ∧ (∃ xs, SqL K H1 a xs) ∧ R (Itl K a) H1) ∨ (∃ a, x = .ref a ∧ (∃ xs, SqT K H1 a xs) ∧ R (Itt K a) H1) ∨ ∃ z, x = .str z ∧ R (Its z) H1
theorem pi_any {l tg : Expr} {tl : TE} (hl : PE X l tl) : PI X tg l (iAny X.K tl) := by
  refine ⟨fun pins s σ H R I h => ?_⟩
  refine thn (hl.run pins s σ H _ I h) fun v s1 ⟨x, H1, I1, r1, q1⟩ => ?_
  rcases q1 with ⟨a, e, ⟨xs, hq⟩, q⟩ | ⟨a, e, ⟨xs, hq⟩, q⟩ | ⟨z, ex, q⟩
  · subst e
    cases r1
    obtain ⟨its, rv, p, hz⟩ := I1.list hq
    refine wpAny_pyIter_list p.isList ?_
    refine ⟨s1.heap.objs.size, [s1.heap.objs.size], _, _, H1, rfl, I1.kept (t' := s1.toks) fun b o e => Heap.get?_push_of_some _ e, turn_list a _, ⟨_, Heap.get?_push_size _ rfl, rfl, rfl⟩, fun b hb => ?_, q⟩
    have e : b = s1.heap.objs.size := by simpa using hb
    subst e
    exact I1.fpOk (Nat.le_refl _) (I1.hok.fresh (Nat.le_refl _))
  · subst e
    cases r1
    obtain ⟨its, rv, p, hz⟩ := I1.tuple hq
    refine wpAny_pyIter_tuple (show s1.heap.IsTuple a its.toArray from p) ?_
    refine ⟨s1.heap.objs.size, [s1.heap.objs.size], _, _, H1, rfl, I1.kept (t' := s1.toks) fun b o e => Heap.get?_push_of_some _ e, turn_tuple a _, ⟨_, Heap.get?_push_size _ rfl, rfl, rfl⟩, fun b hb => ?_, q⟩
    have e : b = s1.heap.objs.size := by simpa using hb
    subst e
    exact I1.fpOk (Nat.le_refl _) (I1.hok.fresh (Nat.le_refl _))
  · subst ex
    obtain ⟨t, rfl⟩ := r1
    cases ha : z.cps.all (· < 128)
    · exact wpAny_pyIter_wide ha (pi_one (tk := s1.toks) I1 _ (turn_str _ z t "str_iterator" (.inr rfl)) ⟨_, Heap.get?_push_size _ rfl, rfl, rfl⟩ q)
    · exact wpAny_pyIter_ascii ha (pi_one (tk := s1.toks) I1 _ (turn_str _ z t "str_ascii_iterator" (.inl rfl)) ⟨_, Heap.get?_push_size _ rfl, rfl, rfl⟩ q)
theorem ti_any (hK : X.K = L.K) {a : Tm} {R' : It → Hp → Prop} (h : ti L W (.cons a .nil) σ H R') : iAny X.K (te L W a) σ H R' := by
  obtain ⟨ro, G, fr, I, S, h⟩ := h
  simp only [evI] at h
  refine ⟨ro, G, fr, I, S, PR.imp (PR.bind (rel := RkR L H) h) (fun _ _ _ _ r => r) ?_⟩
  rintro x H1 ⟨⟨d, k⟩, I1, G1, _, e1, S1, r1, h1⟩
  cases d with
  | lst ds =>
    obtain ⟨b, vs, rfl, hb, rb, n1, n2⟩ := src_lst S1 r1
    exact .inl ⟨b, rfl, ⟨vs, .of hb⟩, h1 _ G1 H1 e1 S1 (wk_lst hb rb n1 n2)⟩
  | tup ds =>
    have h1 : PR L W ro G H σ fr (match (bif decide (k = .cst) then none else some (ds, k)) with | some r => .ok r I1 | none => .bad) (fun G' H' p J => WkR G' H' p J) R' := h1
    cases r1 with
    | cst => exact absurd h1 id
    | own e | inst e | new e => cases e
    | fro r1 =>
      cases r1 with
      | tup e r => exact .inr (.inl ⟨_, rfl, ⟨_, .of (S1.sub _ _ e).tup⟩, h1 _ G1 H1 e1 S1 (wk_tup S1 e r)⟩)
  | scr ns =>
    cases r1 with
    | own e | inst e | new e => cases e
    | fro r1 =>
      cases r1 with
      | scr e => exact .inl ⟨_, rfl, ⟨_, .inl (.inr ⟨_, (S1.sub _ _ e).frz⟩)⟩, h1 _ G1 H1 e1 S1 (wk_scr S1 e)⟩
      | scrL e =>
        have hs := (S1.sub _ _ e).lst
        exact .inl ⟨_, rfl, ⟨_, .of hs⟩, h1 _ G1 H1 e1 S1 (wk_lst hs (.ints ns) (.inr fun z => (by rw [S1.sep _ (List.mem_append_right _ z)] at e; cases e)) (.inr fun z => (by rw [S1.sep _ (List.mem_append_left _ z)] at e; cases e)))⟩
      | scrK e =>
        rw [hK]
        exact .inl ⟨_, rfl, ⟨_, e H1⟩, h1 _ G1 H1 e1 S1 (wk_scrK e)⟩
  | str z =>
    obtain ⟨rfl, hz⟩ := r1.str
    exact .inr (.inr ⟨z, rfl, h1 _ G1 H1 e1 S1 (wk_str hz)⟩)
  | _ => exact absurd h1 id
theorem big_ok {i : Int} (h : big62 i = true) : -(2 ^ 62) ≤ i ∧ i < 2 ^ 62 := by
  unfold big62 at h
  simp only [Bool.and_eq_true, decide_eq_true_eq] at h
  omega
theorem ti_rng1 {a : Tm} {R' : It → Hp → Prop} (h : ti L W (.rng1 a) σ H R') : iRng1 (tCons (te L W a) tNil) σ H R' := by
  obtain ⟨ro, G, fr, I, S, h⟩ := h
  simp only [evI] at h
  refine ⟨ro, G, fr, I, S, PR.imp (PR.bind (rel := RkR L H) h) (fun _ _ _ _ r => r) ?_⟩
  rintro x H1 ⟨⟨d, k⟩, I1, G1, _, e1, S1, r1, h1⟩
  cases d with
  | int n =>
    obtain ⟨hb, h1⟩ := PR.cond (show PR L W ro G H σ fr (bif big62 n then .ok (rngL 0 n, .fro) I1 else .bad) (fun G' H' p J => WkR G' H' p J) R' from h1)
    have hb := big_ok hb
    refine ⟨n, by rw [r1.int], hb.1, hb.2, h1 _ G1 H1 e1 S1 ?_⟩
    have := wk_rng (G := G1) (H := H1) (lo := 0) (hi := n) (k := .fro)
    rwa [Int.sub_zero] at this
  | _ => exact absurd h1 id
theorem ti_rng2 {a b : Tm} {R' : It → Hp → Prop} (h : ti L W (.rng2 a b) σ H R') : iRng2 (tCons (te L W a) (tCons (te L W b) tNil)) σ H R' := by
  obtain ⟨ro, G, fr, I, S, h⟩ := h
  simp only [evI] at h
  refine ⟨ro, G, fr, I, S, PR.imp (PR.bind (rel := RkR L H) h) (fun _ _ _ _ r => r) ?_⟩
  rintro x H1 ⟨⟨d, k⟩, I1, G1, hev, e1, S1, r1, h1⟩
  clear hev
  refine te.imp (te_next (k := k) e1 S1 h1) ?_
  rintro y H2 ⟨⟨e, k2⟩, I2, G2, y1, y2, S2, r2, h2⟩
  cases d <;> cases e <;> try (exact absurd h2 id)
  rename_i l n
  obtain ⟨hb, h2⟩ := PR.cond (show PR L W ro G H σ fr (bif big62 l && big62 n then .ok (rngL l n, .fro) I2 else .bad) (fun G' H' p J => WkR G' H' p J) R' from h2)
  rw [Bool.and_eq_true] at hb
  have h3 := big_ok hb.1
  have h4 := big_ok hb.2
  exact ⟨l, n, by rw [r1.int, r2.int], ⟨h3.1, h3.2, h4.1, h4.2⟩, h2 _ G2 H2 y1 S2 wk_rng⟩
theorem ti_enm (hK : X.K = L.K) {a : Tm} {R' : It → Hp → Prop} (h : ti L W (.enm a) σ H R') : iEnum X.K (tCons (te L W a) tNil) σ H R' := by
  obtain ⟨ro, G, fr, I, S, h⟩ := h
  simp only [evI] at h
  refine ⟨ro, G, fr, I, S, PR.imp (PR.bind (rel := RkR L H) h) (fun _ _ _ _ r => r) ?_⟩
  rintro x H1 ⟨⟨d, k⟩, I1, G1, hev, e1, S1, r1, h1⟩
  clear hev
  cases d with
  | lst ds =>
    obtain ⟨b, vs, rfl, hb, rb, n1, n2⟩ := src_lst S1 r1
    exact ⟨b, vs, rfl, .of hb, h1 _ G1 H1 e1 S1 (wk_enm hb rb n1 n2)⟩
  | _ => exact absurd h1 id
theorem ti_zp (hK : X.K = L.K) {a b : Tm} {R' : It → Hp → Prop} (h : ti L W (.zp a b) σ H R') : iZip X.K (tCons (te L W a) (tCons (te L W b) tNil)) σ H R' := by
  obtain ⟨ro, G, fr, I, S, h⟩ := h
  simp only [evI] at h
  refine ⟨ro, G, fr, I, S, PR.imp (PR.bind (rel := RkR L H) h) (fun _ _ _ _ r => r) ?_⟩
  rintro x H1 ⟨⟨d, k⟩, I1, G1, hev, e1, S1, r1, h1⟩
  clear hev
  refine te.imp (te_next (k := k) e1 S1 h1) ?_
  rintro y H2 ⟨⟨e, k2⟩, I2, G2, y1, y2, S2, r2, h2⟩
  cases d <;> cases e <;> try (exact absurd h2 id)
  rename_i ds es
  have r1' := r1.later S1 y2
  obtain ⟨u, vs, rfl, hu, ru, n1, n2⟩ := src_lst S2 r1'
  obtain ⟨v, ws, rfl, hv, rv, m1, m2⟩ := src_lst S2 r2
  have h2 : PR L W ro G H σ fr (match zpK k k2 with | some k => .ok (zpL ds es, k) I2 | none => .bad) (fun G' H' p J => WkR G' H' p J) R' := h2
  cases e3 : zpK k k2 with
  | none => rw [e3] at h2; exact absurd h2 id
  | some kk =>
    rw [e3] at h2
    obtain ⟨z1, z2, z3, z4⟩ := zpK_ok e3
    exact ⟨u, v, vs, ws, rfl, .of hu, .of hv, h2 _ G2 H2 y1 S2 (wk_zp hu ru (n1.imp z1 id) (n2.imp z2 id) hv rv (m1.imp z3 id) (m2.imp z4 id))⟩
end
end Air
/-! Air: min of a list with a default. -/
namespace Air
open PySem PySem.Spec PyProof.Rows L2
variable [Kf]
theorem foldl_minL : ∀ (r : List Int) (n : Int), r.foldl min n = minL (n :: r)
  | [], n => rfl
  | b :: r, n => by
    rw [List.foldl_cons, foldl_minL r]
    cases r with
    | nil => rfl
    | cons c r =>
      show min (min n b) (minL (c :: r)) = min n (min b (minL (c :: r)))
      omega
def KwTwo (L : Lg) (f : List (D × Kd) → Is → R (D × Kd)) : List V → List V → Hp → VK → Prop := fun xs zs H2 Q => ∃ W ro G H σ fr p q I2 G2 v z, xs = [v] ∧ zs = [z] ∧ Ext ro G H G2 H2 ∧ Sx L.c ro G2 fr I2 σ H2 ∧ Rk L H G2 H2 p v ∧ Rk L H G2 H2 q z ∧ PR L W ro G H σ fr (f [p, q] I2) (RkR L H) Q
section
variable {L : Lg} {X : Cx}
theorem dp_ints (K : PySem.W.Frag) (H : Hp) : ∀ ns : List Int, DpAll K H (ns.map V.int) (ns.map PyData.int)
  | [] => .nil
  | n :: ns => .cons (.int n) (dp_ints K H ns)
theorem depth_ints : ∀ ns : List Int, PyData.depthAll (ns.map PyData.int) ≤ 1
  | [] => by simp [PyData.depthAll]
  | n :: ns => by
    have := depth_ints ns
    simp only [List.map_cons, PyData.depthAll, PyData.depth]; omega
theorem minD_run (hc : X.calm = true) (hu : X.A.units + 64 < cLine) : CallRK X (.builtin "min") [Str.ofString "default"] (KwTwo L (biD .minD)) := by
  intro pins s σ H2 xs zs us ws Q J r rz h
  obtain ⟨W, ro, G, H, σ', fr, ⟨d, k⟩, ⟨e, k2⟩, I2, G2, v, z, rfl, rfl, ex, S, hv, hz, h⟩ := h
  cases d <;> try (exact absurd h id)
  rename_i ds
  cases e <;> try (exact absurd h id)
  rename_i m
  obtain ⟨a, vs, rfl, ha, ra⟩ := hv.lst S
  obtain rfl := hz.int
  obtain ⟨u, rfl, ru⟩ := vals1 r
  cases ru
  obtain ⟨uz, rfl, rz'⟩ := vals1 rz
  obtain ⟨t, rfl⟩ := rz'
  have h : PR L W ro G H σ' fr (match intsD ds with | some [] => .ok (.int m, .fro) I2 | some (n :: ns) => .ok (.int (minL (n :: ns)), .fro) I2 | none => .bad) (RkR L H) Q := h
  cases q : intsD ds with
  | none => rw [q] at h; exact absurd h id
  | some ns =>
    rw [q] at h
    have e := ra.intsD q
    subst e
    obtain ⟨its, rv, p, hz'⟩ := J.list (SqL.of (K := X.K) ha)
    obtain ⟨as, hr⟩ := Dp.readsAll J (ns.map PyData.int) _ its (dp_ints X.K H2 ns) rv
    have hd := depth_ints ns
    refine PySem.W.min_list_default (J.ok.hd hc) p.isList (by simpa using hr) ⟨fun x hx y hy => ?_, fun x hx => ?_⟩ (by omega) (fun h0 h' tk kp => ?_) (fun y ys i w h' tk bs he hw hrd kp => ?_)
    · obtain ⟨i, _, rfl⟩ := List.mem_map.mp hx
      obtain ⟨j, _, rfl⟩ := List.mem_map.mp hy
      simp only [PySem.W.alike]
    · obtain ⟨i, _, rfl⟩ := List.mem_map.mp hx
      exact fun z => by cases z
    · cases ns with
      | nil => exact ⟨.int m, H2, J.kept kp, ⟨t, rfl⟩, fin_fro h ex S (.int _)⟩
      | cons n ns => cases h0
    · cases ns with
      | nil => cases he
      | cons n ns =>
        rw [List.map_cons] at he
        injection he with h1 h2
        subst h1 h2
        rw [PySem.W.minD_ints, foldl_minL] at hrd
        cases hrd
        exact ⟨.int (minL (n :: ns)), H2, J.kept kp, ⟨_, rfl⟩, fin_fro h ex S (.int _)⟩
theorem bind_assoc' {α β γ : Type} (r : R α) (f : α → Is → R β) (g : β → Is → R γ) : (r.bind f).bind g = r.bind fun a I => (f a I).bind g := by cases r <;> rfl
variable {W : WX}
theorem te_two_row {f : Bi} {a b : Tm} {σ : St} {H : Hp} {Q : VK} (h : te L W (.blt f (.cons a (.cons b .nil))) σ H Q) : te L W a σ H (fun x H1 => te L W b σ H1 fun y H2 => KwTwo L (biD f) [x] [y] H2 Q) := by
  obtain ⟨ro, G, fr, I, S, h⟩ := h
  have e : ev L.cn L.cf (.blt f (.cons a (.cons b .nil))) ro fr I = (ev L.cn L.cf a ro fr I).bind fun p I => (ev L.cn L.cf b (ro || isInst p.2) fr I).bind fun q I => biD f [p, q] I := by
    simp only [ev, evK]
    cases ev L.cn L.cf a ro fr I with
    | ok p I1 =>
      simp only [R.bind]
      cases ev L.cn L.cf b (ro || isInst p.2) fr I1 <;> rfl
    | exc x I1 => rfl
    | bad => rfl
  rw [e] at h
  refine te.imp (te_two (f := fun p q I => biD f [p, q] I) S h) fun x H1 q => te.imp q fun y H2 q2 => ?_
  obtain ⟨W', ro', G', H', σ', fr', p, q, I2, G2, ex, S2, hx, hy, h2⟩ := q2
  exact ⟨W', ro', G', H', σ', fr', p, q, I2, G2, x, y, rfl, rfl, ex, S2, hx, hy, h2⟩
end
end Air
/-! Air: calls of methods, calls with keywords, new instances. -/
namespace Air
open PySem PySem.Spec PyProof.Rows L2
variable [Kf]
/-! ### the machine's side -/
section
variable {X : Cx} {pins : List (Addr × Obj)} {σ : L2.St} {H : Hp} {s : Shared}
/-- the names of keywords -/
def kwNms (kws : List Keyword) : List Str := kws.filterMap (·.arg)
theorem kw_some {pos : Pos} {env : Env} : ∀ {kws : List Keyword}, (∀ k ∈ kws, k.arg.isSome = true) → (backToKw pos (keywordEach kws env)).all (·.1.isSome) = true ∧ (backToKw pos (keywordEach kws env)).any (·.1.isNone) = false ∧ (backToKw pos (keywordEach kws env)).filterMap (·.1) = kwNms kws
  | [], _ => ⟨rfl, rfl, rfl⟩
  | ⟨none, _, _⟩ :: _, h => by have := h _ List.mem_cons_self; cases this
  | ⟨some x, v, p⟩ :: kws, h => by
    obtain ⟨h1, h2, h3⟩ := kw_some (pos := pos) (env := env) fun k hk => h k (List.mem_cons_of_mem _ hk)
    refine ⟨?_, ?_, ?_⟩
    · show (true && (backToKw pos (keywordEach kws env)).all (·.1.isSome)) = true
      rw [h1]; rfl
    · show (false || (backToKw pos (keywordEach kws env)).any (·.1.isNone)) = false
      rw [h2]; rfl
    · show x :: (backToKw pos (keywordEach kws env)).filterMap (·.1) = x :: kwNms kws
      rw [h3]
theorem star_all {pos : Pos} {env : Env} : ∀ {es : List Expr}, (∀ e ∈ es, notStar e = true) → (backTo pos (starEach es env)).all (fun x => !x.1) = true
  | [], _ => rfl
  | e :: es, h => by
    rw [star_of (h e List.mem_cons_self)]
    show (!false && (backTo pos (starEach es env)).all (fun x => !x.1)) = true
    rw [star_all fun x hx => h x (List.mem_cons_of_mem _ hx)]; rfl
/-- a function is called: the values by place, then those by keyword -/
theorem with_any {es : List Expr} {kws : List Keyword} {t tk : TA} {f : Addr} {first : List Value} {pos : Pos} {Q : Value → Shared → Prop} (hk : PySem.W.keepIn X.K (.ref f) = true) (hst : ∀ e ∈ es, notStar e = true) (hkw : ∀ k ∈ kws, k.arg.isSome = true) (ha : PA X es t) (h0 : es = [] → t = tNil) (hkk : PK X kws tk)
    {R : List V → List V → Hp → Prop} (J : Inv X pins σ H s) (h : t σ H fun vs H1 => tk σ H1 fun zs H2 => R vs zs H2) (hc : ∀ vs zs H2 us ws s2, R vs zs H2 → Inv X pins σ H2 s2 → Vals vs us → Vals zs ws → wpAny (model X.prog X.w) X.A (call (.ref f) (first ++ us) ((kwNms kws).zip ws)) Q X.xe s2) :
    wpAny (model X.prog X.w) X.A (callWith pos (.ref f) first (backTo pos (starEach es X.env)) (backToKw pos (keywordEach kws X.env))) Q X.xe s := by
  obtain ⟨k1, k2, k3⟩ := kw_some (pos := pos) (env := X.env) hkw
  cases es with
  | nil =>
    rw [h0 rfl] at h
    refine PySem.W.callWith_KW0 (h₀ := X.base) J.ok.mod.kin hk k1 ?_ (by show (false || _) = false; rw [k2]; rfl)
    refine thn (hkk.run pos pins s σ H _ J h) fun ws s2 ⟨zs, H2, I2, rz, q2⟩ => ⟨I2.kIn, ?_⟩
    rw [k3]
    exact hc _ _ _ [] ws s2 q2 I2 .nil rz
  | cons e es =>
    refine PySem.W.callWith_KW (h₀ := X.base) J.ok.mod.kin hk k1 (thn (ha.run pos pins s σ H _ J h) fun us s1 ⟨vs, H1, I1, r, q⟩ => ?_) (by rw [k2, back_ok hst]; rfl) (star_of (hst e List.mem_cons_self) es X.env)
    refine thn (hkk.run pos pins s1 σ H1 _ I1 q) fun ws s2 ⟨zs, H2, I2, rz, q2⟩ => ⟨I2.kIn, ?_⟩
    rw [k3]
    exact hc _ _ _ us ws s2 q2 I2 r rz
/-- the tree of a method's call -/
theorem meth_tree {o : Expr} {m : Str} {apos pos : Pos} {es : List Expr} {kws : List Keyword} {env : Env} (hb : attributeBase o m env (eval o env) = eval o env) (hf : methodCallForm (es.length + kws.length) (backTo pos (starEach es env)) (backToKw pos (keywordEach kws env)) = true) (hl : (apos.endLine == pos.line) = true) :
    eval (.Call (.Attribute o m apos) es kws pos) env = (do
      let ov ← eval o env
      standAt apos.atName
      let (f, first) ← holding [ov] (getMethod ov m (do return (← importBound o env).getD true))
      callWith pos f first (backTo pos (starEach es env)) (backToKw pos (keywordEach kws env))) := by
  refine mcall_of hb fun ov => ?_
  unfold methodCall calleeOf methodCallPos
  simp only [hf, hl, Bool.not_true, Bool.false_or, if_true, pure_bind]
theorem rcv_base {o : Expr} {m : Str} {env : Env} (h : rcvB o = true) : attributeBase o m env (eval o env) = eval o env := by
  unfold rcvB at h
  split at h
  · rfl
  · rfl
  · cases h
/-- o.m(e, .., k = v, ..) by a promise -/
def tMethG (C : Addr) (m : Str) (sp : Sp) (gV : List V → List V → List V) (n k : Nat) (E : St → XK) (ta : TE) (t tk : TA) : TE := fun σ H Q => ta σ H fun x H1 => ∃ a dx fs, x = .ref a ∧ H1 a = some (.ins C dx fs) ∧ fs.lookup m = none ∧
  t σ H1 fun vs H2 => tk σ H2 fun zs H3 => vs.length + 1 = n ∧ zs.length = k ∧ sp (gV (x :: vs) zs) H3 Q (E σ)
theorem run_fnNS {CX : CXT} {k n : Nat} {f : Addr} {fd : FuncData} {ps ks : List Str} {sp : Sp} {E : St → XK} {g : List Value → List Value → List Value} {gV : List V → List V → List V} {Q : VK} {us ws : List Value} {vs zs : List V} (F : FnOk X.prog X.w X.K X.mg X.base CX k f fd ps sp) (hr : Room k X.A) (hb : KBn X.K fd ps n ks g gV) (hx : PassesAt CX X σ (E σ))
    (I : Inv X pins σ H s) (r : Vals vs us) (rz : Vals zs ws) (l1 : vs.length = n) (l2 : zs.length = ks.length) (h : sp (gV vs zs) H Q (E σ)) : wpAny (model X.prog X.w) X.A (call (.ref f) us (ks.zip ws)) (EP X pins σ Q) X.xe s := by
  have r2 := hb.rel r rz
  refine wpAny_call (codeAny_mono (F.run X.A X.stack s H ⟨us, ks.zip ws⟩ (g us ws) (gV vs zs) Q (E σ) hr I.env0 (hb.to s us ws I.kIn (r.length.symm.trans l1) (rz.length.symm.trans l2)) r2 h) fun r s' hq => ?_)
  cases r with
  | error e => exact hx pins H s e s' I hq
  | ok fl =>
    cases fl with
    | ret u => exact I.after hq
    | next => exact False.elim hq
    | brk => exact False.elim hq
    | cont => exact False.elim hq
theorem pe_methG {CX : CXT} {k n : Nat} {f C : Addr} {m : Str} {fd : FuncData} {ps ks : List Str} {sp : Sp} {E : St → XK} {o : Expr} {es : List Expr} {kws : List Keyword} {apos pos : Pos} {te : TE} {t tk : TA} {g : List Value → List Value → List Value} {gV : List V → List V → List V}
    (he : PE X o te) (c : Cls X.K C) (hm : Meth X.K C m f) (F : FnOk X.prog X.w X.K X.mg X.base CX k f fd ps sp) (hr : Room k X.A) (hb : KBn X.K fd ps n ks g gV) (hx : ∀ σ, PassesAt CX X σ (E σ)) (hst : ∀ e ∈ es, notStar e = true) (hkw : ∀ k ∈ kws, k.arg.isSome = true) (hks : kwNms kws = ks) (ha : PA X es t) (h0 : es = [] → t = tNil) (hkk : PK X kws tk)
    (hrc : rcvB o = true) (hl : (apos.endLine == pos.line) = true) (hlen : es.length + kws.length < 25) : PE X (.Call (.Attribute o m apos) es kws pos) (tMethG C m sp gV n ks.length E te t tk) := by
  refine ⟨fun pins s σ H Q I h => ?_⟩
  have hform : methodCallForm (es.length + kws.length) (backTo pos (starEach es X.env)) (backToKw pos (keywordEach kws X.env)) = true := by
    unfold methodCallForm
    rw [star_all hst, (kw_some hkw).1]
    simp only [Bool.true_and, decide_eq_true_eq]
    split <;> omega
  refine PySem.W.methodCall_KW (pl := _) (thn (he.run pins s σ H _ I h) fun u s1 ⟨x, H1, I1, rx, a, dx, fs, ex, ea, l, q⟩ => ?_) (meth_tree (rcv_base hrc) hform hl)
  subst ex
  obtain rfl : u = Value.ref a := rx
  refine getmeth_ok I1 ea c hm l ?_
  refine with_any (first := [.ref a]) hm.kp hst hkw ha h0 hkk I1 q fun vs zs H3 us ws s2 q2 I2 r rz => ?_
  rw [hks]
  exact run_fnNS (us := .ref a :: us) (vs := .ref a :: vs) F hr hb (hx σ) I2 (.cons rfl r) rz (by simpa using q2.1) q2.2.1 q2.2.2
/-- f(e, .., k = v, ..) by a promise -/
def tCallG (sp : Sp) (gV : List V → List V → List V) (n k : Nat) (E : St → XK) (t tk : TA) : TE := fun σ H Q => t σ H fun vs H2 => tk σ H2 fun zs H3 => vs.length = n ∧ zs.length = k ∧ sp (gV vs zs) H3 Q (E σ)
theorem pe_callG {CX : CXT} {k n : Nat} {f : Addr} {x : Str} {fd : FuncData} {ps ks : List Str} {sp : Sp} {E : St → XK} {es : List Expr} {kws : List Keyword} {p pos : Pos} {t tk : TA} {g : List Value → List Value → List Value} {gV : List V → List V → List V}
    (F : FnOk X.prog X.w X.K X.mg X.base CX k f fd ps sp) (hr : Room k X.A) (hg : Gl X x) (hm : X.mg x = some (.ref f)) (hk : PySem.W.keepIn X.K (.ref f) = true) (hb : KBn X.K fd ps n ks g gV) (hx : ∀ σ, PassesAt CX X σ (E σ)) (hst : ∀ e ∈ es, notStar e = true) (hkw : ∀ k ∈ kws, k.arg.isSome = true) (hks : kwNms kws = ks) (ha : PA X es t) (h0 : es = [] → t = tNil) (hkk : PK X kws tk)
    (hdb : (x == ("__debug__" : Str)) = false) : PE X (.Call (.Name x p) es kws pos) (tCallG sp gV n ks.length E t tk) := by
  refine ⟨fun pins s σ H Q I h => ?_⟩
  refine wpAny_Call_Name_kw (ld_glob I hg hm ?_ hdb)
  refine with_any (first := []) hk hst hkw ha h0 hkk I h fun vs zs H3 us ws s2 q2 I2 r rz => ?_
  rw [hks]
  exact run_fnNS F hr hb (hx σ) I2 r rz q2.1 q2.2.1 q2.2.2
/-- no keyword: what Binds says -/
theorem kbn_pos {K : PySem.W.Frag} {fd : FuncData} {ps : List Str} {ds : List Value} {dvs : List V} (hb : Binds K fd ps ds) (hd : Vals dvs ds) {n : Nat} (hn : n + ds.length = ps.length) : KBn K fd ps n [] (fun us _ => us ++ ds) (fun vs _ => vs ++ dvs) where
  to := fun s us ws X l1 l2 => by
    have : ws = [] := List.length_eq_zero_iff.mp l2
    subst this
    exact hb s us X (by rw [List.length_append, l1]; exact hn)
  rel := fun r _ => r.append hd
end
/-! ### Air's side -/
section
variable {L : Lg} {W : WX} {X : Cx} {ro ro' : Bool} {G G1 G2 : Gh} {H H1 H2 : Hp} {σ : St} {fr : Fr} {I I1 : Is}
theorem IsR.get {C : Addr} {lk : Bool} {F : Hp} {M ps : List (Addr × Addr)} {as : List Addr} (h : IsR C lk F M H ps I as) : ∀ {k : Nat} {p dx : Addr}, ps[k]? = some (p, dx) → ∃ fs ob bs, I[k]? = some ob ∧ H p = some (.ins C dx fs) ∧ H dx = some (.own p) ∧ FdR lk F M H fs ob bs ∧ (∀ a ∈ bs, a ∈ as) ∧ p ∈ as := by
  induction h with
  | nil => intro k p dx e; simp at e
  | cons h1 h2 h3 h4 ih =>
    rename_i p0 dx0 fs0 ob0 as0 bs0 ps0 I0
    intro k p dx e
    cases k with
    | zero =>
      simp only [List.getElem?_cons_zero, Option.some.injEq, Prod.mk.injEq] at e
      obtain ⟨rfl, rfl⟩ := e
      exact ⟨fs0, ob0, as0, rfl, h1, h2, h3, fun a ha => by simp [ha], by simp⟩
    | succ k =>
      obtain ⟨fs, ob, bs, e1, e2, e3, e4, e5, e6⟩ := ih (k := k) (by simpa using e)
      exact ⟨fs, ob, bs, by simpa using e1, e2, e3, e4, fun a ha => by simp [e5 a ha], by simp [e6]⟩
theorem FdR.look {lk : Bool} {F : Hp} {M : List (Addr × Addr)} {fs : List (Str × V)} {ob : Ob} {as : List Addr} (h : FdR lk F M H fs ob as) (x : Str) : (ob.lookup x = none → fs.lookup x = none) ∧ ∀ s, ob.lookup x = some s → ∃ v bs, fs.lookup x = some v ∧ SlV lk F M H (some v) s bs ∧ ∀ a ∈ bs, a ∈ as := by
  induction h with
  | nil => exact ⟨fun _ => rfl, fun s e => by cases e⟩
  | cons h0 h1 ih =>
    rename_i y v s0 as0 bs0 fs0 ob0
    rw [List.lookup_cons, List.lookup_cons]
    cases q : x == y with
    | true =>
      refine ⟨(fun e => nomatch e), fun s e => ?_⟩
      cases e
      exact ⟨v, as0, rfl, h0, fun a ha => List.mem_append_left _ ha⟩
    | false => exact ⟨ih.1, fun s e => by
        obtain ⟨v', bs', e1, e2, e3⟩ := ih.2 s e
        exact ⟨v', bs', e1, e2, fun a ha => List.mem_append_right _ (e3 a ha)⟩⟩
theorem Rk.ins {H0 : Hp} {k : Nat} {kd : Kd} {v : V} (h : Rk L H0 G H (.ins k, kd) v) : kd = .fro ∧ ∃ p dx, v = .ref p ∧ G.M[k]? = some (p, dx) := by
  cases h with
  | fro h => cases h; exact ⟨rfl, _, _, rfl, by assumption⟩
  | own e | inst e | new e => cases e
/-! rows as lists of terms -/
def Tm.row : Tm → List Tm
  | .cons a b => a :: b.row
  | _ => []
def rowL (L : Lg) (W : WX) : List Tm → TA
  | [] => tNil
  | a :: r => tCons (te L W a) (rowL L W r)
theorem rowL.imp : ∀ {l : List Tm} {σ : St} {H : Hp} {Q Q' : List V → Hp → Prop}, rowL L W l σ H Q → (∀ v H', Q v H' → Q' v H') → rowL L W l σ H Q'
  | [], _, _, _, _, h, i => i _ _ h
  | a :: r, _, _, _, _, h, i => te.imp h fun v H' q => rowL.imp q fun vs H2 q => i _ _ q
theorem rowL_split : ∀ {a b : List Tm} {σ : St} {H : Hp} {Q : List V → Hp → Prop}, rowL L W (a ++ b) σ H Q → rowL L W a σ H (fun vs H1 => rowL L W b σ H1 fun zs H2 => vs.length = a.length ∧ zs.length = b.length ∧ Q (vs ++ zs) H2)
  | [], b, σ, H, Q, h => by
    have len : ∀ {b : List Tm} {σ : St} {H : Hp} {Q : List V → Hp → Prop}, rowL L W b σ H Q → rowL L W b σ H fun zs H2 => zs.length = b.length ∧ Q zs H2 := by
      intro b
      induction b with
      | nil => intro σ H Q h; exact ⟨rfl, h⟩
      | cons a r ih => intro σ H Q h; exact te.imp h fun v H' q => (ih q).imp fun vs H2 q => ⟨by simp [q.1], q.2⟩
    exact (len h).imp fun zs H2 q => ⟨rfl, q.1, q.2⟩
  | x :: a, b, σ, H, Q, h => te.imp h fun v H' q => (rowL_split q).imp fun vs H2 q => q.imp fun zs H3 q => ⟨by simp [q.1], q.2.1, q.2.2⟩
theorem ta_row : ∀ {t : Tm} {σ : St} {H : Hp} {Q : List V → Hp → Prop}, ta L W t σ H Q → rowL L W t.row σ H Q := by
  intro t
  induction t with
  | cons a b iha ihb => intro σ H Q h; exact te.imp (ta_cons h) fun v H' q => ihb q
  | nil => intro σ H Q h; obtain ⟨ro, G, fr, I, S, h⟩ := h; exact h [] G H .refl S ⟨.nil, .nil⟩
  | _ => intro σ H Q h; obtain ⟨ro, G, fr, I, S, h⟩ := h; exact absurd h id
theorem chkK_row {kn : Str → Option (Nat × Nat)} {kw : Kwt} {sc : Scope} {N : List Str} : ∀ {t : Tm} {xs : List Expr}, chkK kn kw t sc N xs = true → t.row.length = xs.length
  | t, [], h => by cases t <;> first | rfl | (cases h; done)
  | t, x :: xs, h => by
    cases t <;> simp only [chkK] at h <;> try (cases h; done)
    simp only [Bool.and_eq_true] at h
    simp [Tm.row, chkK_row h.2]
/-- what the terms of a row say -/
def RowP (L : Lg) (X : Cx) (W : WX) : Tm → Prop
  | .cons a b => (∀ e, chk L.kn L.kw a X.env.scope X.N e = true → PE X e (te L W a)) ∧ RowP L X W b
  | _ => True
theorem pk_row : ∀ {t : Tm} {kws : List Keyword}, RowP L X W t → chkK L.kn L.kw t X.env.scope X.N (kws.map (·.value)) = true → PK X kws (rowL L W t.row)
  | t, [], _, h => by cases t <;> first | exact pk_nil | (cases h; done)
  | t, ⟨nm, v, p⟩ :: kws, pt, h => by
    cases t <;> simp only [List.map_cons, chkK] at h <;> try (cases h; done)
    simp only [Bool.and_eq_true] at h
    exact pk_cons (pt.1 _ h.1.1) (pk_row pt.2 h.2)
theorem pa_rowS : ∀ {as : List Expr} {t : Tm} {kws : List Keyword}, RowP L X W t → chkK L.kn L.kw t X.env.scope X.N (as ++ kws.map (·.value)) = true → ∃ a b, t.row = a ++ b ∧ a.length = as.length ∧ b.length = kws.length ∧ PA X as (rowL L W a) ∧ (as = [] → rowL L W a = tNil) ∧ PK X kws (rowL L W b) ∧ ∀ e ∈ as, notStar e = true
  | [], t, kws, pt, h => ⟨[], t.row, rfl, rfl, by have := chkK_row h; simpa using this, pa_nil, fun _ => rfl, pk_row pt h, fun e he => by cases he⟩
  | x :: as, t, kws, pt, h => by
    cases t <;> simp only [List.cons_append, chkK] at h <;> try (cases h; done)
    rename_i a0 b0
    simp only [Bool.and_eq_true] at h
    obtain ⟨a, b, e1, e2, e3, e4, e5, e6, e7⟩ := pa_rowS pt.2 h.2
    refine ⟨a0 :: a, b, by simp [Tm.row, e1], by simp [e2], e3, pa_cons (pt.1 _ h.1.1) e4 (star_of h.1.2 as X.env), (fun z => nomatch z), e6, fun e he => ?_⟩
    rcases List.mem_cons.mp he with rfl | he
    · exact h.1.2
    · exact e7 e he
/-! parameters -/
theorem Cs.rv {F : Hp} {M : List (Addr × Addr)} {c : Cs} (h : ∀ z, c = .str z → PyData.strOk z = true) : RV F M c.v c.d := by
  cases c with
  | non => exact .non
  | bl b => exact .bl b
  | int i => exact .int i
  | str z => exact .str z (h z rfl)
theorem Rks.get {H0 : Hp} : ∀ {ps : List (D × Kd)} {ws : List V} {j : Nat} {p : D × Kd}, Rks L H0 G H ps ws → ps[j]? = some p → ∃ w, ws[j]? = some w ∧ Rk L H0 G H p w
  | _, _, j, p, .nil, e => by simp at e
  | _, _, 0, p, .cons r rs, e => by
    simp only [List.getElem?_cons_zero, Option.some.injEq] at e
    subst e
    exact ⟨_, rfl, r⟩
  | _, _, j + 1, p, .cons r rs, e => by
    obtain ⟨w, h1, h2⟩ := Rks.get rs (j := j) (p := p) (by simpa using e)
    exact ⟨w, by simpa using h1, h2⟩
theorem pm_rks {H0 : Hp} {ps : List (D × Kd)} {vs zs : List V} (r : Rks L H0 G H ps (vs ++ zs)) : ∀ {pm : List (Sum Nat Cs)} {qs : List (D × Kd)}, pmOk pm = true → pmD pm ps = some qs → Rks L H0 G H qs (pmV pm vs zs) ∧ qs.length = pm.length
  | [], qs, _, e => by cases e; exact ⟨.nil, rfl⟩
  | .inl j :: pm, qs, ok, e => by
    unfold pmD at e
    cases e1 : ps[j]? with
    | none => rw [e1] at e; cases e
    | some p =>
      rw [e1] at e
      cases e2 : pmD pm ps with
      | none => rw [e2] at e; cases e
      | some qs' =>
        rw [e2] at e
        cases e
        obtain ⟨w, h1, h2⟩ := r.get e1
        obtain ⟨i1, i2⟩ := pm_rks r (pm := pm) (by simpa [pmOk] using ok) e2
        refine ⟨?_, by simp [i2]⟩
        show Rks L H0 G H (p :: qs') ((((vs ++ zs)[j]?).getD .non) :: pmV pm vs zs)
        rw [h1]
        exact .cons h2 i1
  | .inr c :: pm, qs, ok, e => by
    unfold pmD at e
    cases e2 : pmD pm ps with
    | none => rw [e2] at e; cases e
    | some qs' =>
      rw [e2] at e
      cases e
      have ok' : (match (Sum.inr c : Sum Nat Cs) with | .inr (.str z) => PyData.strOk z | _ => true) = true ∧ pmOk pm = true := by
        unfold pmOk at ok ⊢
        rw [List.all_cons, Bool.and_eq_true] at ok
        exact ok
      obtain ⟨i1, i2⟩ := pm_rks r (pm := pm) ok'.2 e2
      refine ⟨.cons (.fro (Cs.rv fun z hz => ?_)) i1, by simp [i2]⟩
      subst hz
      exact ok'.1
theorem Rks.len {H0 : Hp} {ps : List (D × Kd)} {ws : List V} (r : Rks L H0 G H ps ws) : ws.length = ps.length := by
  induction r with
  | nil => rfl
  | cons _ _ ih => simp [ih]
theorem no_field {k : Nat} {m : Str} {kd : Kd} {v : V} {H0 : Hp} (S : Sx L.c ro G fr I σ H) (r : Rk L H0 G H (.ins k, kd) v) (h : noFld I k m = true) : ∃ a dx fs, v = .ref a ∧ H a = some (.ins L.c.C dx fs) ∧ fs.lookup m = none := by
  obtain ⟨_, p, dx, rfl, hM⟩ := r.ins
  obtain ⟨fs, ob, bs, e1, e2, e3, e4, e5, e6⟩ := S.is.get hM
  unfold noFld at h
  rw [e1] at h
  exact ⟨p, dx, fs, rfl, e2, (e4.look m).1 (by simpa using h)⟩
theorem kw_len : ∀ {kws : List Keyword}, (∀ k ∈ kws, k.arg.isSome = true) → (kwNms kws).length = kws.length
  | [], _ => rfl
  | ⟨none, _, _⟩ :: _, h => by have := h _ List.mem_cons_self; cases this
  | ⟨some x, v, p⟩ :: kws, h => by
    show (x :: kwNms kws).length = _
    simp [kw_len fun k hk => h k (List.mem_cons_of_mem _ hk)]
/-- o.m(e, ..) -/
theorem pe_methA (g : Good L X W) {a es : Tm} {m x : Str} {o : Expr} {as : List Expr} {apos cpos : Pos} {np nd : Nat} (iha : PE X o (te L W a)) (rp : RowP L X W es) (hx : x = mkey m) (hrc : rcvB o = true) (hc : chkK L.kn L.kw es X.env.scope X.N as = true) (hl : (apos.endLine == cpos.line) = true) (h20 : as.length < 20)
    (hk : L.kn x = some (np, nd)) (h1 : as.length + 1 ≤ np) (h2 : np ≤ as.length + 1 + nd) (h3 : nd ≤ np) : PE X (.Call (.Attribute o m apos) as [] cpos) (te L W (.meth a m x es)) := by
  obtain ⟨k, hr, _, _, hfn⟩ := g.k
  obtain ⟨fa, fd, ps, dvs, dfl, gg, e1, e2, FR⟩ := hfn x np nd hk h3
  obtain ⟨hcl, hmt⟩ := FR.mt m hx
  have ldv : dvs.length = dfl.length := FR.dv.length
  obtain ⟨ds, hb, hv⟩ := FR.bd (np - (as.length + 1)) (by omega)
  have lds : ds.length = np - (as.length + 1) := by rw [← hv.length, List.length_drop]; omega
  obtain ⟨a1, b1, r1, r2, r3, r4, r5, r6, r7⟩ := pa_rowS (kws := []) rp (by simpa using hc)
  have hb0 : b1 = [] := List.length_eq_zero_iff.mp r3
  subst hb0
  refine PE.imp (pe_methG (E := WE W) iha (g.K ▸ hcl) (g.K ▸ hmt) (g.K ▸ g.mg ▸ FR.ok) hr (kbn_pos (n := as.length + 1) (g.K ▸ hb) hv (by omega)) (fun σ => L2.passAt g.tk σ) r7 (fun k hk => by cases hk) rfl r4 r5 r6 hrc hl (by simp; omega)) ?_
  rintro σ H Q ⟨ro, G, fr, I, S, h⟩
  simp only [ev] at h
  refine ⟨ro, G, fr, I, S, PR.imp (PR.bind (rel := RkR L H) h) (fun _ _ _ _ r => r) ?_⟩
  rintro v H1 ⟨⟨d, kd⟩, I1, G1, e0, x1, S1, q1, h1'⟩
  cases d <;> first | exact absurd h1' id | skip
  rename_i n
  obtain ⟨hn, h2'⟩ := PR.cond (show PR L W ro G H σ fr (bif noFld I1 n m then (evK L.cn L.cf es ro fr I1).bind fun ps I => callD L.cf x ro ((.ins n, .fro) :: ps) I else .bad) (RkR L H) Q from h1')
  obtain ⟨rfl, pp, dx, rfl, hM⟩ := q1.ins
  obtain ⟨a0, dx0, fs0, z1, z2, z3⟩ := no_field S1 q1 hn
  cases z1
  refine ⟨pp, dx0, fs0, rfl, z2, z3, ?_⟩
  have q := ta_next (t := es) (k := false) (f := fun ps I => callD L.cf x ro ((.ins n, .fro) :: ps) I) x1 S1 (by rw [Bool.or_false]; exact h2')
  have q := ta_row q
  rw [r1] at q
  refine (rowL_split q).imp fun vs H2 q => q.imp fun zs H3 q => ?_
  obtain ⟨l1, l2, qs, I2, G2, y1, y2, S2, ⟨rk, _⟩, hh⟩ := q
  have zn : zs = [] := List.length_eq_zero_iff.mp (by simpa using l2)
  subst zn
  rw [List.append_nil] at rk
  have lq : qs.length = vs.length := rk.len.symm
  have cc := call_core FR (qs := (.ins n, .fro) :: qs) (vs := .ref pp :: vs) (by simp; omega) (by simp; omega) y1 S2 (.cons (q1.later (ro := ro) S1 y2) (rk.from x1.dom)) hh
  refine ⟨by omega, rfl, ?_⟩
  rw [show ps.length - (((D.ins n, Kd.fro) :: qs).length) = np - (as.length + 1) by simp; omega] at cc
  exact cc
/-- f(e, .., k = v, ..) -/
theorem pe_callKA (g : Good L X W) {es : Tm} {f : Str} {as : List Expr} {kws : List Keyword} {p pos : Pos} {n np nd : Nat} {ks : List Str} {pm : List (Sum Nat Cs)} (rp : RowP L X W es) (hx : Gl X f) (hdb : (f == ("__debug__" : Str)) = false) (hm : mkB f = false) (hc : chkK L.kn L.kw es X.env.scope X.N (as ++ kws.map (·.value)) = true)
    (hn : as.length = n) (hkw : ∀ k ∈ kws, k.arg.isSome = true) (hks : kwNms kws = ks) (hpm : L.kw f n ks = some pm) (ok : pmOk pm = true) (hk : L.kn f = some (np, nd)) (h3 : nd ≤ np) (h4 : pm.length = np) : PE X (.Call (.Name f p) as kws pos) (te L W (.callK f n ks pm es)) := by
  obtain ⟨k, hr, _, _, hfn⟩ := g.k
  obtain ⟨fa, fd, ps, dvs, dfl, gg, e1, e2, FR⟩ := hfn f np nd hk h3
  obtain ⟨g', kb⟩ := FR.bk n ks pm hpm
  obtain ⟨a1, b1, r1, r2, r3, r4, r5, r6, r7⟩ := pa_rowS rp hc
  refine PE.imp (pe_callG (E := WE W) (g.K ▸ g.mg ▸ FR.ok) hr hx (g.mg ▸ FR.at_ hm) (g.K ▸ FR.kp) (g.K ▸ kb) (fun σ => L2.passAt g.tk σ) r7 hkw hks r4 r5 r6 hdb) ?_
  rintro σ H Q ⟨ro, G, fr, I, S, h⟩
  simp only [ev] at h
  have q := ta_next (k := false) .refl S (by simpa using h)
  have q := ta_row q
  rw [r1] at q
  refine (rowL_split q).imp fun vs H2 q => q.imp fun zs H3 q => ?_
  obtain ⟨l1, l2, qs, I2, G2, y1, y2, S2, ⟨rk, _⟩, hh⟩ := q
  have lks : ks.length = kws.length := hks ▸ kw_len hkw
  refine ⟨by omega, by omega, ?_⟩
  cases e : pmD pm qs with
  | none => simp only [e] at hh; exact absurd hh id
  | some ps' =>
    simp only [e] at hh
    obtain ⟨rk2, l3⟩ := pm_rks rk ok e
    have cc := call_core FR (by omega) (by omega) y1 S2 rk2 hh
    rw [show dvs.length - (ps.length - ps'.length) = dvs.length by omega, List.drop_length, List.append_nil] at cc
    exact cc
theorem pe_methKA (g : Good L X W) {a es : Tm} {m x : Str} {o : Expr} {as : List Expr} {kws : List Keyword} {apos cpos : Pos} {n np nd : Nat} {ks : List Str} {pm : List (Sum Nat Cs)} (iha : PE X o (te L W a)) (rp : RowP L X W es) (hx : x = mkey m) (hrc : rcvB o = true) (hc : chkK L.kn L.kw es X.env.scope X.N (as ++ kws.map (·.value)) = true) (hl : (apos.endLine == cpos.line) = true) (h20 : as.length + kws.length < 22)
    (hn : as.length + 1 = n) (hkw : ∀ k ∈ kws, k.arg.isSome = true) (hks : kwNms kws = ks) (hpm : L.kw x n ks = some pm) (ok : pmOk pm = true) (hk : L.kn x = some (np, nd)) (h3 : nd ≤ np) (h4 : pm.length = np) : PE X (.Call (.Attribute o m apos) as kws cpos) (te L W (.methK a m x n ks pm es)) := by
  obtain ⟨k, hr, _, _, hfn⟩ := g.k
  obtain ⟨fa, fd, ps, dvs, dfl, gg, e1, e2, FR⟩ := hfn x np nd hk h3
  obtain ⟨hcl, hmt⟩ := FR.mt m hx
  obtain ⟨g', kb⟩ := FR.bk n ks pm hpm
  obtain ⟨a1, b1, r1, r2, r3, r4, r5, r6, r7⟩ := pa_rowS rp hc
  have lks : ks.length = kws.length := hks ▸ kw_len hkw
  refine PE.imp (pe_methG (E := WE W) iha (g.K ▸ hcl) (g.K ▸ hmt) (g.K ▸ g.mg ▸ FR.ok) hr (g.K ▸ kb) (fun σ => L2.passAt g.tk σ) r7 hkw hks r4 r5 r6 hrc hl (by omega)) ?_
  rintro σ H Q ⟨ro, G, fr, I, S, h⟩
  simp only [ev] at h
  refine ⟨ro, G, fr, I, S, PR.imp (PR.bind (rel := RkR L H) h) (fun _ _ _ _ r => r) ?_⟩
  rintro v H1 ⟨⟨d, kd⟩, I1, G1, e0, x1, S1, q1, h1'⟩
  cases d <;> first | exact absurd h1' id | skip
  rename_i nn
  obtain ⟨hn', h2'⟩ := PR.cond (show PR L W ro G H σ fr (bif noFld I1 nn m then (evK L.cn L.cf es ro fr I1).bind fun ps I => (match pmD pm ((.ins nn, .fro) :: ps) with | some qs => callD L.cf x ro qs I | none => .bad) else .bad) (RkR L H) Q from h1')
  obtain ⟨rfl, pp, dx, rfl, hM⟩ := q1.ins
  obtain ⟨a0, dx0, fs0, z1, z2, z3⟩ := no_field S1 q1 hn'
  cases z1
  refine ⟨pp, dx0, fs0, rfl, z2, z3, ?_⟩
  have q := ta_next (t := es) (k := false) (f := fun ps I => (match pmD pm ((.ins nn, .fro) :: ps) with | some qs => callD L.cf x ro qs I | none => .bad)) x1 S1 (by rw [Bool.or_false]; exact h2')
  have q := ta_row q
  rw [r1] at q
  refine (rowL_split q).imp fun vs H2 q => q.imp fun zs H3 q => ?_
  obtain ⟨l1, l2, qs, I2, G2, y1, y2, S2, ⟨rk, _⟩, hh⟩ := q
  refine ⟨by omega, by omega, ?_⟩
  cases e : pmD pm ((.ins nn, .fro) :: qs) with
  | none => simp only [e] at hh; exact absurd hh id
  | some ps' =>
    simp only [e] at hh
    have rk1 : Rks L H G2 H3 ((.ins nn, .fro) :: qs) ((.ref pp :: vs) ++ zs) := .cons (q1.later (ro := ro) S1 y2) (rk.from x1.dom)
    obtain ⟨rk2, l3⟩ := pm_rks rk1 ok e
    have cc := call_core FR (by omega) (by omega) y1 S2 rk2 hh
    rw [show dvs.length - (ps.length - ps'.length) = dvs.length by
      have := FR.dv.length
      omega, List.drop_length, List.append_nil] at cc
    exact cc
end
end Air
/-! Air: fields, new instances, dicts as terms. -/
namespace Air
open PySem PySem.Spec PyProof.Rows L2
variable [Kf]
section
variable {L : Lg} {W : WX} {X : Cx} {ro ro' : Bool} {G G1 G2 : Gh} {H H1 H2 : Hp} {σ : St} {fr : Fr} {I I1 : Is}
/-- f() -/
theorem pe_call0A (g : Good L X W) {f : Str} {p pos : Pos} (hx : Gl X f) (hdb : (f == ("__debug__" : Str)) = false) (hm : mkB f = false) (hk : L.kn f = some (0, 0)) : PE X (.Call (.Name f p) [] [] pos) (te L W (.call f .nil)) := by
  obtain ⟨k, hr, _, _, hfn⟩ := g.k
  obtain ⟨fa, fd, ps, dvs, dfl, gg, e1, e2, FR⟩ := hfn f 0 0 hk (Nat.le_refl _)
  have ldv : dvs.length = dfl.length := FR.dv.length
  obtain ⟨ds, hb, hv⟩ := FR.bd 0 (by omega)
  have d0 : dvs = [] := List.length_eq_zero_iff.mp (by omega)
  subst d0
  have lds : ds.length = 0 := by rw [← hv.length]; simp
  refine PE.imp (pe_callG (E := WE W) (g.K ▸ g.mg ▸ FR.ok) hr hx (g.mg ▸ FR.at_ hm) (g.K ▸ FR.kp) (kbn_pos (n := 0) (g.K ▸ hb) hv (by omega)) (fun σ => L2.passAt g.tk σ) (es := []) (kws := []) (fun e he => by cases he) (fun k hk => by cases hk) rfl pa_nil (fun _ => rfl) pk_nil hdb) ?_
  rintro σ H Q ⟨ro, G, fr, I, S, h⟩
  simp only [ev, evK] at h
  have cc := call_core FR (qs := []) (vs := []) (by simp) (by simp; omega) .refl S .nil h
  refine ⟨rfl, rfl, ?_⟩
  simp only [List.length_nil, Nat.sub_zero, List.nil_append, List.drop_nil] at cc ⊢
  exact cc
/-- o.f -/
theorem pe_fldA (g : Good L X W) {a : Tm} {x : Str} {o : Expr} {pos : Pos} (iha : PE X o (te L W a)) (hrc : rcvB o = true) (hk : L.kn (fkey x) = some (0, 5)) : PE X (.Attribute o x pos) (te L W (.fld a x)) := by
  obtain ⟨c1, c2⟩ := g.fl x hk
  refine PE.imp (pe_fld iha (rcv_base hrc)) ?_
  rintro σ H Q ⟨ro, G, fr, I, S, h⟩
  simp only [ev] at h
  refine ⟨ro, G, fr, I, S, PR.imp (PR.bind (rel := RkR L H) h) (fun _ _ _ _ r => r) ?_⟩
  rintro v H1 ⟨⟨d, kd⟩, I1, G1, e0, x1, S1, q1, h1⟩
  cases d <;> first | exact absurd h1 id | skip
  rename_i k
  have h1 : PR L W ro G H σ fr (match fldD I1 k x with | some s => (match s.rd with | some q => .ok q I1 | none => .bad) | none => .bad) (RkR L H) Q := h1
  obtain ⟨hkd, p, dx, rfl, hM⟩ := q1.ins
  obtain ⟨fs, ob, bs, z1, z2, z3, z4, z5, z6⟩ := S1.is.get hM
  cases e1 : fldD I1 k x with
  | none => rw [e1] at h1; exact absurd h1 id
  | some s =>
    rw [e1] at h1
    unfold fldD at e1
    rw [z1] at e1
    obtain ⟨w, cs, w1, w2, w3⟩ := (z4.look x).2 s e1
    refine ⟨p, _, dx, fs, w, rfl, z2, c1, c2, w1, ?_⟩
    cases s with
    | no => exact absurd h1 id
    | val d =>
      obtain ⟨_, u, hu, ru⟩ := w2
      cases hu
      exact h1 _ G1 H1 x1 S1 (.fro ru)
    | lst xs =>
      obtain ⟨a, rfl, hu, sl⟩ := w2
      cases hu
      exact h1 _ G1 H1 x1 S1 (.inst (s := .lst xs) rfl sl.any (z5 _ (w3 a (by simp))))
    | dK ks xs =>
      obtain ⟨a, rfl, hu, sl⟩ := w2
      cases hu
      exact h1 _ G1 H1 x1 S1 (.inst (s := .dK ks xs) rfl sl.any (z5 _ (w3 a (by simp))))
    | dT ks xs =>
      obtain ⟨a, rfl, hu, sl⟩ := w2
      cases hu
      exact h1 _ G1 H1 x1 S1 (.inst (s := .dT ks xs) rfl sl.any (z5 _ (w3 a (by simp))))
/-! ### new instances -/
theorem IsR.snoc {C : Addr} {lk : Bool} {F : Hp} {M ps : List (Addr × Addr)} {as : List Addr} {p dx : Addr} {fs : List (Str × V)} {ob : Ob} {bs : List Addr} (h : IsR C lk F M H ps I as) (h1 : H p = some (.ins C dx fs)) (h2 : H dx = some (.own p)) (h3 : FdR lk F M H fs ob bs) : IsR C lk F M H (ps ++ [(p, dx)]) (I ++ [ob]) (as ++ (p :: bs)) := by
  induction h with
  | nil => simpa using IsR.cons h1 h2 h3 .nil
  | cons k1 k2 k3 k4 ih =>
    have := IsR.cons k1 k2 k3 ih
    simpa [List.append_assoc] using this
theorem IsR.len {C : Addr} {lk : Bool} {F : Hp} {M ps : List (Addr × Addr)} {as : List Addr} (h : IsR C lk F M H ps I as) : ps.length = I.length := by
  induction h with
  | nil => rfl
  | cons _ _ _ _ ih => simp [ih]
theorem Sx.newI {x dx : Addr} (S : Sx L.c ro G fr I σ H) (hx : H x = none) (hdx : H dx = none) (hne : dx ≠ x) :
    Sx L.c ro { G with M := G.M ++ [(x, dx)], aI := G.aI ++ [x] } fr (I ++ [[]]) σ (upd (upd H dx (.own x)) x (.ins L.c.C dx [])) ∧ Ext false G H { G with M := G.M ++ [(x, dx)], aI := G.aI ++ [x] } (upd (upd H dx (.own x)) x (.ins L.c.C dx [])) := by
  have keep : ∀ a o, H a = some o → upd (upd H dx (.own x)) x (.ins L.c.C dx []) a = some o := fun a o e => by
    rw [upd_ne (ne_of_none e hx), upd_ne (ne_of_none e hdx)]; exact e
  have pre : G.M <+: G.M ++ [(x, dx)] := ⟨_, rfl⟩
  have S1 := S.more keep
  refine ⟨⟨S1.fr.mono (fun _ _ e => e) pre fun a _ o e _ => e, ?_, ?_, fun a ha => ?_, S1.sub, S1.fine, S1.tb⟩, ⟨fun a o e _ _ => keep a o e, fun a e => ?_, fun a vs e => ?_, fun _ _ e => e, fun _ _ e => .inl e, rfl, fun a ha => ?_, pre, fun z => by cases z⟩⟩
  · refine IsR.snoc (S1.is.mono (fun _ _ e => e) pre (fun a _ o e _ => e) fun a p e => e) upd_same ?_ .nil
    rw [upd_ne hne, upd_same]
  · rw [← List.append_assoc]
    refine List.nodup_append.mpr ⟨S.nd, by simp, fun a h1 b h2 e => ?_⟩
    subst e
    rw [List.mem_singleton.mp h2] at h1
    exact (List.mem_append.mp h1).elim (S.notFr hx) (S.notIs hx)
  · rcases List.mem_append.mp ha with h | h
    · exact S.sep a (List.mem_append_left _ h)
    · rcases List.mem_append.mp h with h | h
      · exact S.sep a (List.mem_append_right _ h)
      · rw [List.mem_singleton.mp h]; exact S.notF hx
  · cases e2 : H a with
    | none => rfl
    | some o => rw [keep a o e2] at e; cases e
  · cases e2 : H a with
    | none => exact .inl rfl
    | some o => rw [keep a o e2] at e; cases e; exact .inr rfl
  · rcases List.mem_append.mp ha with h | h
    · exact .inl h
    · exact .inr (by rw [List.mem_singleton.mp h]; exact hx)
theorem cx_noE {P : Program} {w : World} : ∀ (out : List Env) (H : Hp) (s : Shared) (e : Value) (s' : Shared), ¬ L2.CX P w out H s (fun _ _ _ => False) e s' := fun out H s e s' h => by
  obtain ⟨_, _, _, _, _, _, _, _, _, _, _, _, z⟩ := h
  exact z.elim
theorem pe_newA (g : Good L X W) {p pos : Pos} (hx : Gl X "House") (hk : L.kn "House" = some (0, 4)) (hk2 : L.kn "House.__init__" = some (1, 0)) : PE X (.Call (.Name "House" p) [] [] pos) (te L W .new) := by
  obtain ⟨k, hr, _, hr2, hfn⟩ := g.k
  obtain ⟨fa, fd, ps, dvs, dfl, gg, e1, e2, FR⟩ := hfn _ 1 0 hk2 (Nat.zero_le _)
  obtain ⟨hmg, f', M⟩ := g.hs hk
  obtain ⟨hcl, hmt⟩ := FR.mt "__init__" (by decide +kernel)
  have ef : fa = f' := by
    have z1 := hmt.at_
    have z2 := M.init
    rw [g.K] at z2
    rw [z1] at z2
    cases z2; rfl
  subst ef
  have ldv : dvs.length = dfl.length := FR.dv.length
  have d0 : dvs = [] := List.length_eq_zero_iff.mp (by omega)
  have d1 : dfl = [] := List.length_eq_zero_iff.mp (by omega)
  subst d0 d1
  obtain ⟨ds, hb, hv⟩ := FR.bd 0 (Nat.le_refl _)
  refine PE.imp (pe_make0 (E := fun _ _ _ => False) M (g.K ▸ g.mg ▸ FR.ok) (hr2 hk) hx (g.mg ▸ hmg) (g.K ▸ hb) hv (fun pins σ H s e s' _ c => absurd c (cx_noE _ _ _ _ _)) (by decide)) ?_
  rintro σ H Q ⟨ro, G, fr, I, S, h⟩
  simp only [ev] at h
  cases ro with
  | true => exact absurd h id
  | false =>
    have h : PR L W false G H σ fr (((L.cf "House.__init__" false [.ins I.length] (I ++ [[]])).quiet).bind fun s I' => (match s with | .val .non => .ok (.ins I.length, .fro) I' | _ => .bad)) (RkR L H) Q := h
    intro x dx hx hdx hne
    obtain ⟨S1, x1⟩ := S.newI hx hdx hne
    obtain ⟨s, I', hs, h2⟩ := quiet_ok h
    have hlen := S.is.len
    have hMx : (G.M ++ [(x, dx)])[I.length]? = some (x, dx) := by
      rw [List.getElem?_append_right (by omega), hlen, Nat.sub_self]; rfl
    have hcf := FR.cf false [.ins I.length] (I ++ [[]])
    rw [hs] at hcf
    simp only [List.length_cons, List.length_nil, e1, Nat.le_refl, and_self, if_true, Nat.zero_add, Nat.add_zero, Nat.sub_self, List.drop_nil, List.append_nil] at hcf
    refine ⟨by simp [e1], false, { G with M := G.M ++ [(x, dx)], aF := [], aI := G.aI ++ [x] }, I ++ [[]], [.ins I.length], rfl, call_frame S1, ?_, ?_⟩
    · simp only [List.length_nil, Nat.sub_zero, List.drop_nil, List.append_nil]
      exact .cons (.ins hMx) .nil
    · rw [← hcf]
      intro v G' H' y T rk
      obtain ⟨y2, T2⟩ := call_back S1 y T
      cases s with
      | val d =>
        cases d <;> first | exact absurd h2 id | skip
        refine ⟨(rk _ rfl).non, h2 _ _ H' (x1.trans y2) T2 (.fro (.ins (pre_get y2.M hMx)))⟩
      | _ => exact absurd h2 id
/-! ### dicts -/
theorem te_dnewK {Q : VK} (h : te L W (.dnew false) σ H Q) : tDNewK σ H Q := by
  obtain ⟨ro, G, fr, I, S, h⟩ := h
  have h : PR L W ro G H σ fr (.ok (.dK [] [], .new) I) (RkR L H) Q := h
  exact fun p hp => fin_dK (vs := []) h .refl S hp ⟨rfl, rfl⟩ .nil
theorem te_dnewT {Q : VK} (h : te L W (.dnew true) σ H Q) : tDNewT σ H Q := by
  obtain ⟨ro, G, fr, I, S, h⟩ := h
  have h : PR L W ro G H σ fr (.ok (.dT [] [], .new) I) (RkR L H) Q := h
  exact fun p hp => fin_dT (vs := []) h .refl S hp ⟨rfl, rfl⟩ .nil
/-- a thing of nobody's is another one -/
theorem Sx.poke {p : Addr} {o u : HO} (S : Sx L.c ro G fr I σ H) (hp : H p = some o) (ho : ∀ q, o ≠ .own q) (ht : ∀ ps, o ≠ .tbl ps) (hc : ∀ k z, o ≠ LamX.CodeO k z) (h1 : G.F p = none) (h2 : p ∉ G.aF) (h3 : p ∉ G.aI) : Sx L.c ro G fr I σ (upd H p u) := by
  have kp : ∀ {b : Addr}, b ≠ p → Kp H (upd H p u) b := fun hb o e _ => by rw [upd_ne hb]; exact e
  refine ⟨S.fr.mono (fun _ _ e => e) (List.prefix_refl _) fun a ha => kp fun z => h2 (z ▸ ha), S.is.mono (fun _ _ e => e) (List.prefix_refl _) (fun a ha => kp fun z => h3 (z ▸ ha)) (fun a q e => ?_), S.nd, S.sep, fun b w hb => ?_, S.fine, ?_⟩
  · rw [upd_ne]
    · exact e
    · rintro rfl; rw [hp] at e; exact ho _ (Option.some.inj e)
  · refine (S.sub b w hb).mono fun o q => ?_
    rw [upd_ne]
    · exact q
    · rintro rfl; rw [h1] at hb; cases hb
  · intro q hq
    obtain ⟨ps, t1, t2, t3⟩ := S.tb q hq
    refine ⟨ps, ?_, t2, fun pos cv hcv => ?_⟩
    · rw [upd_ne]
      · exact t1
      · rintro z; rw [z, hp] at t1; exact ht _ (Option.some.inj t1)
    · obtain ⟨c, q1, q9⟩ := t3 pos cv hcv
      refine ⟨c, q1, ?_⟩
      rw [upd_ne]
      · exact q9
      · rintro rfl; rw [hp] at q9; exact hc _ _ (Option.some.inj q9)
theorem Ext.poke {p : Addr} {u : HO} (x : Ext ro G H G2 H2) (hp : H p = none) : Ext ro G H G2 (upd H2 p u) :=
  ⟨fun a o e h t => by rw [upd_ne (ne_of_none e hp)]; exact x.keep a o e h t, fun a e => by
    by_cases h : a = p
    · subst h; exact hp
    · rw [upd_ne h] at e; exact x.dom a e, fun a vs e => by
    by_cases h : a = p
    · subst h; exact .inl hp
    · rw [upd_ne h] at e; exact x.tp a vs e, x.F, x.Fn, x.aF, x.aI, x.M, x.ro⟩
/-! a display -/
theorem mergeK_fresh : ∀ {ks : List Ky} {vs : List V} {acc : List (Ky × V)}, ks.length = vs.length → (acc.map (·.1) ++ ks).Nodup → mergeK acc (ks.zip vs) = acc ++ ks.zip vs
  | [], [], acc, _, _ => by simp [mergeK]
  | k :: ks, v :: vs, acc, hl, hn => by
    have hk : k ∉ acc.map (·.1) := fun z => (List.nodup_append.mp hn).2.2 k z k List.mem_cons_self rfl
    have e : putK acc k v = acc ++ [(k, v)] := by
      unfold putK
      rw [if_neg]
      intro z
      obtain ⟨p, hp, hq⟩ := List.any_eq_true.mp z
      exact hk (List.mem_map.mpr ⟨p, hp, of_decide_eq_true hq⟩)
    show mergeK (putK acc k v) (ks.zip vs) = _
    rw [e, mergeK_fresh (by simpa using hl) (by simpa [List.append_assoc] using hn)]
    simp
theorem pps_row {pos : Pos} : ∀ {ks : List Str} {r : List (Option Expr)} {es : List Expr} {t : Tm}, keyB ks r = true → RowP L X W t → chkK L.kn L.kw t X.env.scope X.N es = true → r.length = es.length → ∃ trs, PPs X pos r es trs ∧ ks.length = t.row.length ∧ (∀ z ∈ ks, PyData.strOk z = true) ∧ r.all (·.isSome) = true ∧
    ∀ σ H Q P, (∀ ws H2, ws.length = ks.length → Q ws H2 → P ((ks.map V.str).zip ws) H2) → rowL L W t.row σ H Q → tPairs trs σ H P
  | [], [], [], t, _, _, h, _ => ⟨[], pps_nil, by rw [chkK_row h]; rfl, (fun z hz => by cases hz), rfl, fun σ H Q P hP q => by
      rw [List.length_eq_zero_iff.mp (chkK_row h)] at q
      exact hP [] H rfl q⟩
  | [], [], _ :: _, t, _, _, _, hl => by simp at hl
  | [], _ :: _, _, t, hk, _, _, _ => by cases hk
  | _ :: _, [], _, t, hk, _, _, _ => by cases hk
  | _ :: _, _ :: _, [], t, _, _, _, hl => by simp at hl
  | k :: ks, r0 :: r, e :: es, t, hk, rp, h, hl => by
    cases r0 with
    | none => cases hk
    | some e0 =>
      cases e0 <;> try (cases hk; done)
      rename_i c cj cp
      cases c <;> try (cases hk; done)
      rename_i z
      have hk : (decide (z = k) && PyData.strOk z && keyB ks r) = true := hk
      simp only [Bool.and_eq_true, decide_eq_true_eq] at hk
      obtain ⟨⟨rfl, hz⟩, hk2⟩ := hk
      cases t <;> simp only [chkK] at h <;> try (cases h; done)
      simp only [Bool.and_eq_true] at h
      obtain ⟨trs, p1, p2, p3, p5, p4⟩ := pps_row (pos := pos) hk2 rp.2 h.2 (by simpa using hl)
      refine ⟨(tC (.str z), te L W _) :: trs, pps_cons pe_str (rp.1 _ h.1.1) p1, by simp [Tm.row, p2], fun y hy => ?_, by simpa using p5, fun σ H Q P hP q => ?_⟩
      · rcases List.mem_cons.mp hy with rfl | hy
        · exact hz
        · exact p3 y hy
      · exact te.imp q fun v H1 q => p4 σ H1 (fun vs H2 => Q (v :: vs) H2) (fun ps H2 => P ((.str z, v) :: ps) H2) (fun ws H2 l q => hP (v :: ws) H2 (by simp [l]) q) q
theorem pe_dispA {ks : List Str} {vs : Tm} {k0 : Option Expr} {r : List (Option Expr)} {es : List Expr} {pos : Pos} (rp : RowP L X W vs) (hk : keyB ks (k0 :: r) = true) (hc : chkK L.kn L.kw vs X.env.scope X.N es = true) (hl : (k0 :: r).length = es.length) (h15 : (k0 :: r).length ≤ 15) (hn : ks.Nodup) : PE X (.Dict (k0 :: r) es pos) (te L W (.disp ks vs)) := by
  obtain ⟨trs, p1, p2, p3, p5, p4⟩ := pps_row (pos := pos) hk rp hc hl
  refine PE.imp (pe_disp p1 p5 hl (by simp) h15) ?_
  rintro σ H Q ⟨ro, G, fr, I, S, h⟩
  simp only [ev] at h
  intro p hp
  have S0 : Sx L.c ro G fr I σ (upd H p (.dK [])) := S.new hp
  have x0 : Ext ro G H G (upd H p (.dK [])) := Ext.new hp
  have q := ta_row (ta_next (t := vs) (k := false) x0 S0 (by rw [Bool.or_false]; exact h))
  refine p4 σ _ _ _ ?_ q
  rintro ws H2 lw ⟨ps, I2, G2, y1, y2, S2, ⟨rk, _⟩, hh⟩
  cases e3 : frzAll ps with
  | none => simp only [e3] at hh; exact absurd hh id
  | some ds =>
    simp only [e3] at hh
    obtain ⟨hlen, hh⟩ := PR.cond hh
    have hlen := of_decide_eq_true hlen
    rw [Bool.or_false] at y2
    obtain ⟨G3, gr, y3, S3, rv⟩ := frz_all y2 S2 (rk.w e3) e3
    have hp2 : H2 p = some (.dK []) := y2.keep p _ upd_same (.inr (S.notIs hp)) (fun ps z => by cases z)
    have kl : ((ks.map Sum.inr : List Ky).length = ws.length) := by rw [List.length_map, lw]
    have hm : mergeK [] ((ks.map Sum.inr : List Ky).zip ws) = (ks.map Sum.inr : List Ky).zip ws := by
      have nd : (ks.map Sum.inr : List Ky).Nodup := List.pairwise_map.mpr (hn.imp fun h e => h (Sum.inr.inj e))
      rw [mergeK_fresh kl (by simpa using nd)]; rfl
    have nF : G3.F p = none := by
      cases q : G3.F p with
      | none => rfl
      | some w =>
        rcases y3.Fn p w q with z | z
        · rw [S.notF hp] at z; cases z
        · rcases z with z | ⟨_, z⟩ <;> rw [upd_same] at z <;> cases z
    have nfr : p ∉ G3.aF := y3.aF ▸ S.notFr hp
    have nis : p ∉ G3.aI := fun z => (y3.aI p z).elim (S.notIs hp) fun z => by rw [upd_same] at z; cases z
    refine ⟨hp2, (ks.map Sum.inr : List Ky).zip ws, ?_, by rw [List.length_zip, ← kl, Nat.min_self, List.length_map]; have : ks.length = (k0 :: r).length := (by rw [p2, chkK_row hc, hl]); omega, ?_⟩
    · have : ∀ (ks : List Str) (ws : List V), (ks.map V.str).zip ws = ((ks.map Sum.inr : List Ky).zip ws).map fun kv => (kV kv.1, kv.2) := by
        intro ks
        induction ks with
        | nil => intro ws; rfl
        | cons k ks ih => intro ws; cases ws with
          | nil => rfl
          | cons w ws => simpa using ⟨rfl, ih ws⟩
      exact this ks ws
    · rw [hm]
      have S4 := S3.poke (u := .dK ((ks.map Sum.inr : List Ky).zip ws)) hp2 (fun q z => by cases z) (fun q z => by cases z) (fun k z q => by unfold LamX.CodeO at q; cases q) nF nfr nis
      exact hh _ G3 _ ((x0.trans y3).poke hp) S4 (.new (s := .dK (ks.map Sum.inr) ds) rfl ⟨ws, .inl upd_same, ⟨kl, List.all_eq_true.mpr fun k hk => (by obtain ⟨z, hz, rfl⟩ := List.mem_map.mp hk; exact p3 z hz)⟩, rv⟩ hp nF nfr nis)
/-! d.get(k, x) -/
theorem ds_get2 {pins : List (Addr × Obj)} {s : Shared} {a : Addr} {y z : V} {u r : Value} {o : Option V} {E : Value → Shared → Prop} {A : Around} {Q : Value → Shared → Prop} (hu : A.units + 1 < cLine) (I : Inv X pins σ H s) (g : DGs X.K H a y o) (ry : RelV y u) (rd : RelV z r) (h : ∀ w' s', Inv X pins σ H s' → RelV (o.getD z) w' → Q w' s') :
    wpAny (model X.prog X.w) A (call (.builtin "dict.get") [.ref a, u, r]) Q E s := by
  rcases g with ⟨kvs, k, e, ey, l⟩ | ⟨kvs, k, b, e, ey, eb, l⟩
  · exact d_get2 hu I (.inl ⟨kvs, k, e, ey, l⟩) ry rd h
  · subst ey
    cases (show u = Value.ref b from ry)
    obtain ⟨z, hd, xs, rel, dd⟩ := dt_rd I.hok e
    refine call_meetsIn PySem.F.slot_dict_get dd.typeIs PySem.F.entry_dict_get (PySem.F.args_dict_get_3 _ _ _) (meetsH_dict_get_default (tupleKind (mixKind X.prog X.w)) a b hd r) ⟨tupleKind_room_in1 hu, k, xs, key_ofS I eb, dd, h _ _ (I.tok _) ?_⟩
    rw [l]
    exact (rel.val k).getD rd
def tGet2 (K : PySem.W.Frag) (td ty tx : TE) : TE := fun σ H Q => td σ H fun x H1 => ∃ a, x = .ref a ∧ IsD H1 a ∧ ty σ H1 fun y H2 => tx σ H2 fun z H3 => ∃ o, DGs K H3 a y o ∧ Q (o.getD z) H3
theorem pe_get2 {o e f : Expr} {apos cpos : Pos} {td ty tx : TE} (hu : X.A.units + 1 < cLine) (ho : PE X o td) (he : PE X e ty) (hf : PE X f tx) (m : M2 X o "get" apos e f cpos) : PE X (.Call (.Attribute o "get" apos) [e, f] [] cpos) (tGet2 X.K td ty tx) := by
  refine ⟨fun pins s σ H Q I h => ?_⟩
  refine wpAny_Call_method m.base m.few m.line PySem.F.plainAttrs_dict PySem.F.slot_dict_get PySem.F.type_dict_get (thn (ho.run pins s σ H _ I h) fun u s1 ⟨x, H1, I1, rx, a, ex, d, q1⟩ => ?_)
  subst ex
  obtain rfl : u = Value.ref a := rx
  obtain ⟨t1, t2, _⟩ := isD_at I1 d
  refine ⟨t1, t2, ?_⟩
  rw [m.trees]
  refine Calls.callWith_builtin rfl (Calls.evalArgs_plain (Calls.spliced_cons (thn (he.run pins s1 σ H1 _ I1 q1) fun iv s2 ⟨y, H2, I2, ry, q2⟩ =>
    Calls.spliced_cons (thn (hf.run pins s2 σ H2 _ I2 q2) fun fv s3 ⟨z, H3, I3, rz, ov, g, q3⟩ => Calls.spliced_nil ?_))))
  exact ds_get2 hu I3 g ry rz fun w' s4 I4 rw' => ⟨_, H3, I4, rw', q3⟩
theorem any_base {o : Expr} {m : Str} {env : Env} (h : (rcvB o || dpB o) = true) : attributeBase o m env (eval o env) = eval o env := by
  rw [Bool.or_eq_true] at h
  rcases h with h | h
  · exact rcv_base h
  · unfold dpB at h
    split at h <;> first | rfl | cases h
theorem look_dict {c d : D} {o : Option D} (h : lookD c d = some o) : (∃ ks vs, c = .dK ks vs) ∨ ∃ ks vs, c = .dT ks vs := by
  cases c <;> first | (cases h; done) | exact .inl ⟨_, _, rfl⟩ | exact .inr ⟨_, _, rfl⟩
theorem Rk.isD {H0 : Hp} {c d : D} {o : Option D} {kc : Kd} {v : V} (S : Sx L.c ro G fr I σ H) (r : Rk L H0 G H (c, kc) v) (h : (∃ ks vs, c = .dK ks vs) ∨ ∃ ks vs, c = .dT ks vs) : ∃ a, v = .ref a ∧ IsD H a := by
  rcases h with ⟨ks, vs, rfl⟩ | ⟨ks, vs, rfl⟩
  · obtain ⟨a, us, rfl, ha, _⟩ := r.dK S
    exact ⟨a, rfl, .inl ⟨_, ha⟩⟩
  · obtain ⟨a, us, rfl, ha, _⟩ := r.dT S
    exact ⟨a, rfl, .inr ⟨_, ha⟩⟩
theorem look_kind {H0 : Hp} {c d : D} {o : Option D} {kd : Kd} {v : V} (h : lookD c d = some o) (r : Rk L H0 G H (d, kd) v) : isInst kd = false := by
  cases kd with
  | inst =>
    exfalso
    cases r with
    | inst e _ _ => cases d <;> first | (cases e; done) | (cases c <;> cases h)
  | _ => rfl
theorem te_get2 {a k d : Tm} {Q : VK} (h : te L W (.get2 a k d) σ H Q) : tGet2 L.K (te L W a) (te L W k) (te L W d) σ H Q := by
  obtain ⟨ro, G, fr, I, S, h⟩ := h
  simp only [ev] at h
  refine ⟨ro, G, fr, I, S, PR.imp (PR.bind (rel := RkR L H) h) (fun _ _ _ _ r => r) ?_⟩
  rintro v H1 ⟨p, I1, G1, e0, x1, S1, r1, h1⟩
  obtain ⟨hd, h1⟩ := PR.cond h1
  have hd : (∃ ks vs, p.1 = .dK ks vs) ∨ ∃ ks vs, p.1 = .dT ks vs := by
    cases q : p.1 <;> rw [q] at hd <;> first | (cases hd; done) | exact .inl ⟨_, _, rfl⟩ | exact .inr ⟨_, _, rfl⟩
  obtain ⟨c, kc⟩ := p
  obtain ⟨ad, rfl, isd⟩ := r1.isD (d := .non) (o := none) S1 hd
  refine ⟨ad, rfl, isd, ?_⟩
  obtain ⟨ro2, G2, fr2, I2, S2, h2⟩ := te_next x1 S1 h1
  refine ⟨ro2, G2, fr2, I2, S2, h2.imp (fun _ _ _ _ r => r) ?_⟩
  rintro y H2 ⟨q, I3, G3, y1, y2, S3, r2, h3⟩
  obtain ⟨ro4, G4, fr4, I4, S4, h4⟩ := te_next (k := kc) y1 S3 h3
  refine ⟨ro4, G4, fr4, I4, S4, h4.imp (fun _ _ _ _ r => r) ?_⟩
  rintro z H4 ⟨r, I5, G5, z1, z2, S5, r3, h5⟩
  obtain ⟨cq, kq⟩ := q
  have r1' := (r1.later S1 y2).later S3 z2
  cases e : lookD c cq with
  | none => simp only [e] at h5; exact absurd h5 id
  | some o =>
    simp only [e] at h5
    have r2' : Rk L H G5 H4 (cq, kq) y := r2.later (ro := ro || isInst kc) S3 (by
      show Ext ((ro || isInst kc) || isInst kq) _ _ _ _
      rw [look_kind e r2, Bool.or_false]; exact z2)
    obtain ⟨a', ov, ea, g, lk⟩ := look_get S5 r1' r2' e
    cases ea
    refine ⟨ov, g, ?_⟩
    cases o with
    | some dd =>
      obtain ⟨w, rfl, rw'⟩ := lk
      exact h5 _ G5 H4 z1 S5 (.fro rw')
    | none =>
      obtain rfl : ov = none := lk
      cases e6 : frzK r with
      | none => simp only [e6] at h5; exact absurd h5 id
      | some dd =>
        simp only [e6] at h5
        obtain ⟨rd, rk⟩ := r
        have : dd = rd := by cases rk <;> cases e6 <;> rfl
        subst this
        exact h5 _ G5 H4 z1 S5 r3
end
end Air
/-! Air: list(d.values()). -/
namespace Air
open PySem PySem.Spec PyProof.Rows L2
variable [Kf]
section
variable {L : Lg} {W : WX} {X : Cx} {ro ro' : Bool} {G G1 G2 : Gh} {H H1 H2 : Hp} {σ : St} {fr : Fr} {I I1 : Is}
theorem vals_at : ∀ {us : List Value} {vs : List (Key × Value)}, us.length = vs.length → (∀ (j : Nat) (v : Value), us[j]? = some v → ∃ (k : Key), vs[j]? = some (k, v)) → us = vs.map (·.2)
  | [], [], _, _ => rfl
  | [], _ :: _, hl, _ => by simp at hl
  | _ :: _, [], hl, _ => by simp at hl
  | u :: us, q :: vs, hl, h => by
    obtain ⟨k, e1⟩ := h 0 u rfl
    have e1' : q = (k, u) := Option.some.inj e1
    subst e1'
    rw [List.map_cons, ← vals_at (us := us) (vs := vs) (by simpa using hl) fun j v e => h (j + 1) v (by simpa using e)]
theorem KV.vals {kvs : List (Key × V)} {vs : List (Key × Value)} (r : KV kvs vs) : Vals (kvs.map (·.2)) (vs.map (·.2)) := by
  unfold KV at r
  induction r with
  | nil => exact .nil
  | cons h t ih => exact .cons h.2 ih
def tVals (td : TE) : TE := fun σ H Q => td σ H fun x H1 => ∃ a kvs, x = .ref a ∧ Rd H1 a (.dK kvs) ∧ ∀ p, H1 p = none → Q (.ref p) (upd H1 p (.lst (kvs.map (·.2))))
theorem pe_vals {o : Expr} {td : TE} {apos cpos pos p : Pos} (hc : X.calm = true) (hg : Gl X "list") (hm : X.mg "list" = none) (ho : PE X o td) (hb : attributeBase o "values" X.env (eval o X.env) = eval o X.env) (hl : (apos.endLine == cpos.line) = true) :
    PE X (.Call (.Name "list" p) [.Call (.Attribute o "values" apos) [] [] cpos] [] pos) (tVals td) := by
  refine ⟨fun pins s σ H Q I h => ?_⟩
  refine wpAny_Call_Name_kw (ld_blt I hg hm (by decide +kernel : bootBuiltins ("list" : Str) = some (.type "list")) ?_ (by decide) (by decide))
  refine PyProof.Rows.callWith_type1 (Calls.spliced_cons ?_) (by rfl) (by rfl)
  refine wpAny_Call_method (T := "dict") (id := "dict.values") hb rfl hl PySem.F.plainAttrs_dict PySem.F.slot_dict_values PySem.F.type_dict_values (thn (ho.run pins s σ H _ I h) fun u s1 ⟨x, H1, I1, rx, d, kvs, ex, hd, q⟩ => ?_)
  subst ex
  obtain rfl : u = Value.ref d := rx
  obtain ⟨z, lo, vs, rel, dd⟩ := dk_rd I1.hok hd
  obtain ⟨ep, hat⟩ := dd.dictAt
  refine ⟨dd.typeIs, dd.mapOf.noDict, ?_⟩
  show wpAny _ _ (callWith cpos (.builtin "dict.values") [.ref d] [] []) _ X.xe s1
  have I2 : Inv X pins σ H1 { s1 with heap := s1.heap.push { cls := .type "dict_values", data := .fields #[.ref d] } } := I1.kept (t' := s1.toks) fun b ob q => Heap.get?_push_of_some _ q
  refine method_meetsIn PySem.F.slot_dict_values PySem.F.entry_dict_values rfl (PySem.evalArgs_none ⟨rfl, dd.typeIs, PySem.F.args_dict_values_1 _, _, meets_dict_values (mixKind X.prog X.w) d lo, ⟨vs, dd⟩, ?_⟩)
  refine Calls.spliced_nil ?_
  have hv : Heap.IsValuesView (s1.heap.push { cls := .type "dict_values", data := .fields #[.ref d] }) s1.heap.objs.size d := ⟨_, Heap.get?_push_size _ rfl, rfl, rfl⟩
  refine PySem.W.kdl_call (PySem.W.kdl_values (knd := mixKind X.prog X.w) (kvs := vs) (ep := ep)) (I.ok.hd hc) ⟨hv, hat.push _⟩ (by rw [← rel.length]; exact z) fun h' tk acc c' hk hD hacc => ?_
  have e : acc.toList = vs.map (·.2) := vals_at (by rw [Array.length_toList]; exact hacc.1) fun j v e => by
    have := hacc.2 j v (by rw [← Array.getElem?_toList]; exact e)
    exact this
  have hn := I2.hok.fresh (Nat.le_refl _)
  refine ⟨.ref _, upd H1 _ (.lst (kvs.map (·.2))), I2.laid (t' := tk) hk (Nat.le_refl _) (show ObjOk X.prog X.w _ _ _ (.lst (kvs.map (·.2))) from ⟨by rw [List.length_map]; exact z, acc.toList, c', by rw [e]; exact KV.vals rel, by rw [Array.toArray_toList]; exact hD⟩), rfl, q _ hn⟩
theorem te_vals {a : Tm} {Q : VK} (h : te L W (.vals a) σ H Q) : tVals (te L W a) σ H Q := by
  obtain ⟨ro, G, fr, I, S, h⟩ := h
  simp only [ev] at h
  refine ⟨ro, G, fr, I, S, PR.imp (PR.bind (rel := RkR L H) h) (fun _ _ _ _ r => r) ?_⟩
  rintro v H1 ⟨⟨d, kd⟩, I1, G1, e0, x1, S1, r1, h1⟩
  cases d <;> first | exact absurd h1 id | skip
  rename_i ks ds
  obtain ⟨ad, us, rfl, ha, hl, ra⟩ := r1.dK S1
  have h1 : PR L W ro G H σ fr (.ok (.lst ds, .new) I1) (RkR L H) Q := h1
  refine ⟨ad, _, rfl, ha, fun p hp => ?_⟩
  have e : (ks.zip us).map (·.2) = us := List.map_snd_zip (by rw [hl.1]; exact Nat.le_refl _)
  rw [e]
  exact fin_lst h1 x1 S1 hp ra
end
end Air
/-! Air: walks over dicts, under a lock. -/
namespace Air
open PySem PySem.Spec PyProof.Rows L2
variable [Kf]
def IsDO (u : HO) : Prop := (∃ kvs, u = .dK kvs) ∨ ∃ kvs, u = .dT kvs
section
variable {F : Hp} {M : List (Addr × Addr)} {H : Hp} {d : Addr} {u : HO} {od : Obj}
/-! ### locking keeps the state -/
theorem slAt_lock {lk : Bool} (hd : H d = some u) (hu : IsDO u) {a : Addr} (hk : a = d → lk = true) : ∀ {s : Sl}, SlAt lk F M H a s → SlAt lk F M (upd H d (.frz od u)) a s := by
  have kk : ∀ w, IsDO w → Lk lk H a w → Lk lk (upd H d (.frz od u)) a w := fun w hw e => by
    by_cases ha : a = d
    · have hl := hk ha
      subst ha
      rcases e with e | ⟨_, o, e⟩
      · rw [hd] at e; cases e; exact .inr ⟨hl, od, upd_same⟩
      · rw [hd] at e; cases e; rcases hu with ⟨_, z⟩ | ⟨_, z⟩ <;> cases z
    · rcases e with e | ⟨z, o, e⟩
      · exact .inl (by rw [upd_ne ha]; exact e)
      · exact .inr ⟨z, o, by rw [upd_ne ha]; exact e⟩
  intro s h
  cases s with
  | lst xs =>
    obtain ⟨vs, e, r⟩ := h
    refine ⟨vs, ?_, r⟩
    rw [upd_ne]
    · exact e
    · rintro rfl; rw [hd] at e; cases e; rcases hu with ⟨_, z⟩ | ⟨_, z⟩ <;> cases z
  | dK ks xs => obtain ⟨vs, e, l, r⟩ := h; exact ⟨vs, kk _ (.inl ⟨_, rfl⟩) e, l, r⟩
  | dT ks xs => obtain ⟨vs, e, l, r⟩ := h; exact ⟨vs, kk _ (.inr ⟨_, rfl⟩) e, l, r⟩
  | no => exact h
  | val _ => exact h
theorem slAt_unlock {lk : Bool} (hd : H d = some (.frz od u)) (hu : IsDO u) {a : Addr} : ∀ {s : Sl}, SlAt lk F M H a s → SlAt lk F M (upd H d u) a s := by
  have kk : ∀ w, IsDO w → Lk lk H a w → Lk lk (upd H d u) a w := fun w hw e => by
    by_cases ha : a = d
    · subst ha
      rcases e with e | ⟨z, o, e⟩
      · rw [hd] at e; cases e; rcases hw with ⟨_, z⟩ | ⟨_, z⟩ <;> cases z
      · rw [hd] at e; cases e; exact .inl upd_same
    · rcases e with e | ⟨z, o, e⟩
      · exact .inl (by rw [upd_ne ha]; exact e)
      · exact .inr ⟨z, o, by rw [upd_ne ha]; exact e⟩
  intro s h
  cases s with
  | lst xs =>
    obtain ⟨vs, e, r⟩ := h
    refine ⟨vs, ?_, r⟩
    rw [upd_ne]
    · exact e
    · rintro rfl; rw [hd] at e; cases e
  | dK ks xs => obtain ⟨vs, e, l, r⟩ := h; exact ⟨vs, kk _ (.inl ⟨_, rfl⟩) e, l, r⟩
  | dT ks xs => obtain ⟨vs, e, l, r⟩ := h; exact ⟨vs, kk _ (.inr ⟨_, rfl⟩) e, l, r⟩
  | no => exact h
  | val _ => exact h
theorem SlV.map {lk : Bool} {H' : Hp} {ov : Option V} {s : Sl} {as : List Addr} (h : SlV lk F M H ov s as) (k : ∀ a ∈ as, ∀ s, SlAt lk F M H a s → SlAt lk F M H' a s) : SlV lk F M H' ov s as := by
  cases s with
  | no => exact h
  | val d => exact h
  | _ => obtain ⟨a, rfl, e, r⟩ := h; exact ⟨a, rfl, e, k a (by simp) _ r⟩
theorem FrR.map {H' : Hp} {σ : St} {fr : Fr} {as : List Addr} (h : FrR F M H σ fr as) (k : ∀ a ∈ as, ∀ s, SlAt false F M H a s → SlAt false F M H' a s) : FrR F M H' σ fr as := by
  induction h with
  | nil => exact .nil
  | cons hs _ ih => exact .cons (hs.map fun a ha => k a (List.mem_append_left _ ha)) (ih fun a ha => k a (List.mem_append_right _ ha))
theorem FdR.map {lk : Bool} {H' : Hp} {fs : List (Str × V)} {ob : Ob} {as : List Addr} (h : FdR lk F M H fs ob as) (k : ∀ a ∈ as, ∀ s, SlAt lk F M H a s → SlAt lk F M H' a s) : FdR lk F M H' fs ob as := by
  induction h with
  | nil => exact .nil
  | cons hs _ ih => exact .cons (hs.map fun a ha => k a (List.mem_append_left _ ha)) (ih fun a ha => k a (List.mem_append_right _ ha))
theorem IsR.map {C : Addr} {lk : Bool} {H' : Hp} {I : Is} {ps : List (Addr × Addr)} {as : List Addr} (h : IsR C lk F M H ps I as) (k : ∀ a ∈ as, ∀ s, SlAt lk F M H a s → SlAt lk F M H' a s) (ki : ∀ a C dx fs, H a = some (.ins C dx fs) → H' a = some (.ins C dx fs)) (ko : ∀ a p, H a = some (.own p) → H' a = some (.own p)) : IsR C lk F M H' ps I as := by
  induction h with
  | nil => exact .nil
  | cons h1 h2 h3 _ ih => exact .cons (ki _ _ _ _ h1) (ko _ _ h2) (h3.map fun a ha => k a (by simp [ha])) (ih fun a ha => k a (by simp [ha]))
end
section
variable {L : Lg} {W : WX} {X : Cx} {ro ro' : Bool} {G G1 G2 : Gh} {H H1 H2 : Hp} {σ : St} {fr : Fr} {I I1 : Is} {d : Addr} {u : HO} {od : Obj}
theorem Tabs.upd {T : List (Addr × Str)} {o w : HO} (t : LamX.Tabs T H) (hd : H d = some o) (h1 : ∀ ps, o ≠ .tbl ps) (h2 : ∀ k z, o ≠ LamX.CodeO k z) : LamX.Tabs T (upd H d w) := by
  intro q hq
  obtain ⟨ps, t1, t2, t3⟩ := t q hq
  refine ⟨ps, ?_, t2, fun pos cv hcv => ?_⟩
  · rw [upd_ne]
    · exact t1
    · rintro z; rw [z, hd] at t1; exact h1 _ (Option.some.inj t1)
  · obtain ⟨c, q1, q9⟩ := t3 pos cv hcv
    refine ⟨c, q1, ?_⟩
    rw [upd_ne]
    · exact q9
    · rintro rfl; rw [hd] at q9; exact h2 _ _ (Option.some.inj q9)
theorem isDO_ne (hu : IsDO u) : (∀ C dx fs, u ≠ .ins C dx fs) ∧ (∀ p, u ≠ .own p) ∧ (∀ ps, u ≠ .tbl ps) ∧ (∀ k z, u ≠ LamX.CodeO k z) ∧ (∀ vs, u ≠ .tup vs) := by
  rcases hu with ⟨_, rfl⟩ | ⟨_, rfl⟩ <;> exact ⟨(fun _ _ _ z => by cases z), (fun _ z => by cases z), (fun _ z => by cases z), (fun _ _ z => by unfold LamX.CodeO at z; cases z), (fun _ z => by cases z)⟩
theorem Sx.lock (S : Sx L.c ro G fr I σ H) (hd : H d = some u) (hu : IsDO u) (hF : d ∉ G.aF) (hI : d ∈ G.aI → ro = true) : Sx L.c ro G fr I σ (upd H d (.frz od u)) := by
  obtain ⟨n1, n2, n3, n4, n5⟩ := isDO_ne hu
  have ne : ∀ {a o}, H a = some o → o ≠ u → a ≠ d := fun e h z => by rw [z, hd] at e; exact h (Option.some.inj e).symm
  refine ⟨S.fr.map fun a ha s h => slAt_lock hd hu (fun z => absurd (z ▸ ha) hF) h, S.is.map (fun a ha s h => slAt_lock hd hu (fun z => hI (by rw [← z]; exact ha)) h) (fun a C dx fs e => by rw [upd_ne (ne e fun z => n1 _ _ _ z.symm)]; exact e) (fun a p e => by rw [upd_ne (ne e fun z => n2 _ z.symm)]; exact e), S.nd, S.sep, fun a w e => ?_, S.fine, Tabs.upd S.tb hd n3 n4⟩
  by_cases ha : a = d
  · subst ha
    rcases S.sub a w e with z | ⟨z, o, z2⟩
    · rw [hd] at z; cases z; exact .inr ⟨hu, od, upd_same⟩
    · rw [hd] at z2; cases z2; rcases hu with ⟨_, z⟩ | ⟨_, z⟩ <;> cases z
  · exact (S.sub a w e).mono fun o q => by rw [upd_ne ha]; exact q
theorem Sx.unlock (S : Sx L.c ro G fr I σ H) (hd : H d = some (.frz od u)) (hu : IsDO u) : Sx L.c ro G fr I σ (upd H d u) := by
  have ne : ∀ {a o}, H a = some o → (∀ o' u', o ≠ .frz o' u') → a ≠ d := fun e h z => by rw [z, hd] at e; exact h _ _ (Option.some.inj e).symm
  refine ⟨S.fr.map fun a ha s h => slAt_unlock hd hu h, S.is.map (fun a ha s h => slAt_unlock hd hu h) (fun a C dx fs e => by rw [upd_ne (ne e fun _ _ z => by cases z)]; exact e) (fun a p e => by rw [upd_ne (ne e fun _ _ z => by cases z)]; exact e), S.nd, S.sep, fun a w e => ?_, S.fine, Tabs.upd S.tb hd (fun _ z => by cases z) (fun _ _ z => by unfold LamX.CodeO at z; cases z)⟩
  by_cases ha : a = d
  · subst ha
    rcases S.sub a w e with z | ⟨z, o, z2⟩
    · rw [hd] at z; cases z
      have := S.fine a _ e
      rcases hu with ⟨_, rfl⟩ | ⟨_, rfl⟩ <;> exact absurd this id
    · rw [hd] at z2; cases z2; exact .inl upd_same
  · exact (S.sub a w e).mono fun o q => by rw [upd_ne ha]; exact q
theorem Ext.unlock (x : Ext ro G (upd H d (.frz od u)) G2 H2) (hd : H d = some u) (hu : IsDO u) (h2 : H2 d = some (.frz od u)) : Ext ro G H G2 (upd H2 d u) := by
  obtain ⟨n1, n2, n3, n4, n5⟩ := isDO_ne hu
  have old : ∀ {a}, Old (upd H d (.frz od u)) a → Old H a := fun {a} z => by
    by_cases ha : a = d
    · subst ha; rcases z with z | ⟨_, z⟩ <;> rw [upd_same] at z <;> cases z
    · unfold Old at z ⊢; rw [upd_ne ha] at z; exact z
  refine ⟨fun a o e h t => ?_, fun a e => ?_, fun a vs e => ?_, x.F, fun a w e => (x.Fn a w e).imp id old, x.aF, fun a ha => (x.aI a ha).imp id fun z => ?_, x.M, x.ro⟩
  · by_cases ha : a = d
    · subst ha; rw [upd_same]; rw [← e, hd]
    · rw [upd_ne ha]; exact x.keep a o (by rw [upd_ne ha]; exact e) h t
  · by_cases ha : a = d
    · subst ha; rw [upd_same] at e; cases e
    · rw [upd_ne ha] at e; have := x.dom a e; rw [upd_ne ha] at this; exact this
  · by_cases ha : a = d
    · subst ha; rw [upd_same] at e; cases e; exact absurd rfl (n5 _)
    · rw [upd_ne ha] at e; have := x.tp a vs e; rw [upd_ne ha] at this; exact this
  · by_cases ha : a = d
    · subst ha; rw [upd_same] at z; cases z
    · rw [upd_ne ha] at z; exact z
/-! ### a dict that is named ahead -/
structure ExT (X : Cx) (L : Lg) (a : Tm) (e : Expr) (tX : TE) : Prop where
  pe : PE X e tX
  no : ∀ ro fr I x I', ev L.cn L.cf a ro fr I ≠ .exc x I'
  at_ : ∀ {ro : Bool} {G : Gh} {fr : Fr} {I I' : Is} {σ : St} {H : Hp} {c : D} {kc : Kd}, Sx L.c ro G fr I σ H → ev L.cn L.cf a ro fr I = .ok (c, kc) I' → isDc c = true → I' = I ∧ ∃ d, Rk L H G H (c, kc) (.ref d) ∧
    ∀ Hl Q, (∀ b o, H b = some o → b ≠ d → Hl b = some o) → (∀ w, Rd H d w → Rd Hl d w) → Q (.ref d) Hl → tX σ Hl Q
theorem ex_loc {i : Nat} {x : Str} {pos : Pos} (h1 : X.N[i]? = some x) (h2 : Vis X.env.scope x) (h3 : (x == ("__debug__" : Str)) = false) (h4 : (x == ("__classdict__" : Str)) = false) : ExT X L (.loc i) (.Name x pos) (tVar i) where
  pe := pe_var h1 h2 h3 h4
  no := fun ro fr I x I' => by
    simp only [ev]
    split <;> simp
  at_ := fun {ro G fr I I' σ H c kc} S e hc => by
    simp only [ev] at e
    cases q : fr[i]? with
    | none => rw [q] at e; cases e
    | some s =>
      rw [q] at e
      obtain ⟨ov, bs, z1, z2, z3⟩ := S.fr.at_ q
      cases s with
      | no => cases e
      | lst xs => cases e; cases hc
      | val dd =>
        cases e
        obtain ⟨_, v, rfl, rv⟩ := z2
        have rk : Rk L H G H (c, .fro) v := .fro rv
        obtain ⟨d, rfl, _⟩ := rk.isD (d := .non) (o := none) S (by cases c <;> first | (cases hc; done) | exact .inl ⟨_, _, rfl⟩ | exact .inr ⟨_, _, rfl⟩)
        exact ⟨rfl, d, rk, fun Hl Q _ _ q => ⟨_, z1, q⟩⟩
      | dK ks xs =>
        cases e
        obtain ⟨a, rfl, rfl, sl⟩ := z2
        exact ⟨rfl, a, .own (s := .dK ks xs) rfl sl (z3 a (by simp)), fun Hl Q _ _ q => ⟨_, z1, q⟩⟩
      | dT ks xs =>
        cases e
        obtain ⟨a, rfl, rfl, sl⟩ := z2
        exact ⟨rfl, a, .own (s := .dT ks xs) rfl sl (z3 a (by simp)), fun Hl Q _ _ q => ⟨_, z1, q⟩⟩
theorem ex_fld {i : Nat} {x f : Str} {pos p2 : Pos} (h1 : X.N[i]? = some x) (h2 : Vis X.env.scope x) (h3 : (x == ("__debug__" : Str)) = false) (h4 : (x == ("__classdict__" : Str)) = false) (c1 : Cls X.K L.c.C) (c2 : NoAttr X.K L.c.C f) : ExT X L (.fld (.loc i) f) (.Attribute (.Name x pos) f p2) (tFld X.K (tVar i) f) where
  pe := pe_fld (pe_var h1 h2 h3 h4) rfl
  no := fun ro fr I y I' => by
    simp only [ev]
    cases q : fr[i]? with
    | none => simp [R.bind]
    | some s =>
      cases s <;> simp only [R.bind] <;> first | (intro z; cases z; done) | skip
      rename_i dd
      cases dd <;> simp only <;> first | (intro z; cases z; done) | skip
      split
      · split <;> simp
      · simp
  at_ := fun {ro G fr I I' σ H c kc} S e hc => by
    simp only [ev] at e
    cases q : fr[i]? with
    | none => rw [q] at e; cases e
    | some s =>
      rw [q] at e
      obtain ⟨ov, bs, z1, z2, z3⟩ := S.fr.at_ q
      cases s with
      | val dd =>
        obtain ⟨_, v, rfl, rv⟩ := z2
        cases dd <;> first | (cases e; done) | skip
        rename_i k
        have rk : Rk L H G H (.ins k, .fro) v := .fro rv
        obtain ⟨_, p, dx, rfl, hM⟩ := rk.ins
        obtain ⟨fs, ob, cs, y1, y2, y3, y4, y5, y6⟩ := S.is.get hM
        have e : (match fldD I k f with | some s => (match s.rd with | some q => R.ok q I | none => .bad) | none => .bad) = .ok (c, kc) I' := e
        cases e1 : fldD I k f with
        | none => rw [e1] at e; cases e
        | some s =>
          rw [e1] at e
          unfold fldD at e1
          rw [y1] at e1
          obtain ⟨w, ds, w1, w2, w3⟩ := (y4.look f).2 s e1
          have fin : ∀ {a : Addr}, w = .ref a → (∀ o, H a = some o → ∀ C dx fs, o ≠ .ins C dx fs) → ∀ Hl Q, (∀ b o, H b = some o → b ≠ a → Hl b = some o) → (∀ w, Rd H a w → Rd Hl a w) → Q (.ref a) Hl → tFld X.K (tVar i) f σ Hl Q := fun {a} ew hn Hl Q k1 k2 q => by
            subst ew
            refine ⟨_, z1, p, _, dx, fs, .ref a, rfl, k1 p _ y2 ?_, c1, c2, w1, q⟩
            rintro rfl
            exact hn _ y2 _ _ _ rfl
          cases s with
          | no => cases e
          | lst xs => cases e; cases hc
          | val dd =>
            cases e
            obtain ⟨_, v, hv, rv⟩ := w2
            cases hv
            have rk : Rk L H G H (c, .fro) w := .fro rv
            have hD : (∃ ks vs, c = .dK ks vs) ∨ ∃ ks vs, c = .dT ks vs := by cases c <;> first | (cases hc; done) | exact .inl ⟨_, _, rfl⟩ | exact .inr ⟨_, _, rfl⟩
            obtain ⟨d, rfl, isd⟩ := rk.isD (d := .non) (o := none) S hD
            refine ⟨rfl, d, rk, fin rfl fun o e C dx fs z => ?_⟩
            subst z
            rcases isd with ⟨kvs, z | ⟨o, z⟩⟩ | ⟨kvs, z | ⟨o, z⟩⟩ <;> rw [e] at z <;> cases z
          | dK ks xs =>
            cases e
            obtain ⟨a, rfl, hv, sl⟩ := w2
            cases hv
            refine ⟨rfl, a, .inst (s := .dK ks xs) rfl sl.any (y5 _ (w3 a (by simp))), fin rfl fun o e C dx fs z => ?_⟩
            subst z
            obtain ⟨vs, z | ⟨_, o, z⟩, _⟩ := sl <;> rw [e] at z <;> cases z
          | dT ks xs =>
            cases e
            obtain ⟨a, rfl, hv, sl⟩ := w2
            cases hv
            refine ⟨rfl, a, .inst (s := .dT ks xs) rfl sl.any (y5 _ (w3 a (by simp))), fin rfl fun o e C dx fs z => ?_⟩
            subst z
            obtain ⟨vs, z | ⟨_, o, z⟩, _⟩ := sl <;> rw [e] at z <;> cases z
      | _ => cases e
theorem ex_sub (hu : X.A.units + 64 < cLine) {i j : Nat} {x z : Str} {pos p2 p3 : Pos} (h1 : X.N[i]? = some x) (h2 : Vis X.env.scope x) (h3 : (x == ("__debug__" : Str)) = false) (h4 : (x == ("__classdict__" : Str)) = false) : ExT X L (.sub (.loc i) (.cns (.str z))) (.Subscript (.Name x pos) (.Constant (.str z) j p2) p3) (tDGet (tVar i) (tC (.str z))) where
  pe := pe_dget (by omega) (pe_var h1 h2 h3 h4) pe_str (fun _ _ => rfl)
  no := fun ro fr I y I' => by
    simp only [ev]
    cases q : fr[i]? with
    | none => simp [R.bind]
    | some s =>
      cases s <;> simp only [R.bind, Cs.d] <;> first | (intro z; cases z; done) | skip
      · rename_i dd
        cases dd <;> simp only [subD] <;> first | (intro z; cases z; done) | (split <;> intro z <;> cases z)
      all_goals first | (intro z; cases z; done) | (simp only [subD]; split <;> intro z <;> cases z)
  at_ := fun {ro G fr I I' σ H c kc} S e hc => by
    simp only [ev] at e
    have main : ∀ {c0 : D} {k0 : Kd} {v : V}, σ[i]? = some (some v) → Rk L H G H (c0, k0) v → subD c0 (.str z) k0 I = .ok (c, kc) I' → I' = I ∧ ∃ d, Rk L H G H (c, kc) (.ref d) ∧ ∀ Hl Q, (∀ b o, H b = some o → b ≠ d → Hl b = some o) → (∀ w, Rd H d w → Rd Hl d w) → Q (.ref d) Hl → tDGet (tVar i) (tC (.str z)) σ Hl Q := fun {c0 k0 v} z1 rk e => by
      have lk : ∃ dd, lookD c0 (.str z) = some (some dd) ∧ c = dd ∧ kc = .fro ∧ I' = I := by
        cases c0 <;> simp only [subD] at e <;> first | (cases e; done) | skip
        all_goals
          split at e <;> first | (cases e; done) | skip
          rename_i dd q
          cases e
          exact ⟨_, q, rfl, rfl, rfl⟩
      obtain ⟨dd, q, rfl, rfl, rfl⟩ := lk
      have key : Rk L H G H (.str z, .fro) (.str z) ∨ True := .inr trivial
      unfold lookD at q
      cases c0 <;> simp only [reduceCtorEq, ky1, kyT, Option.map_some, Option.map_none, Option.some.injEq] at q
      rename_i ks ds
      obtain ⟨a, us, rfl, ha, hl, ra⟩ := rk.dK S
      have g := valV_getV (.inr z : Ky) hl.1 ra
      rw [q] at g
      obtain ⟨w, g1, g2⟩ := g
      have rkw : Rk L H G H (c, .fro) w := .fro g2
      obtain ⟨d, rfl, _⟩ := rkw.isD (d := .non) (o := none) S (by cases c <;> first | (cases hc; done) | exact .inl ⟨_, _, rfl⟩ | exact .inr ⟨_, _, rfl⟩)
      refine ⟨rfl, d, rkw, fun Hl Q k1 k2 q => ⟨_, z1, a, .ref d, rfl, .inl ⟨_, .inr z, ?_, rfl, g1.symm⟩, q⟩⟩
      by_cases had : a = d
      · subst had; exact k2 _ ha
      · rcases ha with ha | ⟨o, ha⟩
        · exact .inl (k1 a _ ha had)
        · exact .inr ⟨o, k1 a _ ha had⟩
    cases q : fr[i]? with
    | none => rw [q] at e; cases e
    | some s =>
      rw [q] at e
      obtain ⟨ov, bs, z1, z2, z3⟩ := S.fr.at_ q
      cases s with
      | no => cases e
      | val dd => obtain ⟨_, v, rfl, rv⟩ := z2; exact main z1 (.fro rv) e
      | lst xs => obtain ⟨a, rfl, rfl, sl⟩ := z2; exact main (c0 := .lst xs) (k0 := .own) z1 (.own (s := .lst xs) rfl sl (z3 a (by simp))) e
      | dK ks xs => obtain ⟨a, rfl, rfl, sl⟩ := z2; exact main (c0 := .dK ks xs) (k0 := .own) z1 (.own (s := .dK ks xs) rfl sl (z3 a (by simp))) e
      | dT ks xs => obtain ⟨a, rfl, rfl, sl⟩ := z2; exact main (c0 := .dT ks xs) (k0 := .own) z1 (.own (s := .dT ks xs) rfl sl (z3 a (by simp))) e
theorem ex_simple (g : Good L X W) {a : Tm} {e : Expr} (h : chk L.kn L.kw a X.env.scope X.N e = true) (hd : dtB a = true) : ∃ tX, ExT X L a e tX := by
  have nm : ∀ {i : Nat} {e : Expr}, chk L.kn L.kw (.loc i) X.env.scope X.N e = true → ∃ x p, e = .Name x p ∧ X.N[i]? = some x ∧ Vis X.env.scope x ∧ (x == ("__debug__" : Str)) = false ∧ (x == ("__classdict__" : Str)) = false := fun {i e} h => by
    unfold chk at h
    split at h <;> first | (rename_i heq; cases heq; done) | (cases h; done) | skip
    rename_i heq; cases heq
    simp only [Bool.and_eq_true, decide_eq_true_eq, Bool.not_eq_true'] at h
    exact ⟨_, _, rfl, h.1.1.1, vis_of h.1.1.2, h.1.2, h.2⟩
  unfold dtB at hd
  split at hd
  · obtain ⟨x, p, rfl, h1, h2, h3, h4⟩ := nm h
    exact ⟨_, ex_loc h1 h2 h3 h4⟩
  · unfold chk at h
    split at h <;> first | (rename_i heq; cases heq; done) | (cases h; done) | skip
    rename_i heq; cases heq
    simp only [Bool.and_eq_true, decide_eq_true_eq] at h
    obtain ⟨⟨⟨rfl, k1⟩, k2⟩, k3⟩ := h
    obtain ⟨x, p, rfl, h1, h2, h3, h4⟩ := nm k1
    obtain ⟨c1, c2⟩ := g.fl _ k3
    exact ⟨_, ex_fld h1 h2 h3 h4 c1 c2⟩
  · unfold chk at h
    split at h <;> first | (rename_i heq; cases heq; done) | (cases h; done) | skip
    rename_i heq; cases heq
    simp only [Bool.and_eq_true] at h
    obtain ⟨⟨k1, k2⟩, k3⟩ := h
    obtain ⟨x, p, rfl, h1, h2, h3, h4⟩ := nm k1
    unfold chk at k2
    split at k2 <;> first | (rename_i heq; cases heq; done) | (cases k2; done) | skip
    rename_i heq; cases heq
    unfold cstB at k2
    split at k2 <;> first | (rename_i heq _; cases heq; done) | (rename_i heq; cases heq; done) | (cases k2; done) | skip
    rename_i heq _
    cases heq
    rename_i heq _
    cases heq
    have zy := of_decide_eq_true (Bool.and_eq_true _ _ ▸ k2 : _ ∧ _).1
    subst zy
    exact ⟨_, ex_sub g.hu h1 h2 h3 h4⟩
  · cases hd
end
end Air
/-! Air: walks over dicts, under a lock (2). -/
namespace Air
open PySem PySem.Spec PyProof.Rows L2
variable [Kf]
theorem pe_alt {X : Cx} {e : Expr} {t1 t2 : TE} (h1 : PE X e t1) (h2 : PE X e t2) : PE X e (fun σ H Q => t1 σ H Q ∨ t2 σ H Q) := ⟨fun pins s σ H Q I q => q.elim (h1.run pins s σ H Q I) (h2.run pins s σ H Q I)⟩
theorem ps_alt {X : Cx} {e : Stmt} {t1 t2 : TS} (h1 : PS X e t1) (h2 : PS X e t2) : PS X e (fun D σ H => t1 D σ H ∨ t2 D σ H) := ⟨fun pins s σ H Q I q => q.elim (h1.run pins s σ H Q I) (h2.run pins s σ H Q I)⟩
theorem rv_key {F : Hp} {M : List (Addr × Addr)} {k : Ky} (h : kyOk k = true) : RV F M (kV k) (kyD k) := by
  cases k with
  | inl i => exact .int i
  | inr z => exact .str z h
theorem rvs_key {F : Hp} {M : List (Addr × Addr)} : ∀ {ks : List Ky}, ks.all kyOk = true → RVs F M (ks.map kV) (ks.map kyD)
  | [], _ => .nil
  | k :: ks, h => by
    rw [List.all_cons, Bool.and_eq_true] at h
    exact .cons (rv_key h.1) (rvs_key h.2)
section
variable {L : Lg} {W : WX} {X : Cx} {ro ro' : Bool} {G G1 G2 : Gh} {H H1 H2 : Hp} {σ : St} {fr : Fr} {I I1 : Is} {d : Addr} {u : HO} {o : Obj}
theorem wk_keys {ks : List Ky} {us : List V} {k : Kd} (ha : H d = some (.frz o (.dK (ks.zip us)))) (hl : KL kyOk ks us) (h1 : k = .inst ∨ d ∉ G.aI) (h2 : k = .own ∨ d ∉ G.aF) : WkR G H (ks.map kyD, k) (Itk d o (ks.zip us)) := by
  have hn : (ks.zip us).length = ks.length := by rw [List.length_zip, hl.1, Nat.min_self]
  refine ⟨[d], _, _, by rw [List.length_map, ← hn]; exact walk_keys, fun b hb => ?_, fun G2 H2 _ _ hk => ?_, fun i v H2 H3 G2 hi hF hM hk y => ?_⟩
  · obtain rfl := List.mem_singleton.mp hb
    exact ⟨by rw [ha]; simp, h1, h2⟩
  · exact hk d (by simp) _ ha fun ps z => by cases z
  · obtain ⟨rfl, k0, w, e, rfl⟩ := y
    have ek : ks[i]? = some k0 := by
      rw [List.getElem?_zip_eq_some] at e
      exact e.1
    refine ⟨kyD k0, by rw [List.getElem?_map, ek]; rfl, .inl ⟨rfl, rv_key ?_⟩⟩
    exact List.all_eq_true.mp hl.2 _ (List.mem_of_getElem? ek)
theorem wk_keysT {ks : List (List Ky)} {us : List V} {k : Kd} (ha : H d = some (.frz o (.dT (ks.zip us)))) (hl : KL kysOk ks us) (h1 : k = .inst ∨ d ∉ G.aI) (h2 : k = .own ∨ d ∉ G.aF) : WkR G H (ks.map (fun k => .tup (k.map kyD)), k) (Itkt d o (ks.zip us)) := by
  have hn : (ks.zip us).length = ks.length := by rw [List.length_zip, hl.1, Nat.min_self]
  refine ⟨[d], _, _, by rw [List.length_map, ← hn]; exact walk_keysT, fun b hb => ?_, fun G2 H2 _ _ hk => ?_, fun i v H2 H3 G2 hi hF hM hk y => ?_⟩
  · obtain rfl := List.mem_singleton.mp hb
    exact ⟨by rw [ha]; simp, h1, h2⟩
  · exact hk d (by simp) _ ha fun ps z => by cases z
  · obtain ⟨rfl, k0, w, q, e, rfl, hq⟩ := y
    have ek : ks[i]? = some k0 := by
      rw [List.getElem?_zip_eq_some] at e
      exact e.1
    refine ⟨.tup (k0.map kyD), by rw [List.getElem?_map, ek]; rfl, .inr (.inr ⟨q, k0.map kV, k0.map kyD, rfl, hq, rfl, rfl, rvs_key ?_⟩)⟩
    exact List.all_eq_true.mp hl.2 _ (List.mem_of_getElem? ek)
/-- the dict at d, which is not one of the names' -/
structure AtD (G : Gh) (H : Hp) (c : D) (kc : Kd) (d : Addr) (ks : List D) (u : HO) : Prop where
  isd : IsDO u
  at_ : H d = some u ∨ ∃ o, H d = some (.frz o u)
  nF : kc = .own ∨ d ∉ G.aF
  nI : kc = .inst ∨ d ∉ G.aI
  it : ∀ (Hl : Hp) (o : Obj), Hl d = some (.frz o u) → ∃ J, WkR G Hl (ks, kc) J ∧ ∀ R : It → Hp → Prop, R J Hl → ((∃ kvs, Hl d = some (.frz o (.dK kvs)) ∧ R (Itk d o kvs) Hl) ∨ ∃ kvs, Hl d = some (.frz o (.dT kvs)) ∧ R (Itkt d o kvs) Hl)
theorem atD (S : Sx L.c ro G fr I σ H) {c : D} {kc : Kd} {ks : List D} {H0 : Hp} (r : Rk L H0 G H (c, kc) (.ref d)) (hk : keysD c = some ks) : ∃ u, AtD G H c kc d ks u := by
  have ni : ∀ a ∈ G.aF, a ∉ G.aI := fun a h1 h2 => (List.nodup_append.mp S.nd).2.2 a h1 a h2 rfl
  have sep : ∀ a u, G.F a = some u → a ∉ G.aF ∧ a ∉ G.aI := fun a u e => ⟨fun z => (by rw [S.sep a (List.mem_append_left _ z)] at e; cases e), fun z => (by rw [S.sep a (List.mem_append_right _ z)] at e; cases e)⟩
  have nn : (kc = .own ∨ d ∉ G.aF) ∧ (kc = .inst ∨ d ∉ G.aI) := by
    cases r with
    | fro h =>
      cases h with
      | dK e l r => exact ⟨.inr (sep _ _ e).1, .inr (sep _ _ e).2⟩
      | dT e l r => exact ⟨.inr (sep _ _ e).1, .inr (sep _ _ e).2⟩
      | _ => cases hk
    | own e h m => exact ⟨.inl rfl, .inr (ni _ m)⟩
    | inst e h m => exact ⟨.inr fun z => ni _ z m, .inl rfl⟩
    | new e h h0 h1 h2 h3 => exact ⟨.inr h2, .inr h3⟩
    | cst h r => cases hk
  cases c <;> simp only [keysD, reduceCtorEq, Option.some.injEq] at hk
  · rename_i ks0 ds
    subst hk
    obtain ⟨a, us, z, ha, hl, ra⟩ := r.dK S
    cases z
    refine ⟨.dK (ks0.zip us), .inl ⟨_, rfl⟩, ha, nn.1, nn.2, fun Hl o e => ⟨_, wk_keys e hl nn.2 nn.1, fun R q => .inl ⟨_, e, q⟩⟩⟩
  · rename_i ks0 ds
    subst hk
    obtain ⟨a, us, z, ha, hl, ra⟩ := r.dT S
    cases z
    refine ⟨.dT (ks0.zip us), .inr ⟨_, rfl⟩, ha, nn.1, nn.2, fun Hl o e => ⟨_, wk_keysT e hl nn.2 nn.1, fun R q => .inr ⟨_, e, q⟩⟩⟩
theorem isDc_keys {c : D} {ks : List D} (h : keysD c = some ks) : isDc c = true := by
  cases c <;> first | rfl | cases h
theorem IsDO.mut (h : IsDO u) : Mut (some u) := by
  rcases h with ⟨_, rfl⟩ | ⟨_, rfl⟩ <;> trivial
/-- what reads under the lock reads the same -/
theorem rd_lock {Hl : Hp} (hu : IsDO u) (hd : H d = some u) (e : Hl d = some (.frz o u)) (w : HO) (hw : Rd H d w) : Rd Hl d w := by
  rcases hw with z | ⟨o', z⟩
  · rw [hd] at z; cases z; exact .inr ⟨o, e⟩
  · rw [hd] at z; cases z; rcases hu with ⟨_, z⟩ | ⟨_, z⟩ <;> cases z
theorem keys_run {tX : TE} {Hl : Hp} {R : It → Hp → Prop} {J : It} (run : ∀ Q : VK, Q (.ref d) Hl → tX σ Hl Q) (fin : ∀ R : It → Hp → Prop, R J Hl → ((∃ kvs, Hl d = some (.frz o (.dK kvs)) ∧ R (Itk d o kvs) Hl) ∨ ∃ kvs, Hl d = some (.frz o (.dT kvs)) ∧ R (Itkt d o kvs) Hl)) (h : R J Hl) : iKeys tX σ Hl R :=
  run _ ⟨d, o, rfl, fin R h⟩
theorem lc_keys {tX : TE} {g : TG} {tt : TT} {te : TE} {vs : List Nat} {Hl : Hp} {Q : VK} {J : It} (run : ∀ Q : VK, Q (.ref d) Hl → tX σ Hl Q) (fin : ∀ R : It → Hp → Prop, R J Hl → ((∃ kvs, Hl d = some (.frz o (.dK kvs)) ∧ R (Itk d o kvs) Hl) ∨ ∃ kvs, Hl d = some (.frz o (.dT kvs)) ∧ R (Itkt d o kvs) Hl)) (h : tLc (fun _ _ R => R J Hl) g tt te vs σ Hl Q) : tLc (iKeys tX) g tt te vs σ Hl Q := by
  unfold tLc at h ⊢
  exact keys_run run fin h
theorem ok_bind {α β : Type} {a : α} {I : Is} {f : α → Is → R β} : (R.ok a I).bind f = f a I := rfl
def tLcD (tX : TE) (g : TG) (tt : TT) (te : TE) (vs : List Nat) : TE := fun σ H Q => tLockE (tLc (iKeys tX) g tt te vs) σ H Q ∨ tLc (iKeys tX) g tt te vs σ H Q
theorem te_lcD {a : Tm} {e : Expr} {tX : TE} (ex : ExT X L a e tX) {K : PySem.W.Frag} {own : List (Str × Nat)} {elt cond : Tm} {tg : Tg} (hix : ∀ j ∈ tg.ix, j ∈ own.map (·.2)) {σ : St} {H : Hp} {Q : VK} (h : te L W (.lcD own elt tg a cond) σ H Q) :
    tLcD tX (gA K tg) (tc L noW cond) (te L noW elt) (own.map (·.2)) σ H Q := by
  obtain ⟨ro, G, fr, I, S, h⟩ := h
  simp only [ev] at h
  cases q : ev L.cn L.cf a ro fr I with
  | exc x I' => exact absurd q (ex.no _ _ _ _ _)
  | bad => rw [q] at h; exact absurd h id
  | ok p I' =>
    obtain ⟨c, kc⟩ := p
    rw [q, ok_bind] at h
    simp only at h
    cases hk : keysD c with
    | none => rw [hk] at h; exact absurd h id
    | some ks =>
      rw [hk] at h
      simp only at h
      obtain ⟨rfl, d, rk, run⟩ := ex.at_ S q (isDc_keys hk)
      obtain ⟨u, D⟩ := atD S rk hk
      by_cases hown : kc = .own
      · rw [decide_eq_true hown] at h; exact absurd h id
      rw [decide_eq_false hown] at h
      simp only [cond_false] at h
      have nF : d ∉ G.aF := D.nF.resolve_left hown
      rcases D.at_ with hd | ⟨o, hd⟩
      · refine .inl ⟨d, u, hd, D.isd.mut, fun od => ?_⟩
        have hl : upd H d (.frz od u) d = some (.frz od u) := upd_same
        obtain ⟨J, wk, fin⟩ := D.it _ od hl
        refine lc_keys (J := J) (fun Q hq => run _ Q (fun b o e hb => by rw [upd_ne hb]; exact e) (fun w hw => rd_lock D.isd hd hl w hw) hq) fin ?_
        have Sw : Sx L.c (ro || isInst kc) G fr I' σ H := by
          cases ro with
          | true => exact S
          | false => exact S.weak _
        have hI : d ∈ G.aI → (ro || isInst kc) = true := fun z => by
          rcases D.nI with h | h
          · rw [h]; simp [isInst]
          · exact absurd z h
        have Sl := Sw.lock (od := od) hd D.isd nF hI
        refine lc_core (W := W) hix Ext.refl Sl wk ?_
        obtain ⟨ds, I2, e2, h2⟩ := quiet_ok h
        obtain ⟨hlim, h2⟩ := PR.cond h2
        have hr : ((ro || isInst kc) || isInst kc) = (ro || isInst kc) := by rw [Bool.or_assoc, Bool.or_self]
        rw [hr, e2]
        show PR L W _ G _ σ fr (bif decide (ds.length ≤ lim) then R.ok (Air.D.lst ds, Kd.new) I2 else R.bad) (RkR L _) _
        rw [hlim, cond_true]
        intro v G' H' x S2 r2
        have kd : H' d = some (.frz od u) := x.keep d _ hl ((Decidable.em (d ∈ G.aI)).imp hI id) fun ps z => by cases z
        refine ⟨kd, ?_⟩
        have x1 := x.unlock hd D.isd kd
        have S3 := S2.unlock kd D.isd
        have fin : Ext ro G H G' (upd H' d u) ∧ Sx L.c ro G' fr I2 σ (upd H' d u) := by
          cases hro : ro with
          | true => subst hro; exact ⟨x1, S3⟩
          | false =>
            subst hro
            cases hi : isInst kc with
            | false => rw [hi] at x1 S3; exact ⟨x1, S3⟩
            | true =>
              rw [hi] at x1 S3 e2
              have k := keeps_lcL (I := I') (tg := tg) (fr := wipeF fr own) (step := fun fr I => (evC L.cn L.cf cond true fr I).bind fun t I => bif t then (ev L.cn L.cf elt true fr I).fz fun d I => .ok (some d) I else .ok none I) (fun fr => keeps_bind ((ev_keeps cond).2.2.2.1 _ _) fun t => keeps_cond (keeps_bind ((ev_keeps elt).1 _ _) fun q => by split <;> first | trivial | exact keeps_ok _ _) (keeps_ok _ _)) ks
              have e3 : lcL (fun fr I => (evC L.cn L.cf cond true fr I).bind fun t I => bif t then (ev L.cn L.cf elt true fr I).fz fun d I => .ok (some d) I else .ok none I) tg (wipeF fr own) ks I' = .ok ds I2 := e2
              rw [e3] at k
              have k : I2 = I' := k
              subst k
              exact ⟨x1.weak false, S.strong x1 S3⟩
        refine h2 v G' (upd H' d u) fin.1 fin.2 ?_
        cases r2 with
        | new e s h0 h1 h2 h3 =>
          refine .new e (slAt_unlock kd D.isd s) ?_ h1 h2 h3
          rename_i ad
          by_cases had : ad = d
          · subst had; rw [upd_same] at h0; cases h0
          · rw [upd_ne had] at h0; exact h0
      · refine .inr ?_
        obtain ⟨J, wk, fin⟩ := D.it _ o hd
        refine lc_keys (J := J) (fun Q hq => run _ Q (fun b o e hb => e) (fun w hw => hw) hq) fin ?_
        exact lc_core (W := W) hix Ext.refl S wk h
theorem pe_lcDA (g : Good L X W) {own : List (Str × Nat)} {elt a cond : Tm} {tg : Tg} {e t i : Expr} {ifs : List Expr} {scope : Scope} {pos : Pos} {tX : TE} (hb : blkC X.N X.env.scope scope own = true) (ht : tgB (celB scope) (relS scope X.env.scope) X.N tg t = true) (hix : ∀ j ∈ tg.ix, j ∈ own.map (·.2)) (hs : notSet i = true)
    (ex : ExT X L a i tX) (hc : ∀ X', Good L.nl X' noW → X'.env.scope = relS scope X.env.scope → X'.N = X.N → PTs X' ifs (tc L noW cond)) (he : ∀ X', Good L.nl X' noW → X'.env.scope = relS scope X.env.scope → X'.N = X.N → PE X' e (te L noW elt)) :
    PE X (.ListComp e [⟨t, i, ifs, 0⟩] scope pos) (te L W (.lcD own elt tg a cond)) := by
  have base : PE X (.ListComp e [⟨t, i, ifs, 0⟩] scope pos) (tLc (iKeys tX) (gA X.K tg) (tc L noW cond) (te L noW elt) (own.map (·.2))) := pe_lc (g := gA X.K tg) g.calm g.nd (pi_keys ex.pe) (blkOk_by hb)
    (fun s H C cl fp => pg_A (X := X.blk s H scope (compEnvC scope cl C X.env) fp) (fb := celB scope) g.calm g.nd (fun x hx => by simpa [celB] using hx) ht)
    (fun s H C cl fp => hc _ (g.blk s H scope _ fp) rfl rfl) (fun s H C cl fp => he _ (g.blk s H scope _ fp) rfl rfl) (fold_of hs _)
  exact PE.imp (pe_alt (pe_lock base) base) fun σ H Q q => te_lcD ex hix q
end
end Air
/-! Air: a term's run (9): the main theorem. -/
namespace Air
open PySem PySem.Spec PyProof.Rows L2
variable [Kf]
def tyS (k : Str) : String := bif decide (k = "int") then "int" else bif decide (k = "bool") then "bool" else bif decide (k = "str") then "str" else bif decide (k = "tuple") then "tuple" else "list"
structure Main (L : Lg) (t : Tm) : Prop where
  e : ∀ {X : Cx} {W : WX} {e : Expr}, Good L X W → chk L.kn L.kw t X.env.scope X.N e = true → PE X e (te L W t) ∧ PT X e (tt L W t) ∧ (∀ {op es pos}, e = .BoolOp op es pos → PW X e (tt L W t))
  a : ∀ {X : Cx} {W : WX} {es : List Expr}, Good L X W → chkK L.kn L.kw t X.env.scope X.N es = true → PA X es (ta L W t)
  p : ∀ {X : Cx} {W : WX} {o : Option Expr}, Good L X W → chkP L.kn L.kw t X.env.scope X.N o = true → PO X o (tp L W t)
  c : ∀ {X : Cx} {W : WX} {es : List Expr}, Good L X W → chkC L.kn L.kw t X.env.scope X.N es = true → PTs X es (tc L W t)
  i : ∀ {X : Cx} {W : WX} {tg e : Expr}, Good L X W → chkI L.kn L.kw t X.env.scope X.N tg e = true → PI X tg e (ti L W t)
section
variable {L : Lg} {ro ro' : Bool} {G G1 G2 : Gh} {H H1 H2 : Hp} {σ : St} {fr : Fr} {I I1 : Is}
theorem Main.plain {t : Tm} (h : ∀ {X : Cx} {W : WX} {e : Expr}, Good L X W → chk L.kn L.kw t X.env.scope X.N e = true → PE X e (te L W t) ∧ PT X e (tt L W t) ∧ (∀ {op es pos}, e = .BoolOp op es pos → PW X e (tt L W t)))
    (ha : ∀ sc N es, chkK L.kn L.kw t sc N es = false := by intros; rfl) (hp : ∀ sc N es, chkP L.kn L.kw t sc N es = false := by intros; rfl) (hc : ∀ sc N es, chkC L.kn L.kw t sc N es = false := by intros; rfl) (hi : ∀ sc N tg es, chkI L.kn L.kw t sc N tg es = false := by intros; rfl) : Main L t :=
  ⟨h, fun _ h => (by rw [ha] at h; cases h), fun _ h => (by rw [hp] at h; cases h), fun _ h => (by rw [hc] at h; cases h), fun _ h => (by rw [hi] at h; cases h)⟩
theorem Main.walk {t : Tm} (h : ∀ {X : Cx} {W : WX} {tg e : Expr}, Good L X W → chkI L.kn L.kw t X.env.scope X.N tg e = true → PI X tg e (ti L W t))
    (he : ∀ sc N es, chk L.kn L.kw t sc N es = false := by intros; rfl) (ha : ∀ sc N es, chkK L.kn L.kw t sc N es = false := by intros; rfl) (hp : ∀ sc N es, chkP L.kn L.kw t sc N es = false := by intros; rfl) (hc : ∀ sc N es, chkC L.kn L.kw t sc N es = false := by intros; rfl) : Main L t :=
  ⟨fun _ h => (by rw [he] at h; cases h), fun _ h => (by rw [ha] at h; cases h), fun _ h => (by rw [hp] at h; cases h), fun _ h => (by rw [hc] at h; cases h), h⟩
theorem pe3 {X : Cx} {W : WX} {e : Expr} {t : Tm} (h : PE X e (te L W t)) (he : ∀ whole, isTrue e X.env whole = (do let v ← whole; standAt e.pos; holding [v] (truthy v)) := by intro _; rfl) (hb : ∀ {op es pos}, e ≠ .BoolOp op es pos := by intros; exact fun z => nomatch z) : PE X e (te L W t) ∧ PT X e (tt L W t) ∧ (∀ {op es pos}, e = .BoolOp op es pos → PW X e (tt L W t)) :=
  ⟨h, pt_of h he, fun z => absurd z hb⟩
/-- a comparison -/
theorem pe4 {X : Cx} {W : WX} {e : Expr} {t : Tm} (h : PE X e (te L W t)) (h2 : PT X e (tTest (te L W t))) (hb : ∀ {op es pos}, e ≠ .BoolOp op es pos := by intros; exact fun z => nomatch z) : PE X e (te L W t) ∧ PT X e (tt L W t) ∧ (∀ {op es pos}, e = .BoolOp op es pos → PW X e (tt L W t)) :=
  ⟨h, PT.imp h2 fun σ H Q q => tt_te q, fun z => absurd z hb⟩
theorem main_cns (c : Cs) : Main L (.cns c) := .plain fun {X W e} g h => by
  unfold chk at h
  split at h <;> first | (rename_i heq; cases heq; done) | (cases h; done) | skip
  rename_i heq; cases heq
  exact pe3 (pe_cnsA h)
theorem main_loc (i : Nat) : Main L (.loc i) := .plain fun {X W e} g h => by
  unfold chk at h
  split at h <;> first | (rename_i heq; cases heq; done) | (cases h; done) | skip
  rename_i heq; cases heq
  simp only [Bool.and_eq_true, decide_eq_true_eq, Bool.not_eq_true'] at h
  exact pe3 (PE.imp (pe_var h.1.1.1 (vis_of h.1.1.2) h.1.2 h.2) fun σ H Q q => loc_run q)
theorem main_gk (x : Str) : Main L (.gk x) := .plain fun {X W e} g h => by
  unfold chk at h
  split at h <;> first | (rename_i heq; cases heq; done) | (cases h; done) | skip
  rename_i heq; cases heq
  simp only [Bool.and_eq_true, decide_eq_true_eq] at h
  obtain ⟨⟨rfl, h2⟩, h3⟩ := h
  exact pe3 (pe_gkA g (gl_of h2).1 (gl_of h2).2 h3)
theorem main_nil : Main L .nil where
  e := fun g h => by
    unfold chk at h
    cases h
  a := fun {X W es} g h => by
    cases es with
    | nil => exact PA.imp pa_nil fun σ H Q ⟨ro, G, fr, I, S, q⟩ => q _ G H .refl S ⟨.nil, .nil⟩
    | cons x xs => cases h
  p := fun {X W o} g h => by
    cases o with
    | none => exact PO.imp po_none fun σ H Q ⟨ro, G, fr, I, S, q⟩ => q _ G H .refl S rfl
    | some x => cases h
  c := fun {X W es} g h => by
    cases es with
    | nil => exact PTs.imp pts_nil fun σ H Q ⟨ro, G, fr, I, S, q⟩ => q _ G H .refl S rfl
    | cons x xs => cases h
  i := fun g h => by cases h
theorem main_cons {a b : Tm} (iha : Main L a) (ihb : Main L b) : Main L (.cons a b) where
  e := fun g h => by
    unfold chk at h
    cases h
  a := fun {X W es} g h => by
    cases es with
    | nil => cases h
    | cons x xs =>
      simp only [chkK, Bool.and_eq_true] at h
      exact PA.imp (pa_cons (iha.e g h.1.1).1 (ihb.a g h.2) (star_of h.1.2 xs X.env)) fun σ H Q q => ta_cons q
  p := fun {X W o} g h => by
    cases b <;> cases o <;> try (cases h; done)
    simp only [chkP] at h
    refine PO.imp (po_some (iha.e g h).1) fun σ H Q q => ?_
    obtain ⟨ro, G, fr, I, S, q⟩ := q
    simp only [evP] at q
    refine ⟨ro, G, fr, I, S, PR.imp (PR.bind (rel := RkR L H) q) (fun _ _ _ _ r => r) ?_⟩
    rintro v H1 ⟨⟨d, k⟩, I1, G1, _, x, S1, r1, h1⟩
    cases d with
    | int i => exact ⟨i, r1.int, h1 _ G1 H1 x S1 rfl⟩
    | _ => exact absurd h1 id
  c := fun {X W es} g h => by
    cases b <;> try (cases h; done)
    rcases es with _ | ⟨x, _ | ⟨y, ys⟩⟩ <;> try (cases h; done)
    simp only [chkC] at h
    exact PTs.imp (pts_one (iha.e g h).2.1) fun σ H Q q => q
  i := fun {X W tg e} g h => by
    cases b <;> try (cases h; done)
    have h : chk L.kn L.kw a X.env.scope X.N e = true := h
    exact PI.imp (pi_any (iha.e g h).1) fun σ H Q q => ti_any g.K q
theorem main_bin {o : Bo} {a b : Tm} (iha : Main L a) (ihb : Main L b) : Main L (.bin o a b) := .plain fun {X W e} g h => by
  unfold chk at h
  split at h <;> first | (rename_i heq; cases heq; done) | (cases h; done) | skip
  rename_i heq; cases heq
  simp only [Bool.and_eq_true, decide_eq_true_eq] at h
  obtain ⟨⟨rfl, h1⟩, h2⟩ := h
  refine pe3 (PE.imp (pe_op (op_bin g.K o) (iha.e g h1).1 (ihb.e g h2).1) fun σ H Q q => ?_)
  obtain ⟨ro, G, fr, I, S, q⟩ := q
  simp only [ev] at q
  exact te_two S q
theorem main_neg {a : Tm} (iha : Main L a) : Main L (.neg a) := .plain fun {X W e} g h => by
  unfold chk at h
  split at h <;> first | (rename_i heq; cases heq; done) | (cases h; done) | skip
  rename_i heq; cases heq
  exact pe3 (PE.imp (pe_un un_neg (iha.e g h).1) fun σ H Q q => te_neg q)
theorem main_cmp {o : Co} {a b : Tm} (iha : Main L a) (ihb : Main L b) : Main L (.cmp o a b) := .plain fun {X W e} g h => by
  unfold chk at h
  split at h <;> first | (rename_i heq; cases heq; done) | (cases h; done) | skip
  rename_i heq; cases heq
  simp only [Bool.and_eq_true, decide_eq_true_eq] at h
  obtain ⟨⟨⟨rfl, h1⟩, h2⟩, h3⟩ := h
  have i : ∀ σ H Q, te L W (.cmp o a b) σ H Q → tOp (Two L fun p q I => cmpD o p.1 q.1 I) (te L W a) (te L W b) σ H Q := fun σ H Q q => by
    obtain ⟨ro, G, fr, I, S, q⟩ := q
    simp only [ev] at q
    exact te_two S q
  exact pe4 (PE.imp (pe_cmpR (op_cmp g.K g.hu o) (iha.e g h1).1 (ihb.e g h2).1 (mark_of h3)) i) (PT.imp (pt_cmpR (op_cmp g.K g.hu o) (iha.e g h1).1 (ihb.e g h2).1 (mark_of h3)) fun σ H Q q => i _ _ _ q)
theorem main_isn {ng : Bool} {a : Tm} (iha : Main L a) : Main L (.isn ng a) := .plain fun {X W e} g h => by
  unfold chk at h
  split at h <;> first | (rename_i heq; cases heq; done) | (cases h; done) | skip
  rename_i heq; cases heq
  simp only [Bool.and_eq_true, decide_eq_true_eq] at h
  obtain ⟨rfl, h1⟩ := h
  cases ng with
  | false =>
    have i : ∀ σ H Q, te L W (.isn false a) σ H Q → tOp (fun x y H Q => y = .non ∧ Q (.bl (decide (x = .non))) H) (te L W a) (tC .non) σ H Q := fun σ H Q q => te.imp (te_isn q) fun v H' z => ⟨rfl, by simpa using z⟩
    exact pe4 (PE.imp (pe_cmpR op_isN (iha.e g h1).1 pe_non rfl) i) (PT.imp (pt_cmpR op_isN (iha.e g h1).1 pe_non rfl) fun σ H Q q => i _ _ _ q)
  | true =>
    have i : ∀ σ H Q, te L W (.isn true a) σ H Q → tOp (fun x y H Q => y = .non ∧ Q (.bl (!decide (x = .non))) H) (te L W a) (tC .non) σ H Q := fun σ H Q q => te.imp (te_isn q) fun v H' z => ⟨rfl, by simpa using z⟩
    exact pe4 (PE.imp (pe_cmpR op_notN (iha.e g h1).1 pe_non rfl) i) (PT.imp (pt_cmpR op_notN (iha.e g h1).1 pe_non rfl) fun σ H Q q => i _ _ _ q)
theorem main_isb {ng k : Bool} {a : Tm} (iha : Main L a) : Main L (.isb ng k a) := .plain fun {X W e} g h => by
  unfold chk at h
  split at h <;> first | (rename_i heq; cases heq; done) | (cases h; done) | skip
  rename_i heq; cases heq
  simp only [Bool.and_eq_true, decide_eq_true_eq] at h
  obtain ⟨⟨rfl, hk⟩, h1⟩ := h
  have hk := hk.symm
  subst hk
  cases ng with
  | false =>
    have i : ∀ σ H Q, te L W (.isb false k a) σ H Q → tOp rIsB (te L W a) (tC (.bl k)) σ H Q := fun σ H Q q => te.imp (te_isb q) fun v H' ⟨b, e, z⟩ => ⟨b, k, e, rfl, by simpa using z⟩
    exact pe4 (PE.imp (pe_cmpR op_isBl (iha.e g h1).1 pe_bl rfl) i) (PT.imp (pt_cmpR op_isBl (iha.e g h1).1 pe_bl rfl) fun σ H Q q => i _ _ _ q)
  | true =>
    have i : ∀ σ H Q, te L W (.isb true k a) σ H Q → tOp rNotB (te L W a) (tC (.bl k)) σ H Q := fun σ H Q q => te.imp (te_isb q) fun v H' ⟨b, e, z⟩ => ⟨b, k, e, rfl, by simpa using z⟩
    exact pe4 (PE.imp (pe_cmpR op_notBl (iha.e g h1).1 pe_bl rfl) i) (PT.imp (pt_cmpR op_notBl (iha.e g h1).1 pe_bl rfl) fun σ H Q q => i _ _ _ q)
theorem main_ch2 {o1 o2 : Co} {a b c : Tm} (iha : Main L a) (ihb : Main L b) (ihc : Main L c) : Main L (.ch2 o1 o2 a b c) := .plain fun {X W e} g h => by
  unfold chk at h
  split at h <;> first | (rename_i heq; cases heq; done) | (cases h; done) | skip
  rename_i heq; cases heq
  simp only [Bool.and_eq_true, decide_eq_true_eq] at h
  obtain ⟨⟨⟨⟨⟨rfl, rfl⟩, h1⟩, h2⟩, h3⟩, h4⟩ := h
  exact pe4 (PE.imp (pe_chain (op_cmpB (L := L) g.K g.hu o1) (op_cmpB (L := L) g.K g.hu o2) (iha.e g h1).1 (ihb.e g h2).1 (ihc.e g h3).1 (mark_of h4)) fun σ H Q q => te_ch2 q)
    (PT.imp (pt_chain (op_cmpB (L := L) g.K g.hu o1) (op_cmpB (L := L) g.K g.hu o2) (iha.e g h1).1 (ihb.e g h2).1 (ihc.e g h3).1 (mark_of h4)) fun σ H Q q => te_ch2 q)
theorem main_ch3 {o1 o2 o3 : Co} {a b c d : Tm} (iha : Main L a) (ihb : Main L b) (ihc : Main L c) (ihd : Main L d) : Main L (.ch3 o1 o2 o3 a b c d) := .plain fun {X W e} g h => by
  unfold chk at h
  split at h <;> first | (rename_i heq; cases heq; done) | (cases h; done) | skip
  rename_i heq; cases heq
  simp only [Bool.and_eq_true, decide_eq_true_eq] at h
  obtain ⟨⟨⟨⟨⟨⟨⟨rfl, rfl⟩, rfl⟩, h1⟩, h2⟩, h3⟩, h4⟩, h5⟩ := h
  exact pe4 (PE.imp (pe_chain3 (op_cmpB (L := L) g.K g.hu o1) (op_cmpB (L := L) g.K g.hu o2) (op_cmpB (L := L) g.K g.hu o3) (iha.e g h1).1 (ihb.e g h2).1 (ihc.e g h3).1 (ihd.e g h4).1 (mark_of h5)) fun σ H Q q => te_ch3 q)
    (PT.imp (pt_chain3 (op_cmpB (L := L) g.K g.hu o1) (op_cmpB (L := L) g.K g.hu o2) (op_cmpB (L := L) g.K g.hu o3) (iha.e g h1).1 (ihb.e g h2).1 (ihc.e g h3).1 (ihd.e g h4).1 (mark_of h5)) fun σ H Q q => te_ch3 q)
theorem main_and {a b : Tm} (iha : Main L a) (ihb : Main L b) : Main L (.and a b) := .plain fun {X W e} g h => by
  unfold chk at h
  split at h <;> first | (rename_i heq; cases heq; done) | (cases h; done) | skip
  rename_i heq; cases heq
  rename_i x y r pos
  rw [Bool.and_eq_true] at h
  obtain ⟨h1, h2⟩ := h
  cases r with
  | nil =>
    have pw := PW.imp (pw_and (pos := pos) (iha.e g h1).2.1 (pw_and1 (ihb.e g h2).2.1)) fun σ H Q (q : tt L W (.and a b) σ H Q) => tt_and q
    exact ⟨PE.imp (pe_and (iha.e g h1).1 (pe_one (ihb.e g h2).1)) fun σ H Q q => te.imp (te_and q) fun v H' ⟨c, e, z⟩ => ⟨c, e, by
      cases c with
      | false => exact z
      | true => rw [if_pos rfl] at z ⊢; exact te.imp z fun v H' ⟨d, e, q⟩ => e ▸ q⟩, pw.pt, fun _ => pw⟩
  | cons z r =>
    have pw := PW.imp (pw_and (pos := pos) (iha.e g h1).2.1 ((ihb.e g h2).2.2 rfl)) fun σ H Q (q : tt L W (.and a b) σ H Q) => tt_and q
    exact ⟨PE.imp (pe_and (iha.e g h1).1 (ihb.e g h2).1) fun σ H Q q => te.imp (te_and q) fun v H' ⟨c, e, z⟩ => ⟨c, e, by
      cases c with
      | false => exact z
      | true => rw [if_pos rfl] at z ⊢; exact te.imp z fun v H' ⟨d, e, q⟩ => e ▸ q⟩, pw.pt, fun _ => pw⟩
theorem main_or {a b : Tm} (iha : Main L a) (ihb : Main L b) : Main L (.or a b) := .plain fun {X W e} g h => by
  unfold chk at h
  split at h <;> first | (rename_i heq; cases heq; done) | (cases h; done) | skip
  rename_i heq; cases heq
  rename_i x y r pos
  rw [Bool.and_eq_true] at h
  obtain ⟨h1, h2⟩ := h
  cases r with
  | nil =>
    have pw := PW.imp (pw_or (pos := pos) (iha.e g h1).2.1 (pw_or1 (ihb.e g h2).2.1)) fun σ H Q (q : tt L W (.or a b) σ H Q) => tt_or q
    exact ⟨PE.imp (pe_or (iha.e g h1).1 (pe_one (ihb.e g h2).1)) fun σ H Q q => te.imp (te_or q) fun v H' ⟨c, e, z⟩ => ⟨c, e, by
      cases c with
      | true => exact z
      | false => rw [if_neg Bool.false_ne_true] at z ⊢; exact te.imp z fun v H' ⟨d, e, q⟩ => e ▸ q⟩, pw.pt, fun _ => pw⟩
  | cons z r =>
    have pw := PW.imp (pw_or (pos := pos) (iha.e g h1).2.1 ((ihb.e g h2).2.2 rfl)) fun σ H Q (q : tt L W (.or a b) σ H Q) => tt_or q
    exact ⟨PE.imp (pe_or (iha.e g h1).1 (ihb.e g h2).1) fun σ H Q q => te.imp (te_or q) fun v H' ⟨c, e, z⟩ => ⟨c, e, by
      cases c with
      | true => exact z
      | false => rw [if_neg Bool.false_ne_true] at z ⊢; exact te.imp z fun v H' ⟨d, e, q⟩ => e ▸ q⟩, pw.pt, fun _ => pw⟩
theorem main_not {a : Tm} (iha : Main L a) : Main L (.not a) := .plain fun {X W e} g h => by
  unfold chk at h
  split at h <;> first | (rename_i heq; cases heq; done) | (cases h; done) | skip
  rename_i heq; cases heq
  exact ⟨PE.imp (pe_not (iha.e g h).1) fun σ H Q q => te_not q, PT.imp (pt_not (iha.e g h).2.1) fun σ H Q q => tt_not q, fun z => nomatch z⟩
theorem tt_ite {W : WX} {c a b : Tm} {Q : Bool → Hp → Prop} (h : tt L W (.ite c a b) σ H Q) : tt L W c σ H (fun t H1 => if t = true then tt L W a σ H1 Q else tt L W b σ H1 Q) := by
  obtain ⟨ro, G, fr, I, S, h⟩ := h
  simp only [ev] at h
  rw [tst_bind (α := Unit)] at h
  refine tt.imp (tt_next S h) fun t H1 => ?_
  rintro ⟨I1, G1, x, S1, h1⟩
  cases t with
  | true => rw [if_pos rfl]; exact ⟨ro, G1, fr, I1, S1, PR.on x S1 (fun _ _ _ _ r => r) h1⟩
  | false => rw [if_neg Bool.false_ne_true]; exact ⟨ro, G1, fr, I1, S1, PR.on x S1 (fun _ _ _ _ r => r) h1⟩
def tIfT (t ta tb : TT) : TT := fun σ H Q => t σ H fun c H1 => if c = true then ta σ H1 Q else tb σ H1 Q
theorem pt_ifExp {X : Cx} {c a b : Expr} {tc ta tb : TT} {pos : Pos} (hc : PT X c tc) (ha : PT X a ta) (hb : PT X b tb) : PT X (.IfExp c a b pos) (tIfT tc ta tb) := by
  refine ⟨fun pins s σ H Q I h => ?_⟩
  refine isTrue_IfExp (thn (hc.run pins s σ H _ I h) fun d s1 ⟨H1, I1, q1⟩ => ?_)
  cases d with
  | true => exact ha.run pins s1 σ H1 Q I1 q1
  | false => exact hb.run pins s1 σ H1 Q I1 q1
theorem main_ite {c a b : Tm} (ihc : Main L c) (iha : Main L a) (ihb : Main L b) : Main L (.ite c a b) := .plain fun {X W e} g h => by
  unfold chk at h
  split at h <;> first | (rename_i heq; cases heq; done) | (cases h; done) | skip
  rename_i heq; cases heq
  simp only [Bool.and_eq_true] at h
  obtain ⟨⟨h1, h2⟩, h3⟩ := h
  exact ⟨PE.imp (pe_ifExp (ihc.e g h1).2.1 (iha.e g h2).1 (ihb.e g h3).1) fun σ H Q q => te_ite q, PT.imp (pt_ifExp (ihc.e g h1).2.1 (iha.e g h2).2.1 (ihb.e g h3).2.1) fun σ H Q q => tt_ite q, fun z => nomatch z⟩
theorem main_tup {es : Tm} (ih : Main L es) : Main L (.tup es) := .plain fun {X W e} g h => by
  unfold chk at h
  split at h <;> first | (rename_i heq; cases heq; done) | (cases h; done) | skip
  rename_i heq; cases heq
  exact pe3 (PE.imp (pe_tup (ih.a g h)) fun σ H Q q => te_tup q)
theorem main_lst {es : Tm} (ih : Main L es) : Main L (.lst es) := .plain fun {X W e} g h => by
  unfold chk at h
  split at h <;> first | (rename_i heq; cases heq; done) | (cases h; done) | skip
  rename_i heq; cases heq
  exact pe3 (PE.imp (pe_lst (ih.a g h)) fun σ H Q q => te_lst q)
theorem main_sub {a i : Tm} (iha : Main L a) (ihi : Main L i) : Main L (.sub a i) := .plain fun {X W e} g h => by
  unfold chk at h
  split at h <;> first | (rename_i heq; cases heq; done) | (cases h; done) | skip
  rename_i heq; cases heq
  simp only [Bool.and_eq_true] at h
  obtain ⟨⟨h1, h2⟩, h3⟩ := h
  refine pe3 (PE.imp (pe_ix (ix_run g.K g.hu) (iha.e g h1).1 (ihi.e g h2).1 (plain_ix h3)) fun σ H Q q => ?_)
  obtain ⟨ro, G, fr, I, S, q⟩ := q
  simp only [ev] at q
  exact te_two S q
theorem main_slc {a lo hi : Tm} (iha : Main L a) (ihl : Main L lo) (ihh : Main L hi) : Main L (.slc a lo hi) := .plain fun {X W e} g h => by
  unfold chk at h
  split at h <;> first | (rename_i heq; cases heq; done) | (cases h; done) | skip
  rename_i heq; cases heq
  simp only [Bool.and_eq_true] at h
  obtain ⟨⟨h1, h2⟩, h3⟩ := h
  exact pe3 (PE.imp (pe_slice (slc_run g.K) (iha.e g h1).1 (ihl.p g h2) (ihh.p g h3)) fun σ H Q q => te_slc q)
theorem main_rev {a : Tm} (iha : Main L a) : Main L (.rev a) := .plain fun {X W e} g h => by
  unfold chk at h
  split at h <;> first | (rename_i heq; cases heq; done) | (cases h; done) | skip
  rename_i heq; cases heq
  exact pe3 (PE.imp (pe_revL (iha.e g h).1) fun σ H Q q => te_rev g.K q)
theorem main_call {x : Str} {es : Tm} (ih : Main L es) : Main L (.call x es) := .plain fun {X W e} g h => by
  unfold chk at h
  split at h <;> first | (rename_i heq; cases heq; done) | (cases h; done) | skip
  · rename_i heq; cases heq
    simp only [Bool.and_eq_true, decide_eq_true_eq, Bool.not_eq_true'] at h
    obtain ⟨⟨⟨rfl, h1⟩, h2⟩, h3⟩ := h
    exact pe3 (pe_call0A g (gl_of h1).1 (gl_of h1).2 h3 h2)
  rename_i heq; cases heq
  rename_i f e1 xs p1 pos
  simp only [Bool.and_eq_true, decide_eq_true_eq, Bool.not_eq_true'] at h
  obtain ⟨⟨⟨⟨rfl, h1⟩, hm⟩, h2⟩, h3⟩ := h
  cases hk : L.kn f with
  | none => rw [hk] at h3; cases h3
  | some q =>
    obtain ⟨np, nd⟩ := q
    rw [hk] at h3
    simp only [Bool.and_eq_true, decide_eq_true_eq] at h3
    exact pe3 (pe_callA g (ih.a g h2) (gl_of h1).1 (gl_of h1).2 hm h2 hk h3.1.1 h3.1.2 h3.2)
/-- the terms of a row -/
def Parts (L : Lg) : Tm → Prop
  | .cons a b => Main L a ∧ Parts L b
  | _ => True
theorem main_blt {f : Bi} {es : Tm} (ih : Main L es) (pt : Parts L es) : Main L (.blt f es) := .plain fun {X W e} g h => by
  unfold chk at h
  split at h <;> first | (rename_i heq; cases heq; done) | (cases h; done) | skip
  · rename_i heq; cases heq
    rw [Bool.or_eq_true] at h
    rcases h with h | h
    · simp only [Bool.and_eq_true, decide_eq_true_eq] at h
      obtain ⟨⟨⟨rfl, h1⟩, h2⟩, h3⟩ := h
      exact pe3 (pe_bltA g (ih.a g h2) (gl_of h1).1 (chkK_star h2) (by simpa using h3))
    · simp only [Bool.and_eq_true, decide_eq_true_eq] at h
      obtain ⟨⟨⟨rfl, rfl⟩, h1⟩, h2⟩ := h
      unfold ssB at h2
      split at h2 <;> first | (cases h2; done) | skip
      cases es <;> first | (exfalso; simp [chkK] at h2; done) | skip
      rename_i a b
      cases b <;> first | (exfalso; simp [chkK] at h2; done) | skip
      simp only [chkK, Bool.and_eq_true, and_true, decide_eq_true_eq] at h2
      obtain ⟨⟨rfl, h4⟩, h5, h6⟩ := h2
      exact pe3 (PE.imp (pe_sset g.calm (gl_of h1).1 (g.mg ▸ g.bi _ (by decide +kernel)) (gl_of h4).1 (g.mg ▸ g.bi _ (by decide +kernel)) (pt.1.e g h5).1 (star_of h6 [] X.env)) fun σ H Q q => te_sset g.K q)
  · rename_i heq; cases heq
    rename_i x p e k v kp pos
    simp only [Bool.and_eq_true, decide_eq_true_eq] at h
    obtain ⟨⟨⟨rfl, h1⟩, rfl⟩, h2⟩ := h
    cases es <;> first | (exfalso; simp [chkK] at h2; done) | skip
    rename_i a b
    cases b <;> first | (exfalso; simp [chkK] at h2; done) | skip
    rename_i d r
    cases r <;> first | (exfalso; simp [chkK] at h2; done) | skip
    simp only [chkK, Bool.and_eq_true, and_true] at h2
    obtain ⟨⟨h3, h4⟩, h5, h6⟩ := h2
    exact pe3 (PE.imp (pe_callBK (minD_run (L := L) g.calm g.hu) (gl_of h1).1 (g.mg ▸ g.bi _ (by decide +kernel)) (by decide +kernel) (pa_cons (pt.1.e g h3).1 pa_nil (star_of h4 _ X.env)) (pk_cons (pt.2.1.e g h5).1 pk_nil) (by decide) (by decide) (by rw [star_of h4]; rfl) (by rw [star_of h4]; rfl)) fun σ H Q q => te_two_row q)
/-! ### isinstance -/
def tyD : D → String
  | .non => "NoneType"
  | .bl _ => "bool"
  | .int _ => "int"
  | .str _ => "str"
  | .tup _ => "tuple"
  | .lst _ => "list"
  | .scr _ => "list"
  | _ => "dict"
def Five (k : Str) : Prop := k = "int" ∨ k = "bool" ∨ k = "str" ∨ k = "tuple" ∨ k = "list"
theorem isi_kit {K : PySem.W.Frag} {d : D} {k : Str} {b : Bool} (h : isiD d k = some b) (hk : Five k) : PySem.W.kitOne K (.type (tyD d)) (.type (tyS k)) = some b := by
  rcases hk with rfl | rfl | rfl | rfl | rfl <;> cases d <;> first
    | (have h : none = some b := h; cases h; done)
    | (have h : some true = some b := h; cases h; exact kit_ty (by rfl))
    | (have h : some false = some b := h; cases h; exact kit_ty (by rfl))
theorem isi_no {d : D} {k : Str} {b : Bool} (h : isiD d k = some b) : (∀ n, d ≠ .ins n) ∧ ∀ ks vs, d ≠ .dT ks vs := by
  constructor
  · rintro n rfl; cases h
  · rintro ks vs rfl; cases h
theorem ty_of {k : Kd} {d : D} {v : V} {H0 : Hp} {lk : Bool} (S : Sx L.c lk G fr I σ H) (r : Rk L H0 G H (d, k) v) (h : (∀ n, d ≠ .ins n) ∧ ∀ ks vs, d ≠ .dT ks vs) : TyX L.K H v (.type (tyD d)) := by
  cases d with
  | non => rw [r.non]; exact .base .non
  | bl b => rw [r.bl]; exact .base (.bl b)
  | int i => rw [r.int]; exact .base (.int i)
  | str z => rw [r.str.1]; exact .base (.str z)
  | tup ds =>
    obtain ⟨a, vs, rfl, hs, _⟩ := r.tupK S
    rcases hs with (hs | ⟨o, hs⟩) | ⟨o, its, n, e, c, _⟩
    · exact .base (.tup hs)
    · exact .fTuple hs
    · exact .kTuple e c
  | lst ds =>
    obtain ⟨a, vs, rfl, hs, _⟩ := r.lst S
    exact .base (.lst hs)
  | scr ns =>
    obtain ⟨a, rfl, hs⟩ := r.scr S
    rcases hs with (hs | ⟨o, hs⟩) | ⟨o, its, n, e, c, _⟩
    · exact .base (.lst hs)
    · exact .base (.frz hs)
    · exact .kList e c
  | dK ks vs =>
    obtain ⟨a, us, rfl, hs | ⟨o, hs⟩, _⟩ := r.dK S
    · exact .base (.dK hs)
    · exact .fDict hs
  | dT ks vs => exact absurd rfl (h.2 ks vs)
  | ins n => exact absurd rfl (h.1 n)
theorem five_boot {k : Str} (h : Five k) : bootBuiltins k = some (.type (tyS k)) ∧ k ≠ "__name__" ∧ (k == ("__debug__" : Str)) = false ∧ k ∈ (["len", "all", "any", "sorted", "list", "tuple", "min", "max", "int", "str", "divmod", "dict", "sum", "isinstance", "range", "enumerate", "zip", "set", "bool", "KeyError"] : List Str) := by
  rcases h with rfl | rfl | rfl | rfl | rfl <;> decide +kernel
theorem isB_of {sc : Scope} {ks : List Str} {e : Expr} (h : isB sc ks e = true) : ∃ k pos, ks = [k] ∧ e = .Name k pos ∧ glB sc k = true ∧ Five k := by
  unfold isB at h
  split at h
  · rename_i k x pos
    simp only [Bool.and_eq_true, Bool.or_eq_true, decide_eq_true_eq] at h
    obtain ⟨⟨rfl, h1⟩, h2⟩ := h
    refine ⟨x, pos, rfl, rfl, h1, ?_⟩
    rcases h2 with ((((h | h) | h) | h) | h)
    · exact .inl h
    · exact .inr (.inl h)
    · exact .inr (.inr (.inl h))
    · exact .inr (.inr (.inr (.inl h)))
    · exact .inr (.inr (.inr (.inr h)))
  · cases h
theorem main_isi {a : Tm} {ks : List Str} (iha : Main L a) : Main L (.isi a ks) := .plain fun {X W e} g h => by
  unfold chk at h
  split at h <;> first | (rename_i heq; cases heq; done) | (cases h; done) | skip
  rename_i heq; cases heq
  rename_i x e1 t p1 pos
  simp only [Bool.and_eq_true, decide_eq_true_eq] at h
  obtain ⟨⟨⟨⟨rfl, h1⟩, h2⟩, h3⟩, h4⟩ := h
  obtain ⟨k, kp, rfl, rfl, h5, h6⟩ := isB_of h3
  obtain ⟨f1, f2, f3, f4⟩ := five_boot h6
  have pn : PE X (.Name k kp) (tC (.ty (tyS k))) := ⟨fun _ _ _ H _ I h => ld_blt I (gl_of h5).1 (g.mg ▸ g.bi k f4) f1 ⟨.ty _, H, I, rfl, h⟩ f2 f3⟩
  refine pe3 (PE.imp (pe_callB call_isi (gl_of h1).1 (g.mg ▸ g.bi _ (by decide +kernel)) (by decide +kernel) (pa_cons (iha.e g h2).1 (pa_cons pn pa_nil (by rfl)) (star_of h4 _ X.env)) (by decide) (by decide) (star_of h4 _ X.env) (by rfl)) fun σ H Q q => ?_)
  obtain ⟨ro, G, fr, I, S, q⟩ := q
  simp only [ev] at q
  refine ⟨ro, G, fr, I, S, PR.imp (PR.bind (rel := RkR L H) q) (fun _ _ _ _ r => r) ?_⟩
  rintro v H1 ⟨⟨d, kd⟩, I1, G1, _, e1, S1, r1, q1⟩
  have q1 : PR L W ro G H σ fr (match isiD d k with | some b => b2 b I1 | none => .bad) (RkR L H) Q := q1
  cases e2 : isiD d k with
  | none => rw [e2] at q1; exact absurd q1 id
  | some b =>
    rw [e2] at q1
    exact ⟨v, .ty (tyS k), .type (tyD d), .type (tyS k), b, rfl, .ty _, g.K ▸ ty_of S1 r1 (isi_no e2), isi_kit e2 h6, fin_bl q1 e1 S1⟩
theorem main_lc {own : List (Str × Nat)} {elt it cond : Tm} {tg : Tg} (ihe : Main L.nl elt) (ihi : Main L it) (ihc : Main L.nl cond) : Main L (.lc own elt tg it cond) := .plain fun {X W e} g h => by
  unfold chk at h
  split at h <;> first | (rename_i heq; cases heq; done) | (cases h; done) | skip
  rename_i heq; cases heq
  simp only [Bool.and_eq_true] at h
  obtain ⟨⟨⟨⟨⟨⟨h1, h2⟩, h3⟩, h4⟩, h5⟩, h6⟩, h7⟩ := h
  have h4 := List.all_eq_true.mp h4
  exact pe3 (pe_lcA g h1 h3 (fun j hj => of_decide_eq_true (h4 j hj)) h7 (ihi.i g h2) (fun X' g' e1 e2 => ihc.c g' (by rw [e1, e2]; exact h5)) fun X' g' e1 e2 => PE.imp (ihe.e g' (by rw [e1, e2]; exact h6)).1 fun σ H Q q => te_kn q)
theorem main_rng1 {a : Tm} (iha : Main L a) : Main L (.rng1 a) := .walk fun {X W tg e} g h => by
  unfold chkI at h
  split at h <;> first | (rename_i heq; cases heq; done) | (cases h; done) | skip
  rename_i heq; cases heq
  simp only [Bool.and_eq_true, decide_eq_true_eq] at h
  obtain ⟨⟨⟨rfl, h1⟩, h2⟩, h3⟩ := h
  exact PI.imp (pi_range1 (gl_of h1).1 (g.mg ▸ g.bi _ (by decide +kernel)) (pa_cons (iha.e g h2).1 pa_nil (star_of h3 _ X.env)) (star_of h3 _ X.env)) fun σ H Q q => ti_rng1 q
theorem main_rng2 {a b : Tm} (iha : Main L a) (ihb : Main L b) : Main L (.rng2 a b) := .walk fun {X W tg e} g h => by
  unfold chkI at h
  split at h <;> first | (rename_i heq; cases heq; done) | (cases h; done) | skip
  rename_i heq; cases heq
  simp only [Bool.and_eq_true, decide_eq_true_eq] at h
  obtain ⟨⟨⟨⟨⟨rfl, h1⟩, h2⟩, h3⟩, h4⟩, h5⟩ := h
  exact PI.imp (pi_range2 (gl_of h1).1 (g.mg ▸ g.bi _ (by decide +kernel)) (pa_cons (iha.e g h2).1 (pa_cons (ihb.e g h4).1 pa_nil (star_of h5 _ X.env)) (star_of h3 _ X.env)) (by rw [star_of h3, star_of h5]; rfl) (star_of h5 _ X.env)) fun σ H Q q => ti_rng2 q
theorem main_enm {a : Tm} (iha : Main L a) : Main L (.enm a) := .walk fun {X W tg e} g h => by
  unfold chkI at h
  split at h <;> first | (rename_i heq; cases heq; done) | (cases h; done) | skip
  rename_i heq; cases heq
  simp only [Bool.and_eq_true, decide_eq_true_eq] at h
  obtain ⟨⟨⟨rfl, h1⟩, h2⟩, h3⟩ := h
  exact PI.imp (pi_enum (gl_of h1).1 (g.mg ▸ g.bi _ (by decide +kernel)) (pa_cons (iha.e g h2).1 pa_nil (star_of h3 _ X.env)) (star_of h3 _ X.env)) fun σ H Q q => ti_enm g.K q
theorem main_zp {a b : Tm} (iha : Main L a) (ihb : Main L b) : Main L (.zp a b) := .walk fun {X W tg e} g h => by
  unfold chkI at h
  split at h <;> first | (rename_i heq; cases heq; done) | (cases h; done) | skip
  rename_i heq; cases heq
  simp only [Bool.and_eq_true, decide_eq_true_eq] at h
  obtain ⟨⟨⟨⟨⟨rfl, h1⟩, h2⟩, h3⟩, h4⟩, h5⟩ := h
  exact PI.imp (pi_zip (gl_of h1).1 (g.mg ▸ g.bi _ (by decide +kernel)) (pa_cons (iha.e g h2).1 (pa_cons (ihb.e g h4).1 pa_nil (star_of h5 _ X.env)) (star_of h3 _ X.env)) (star_of h3 _ X.env) (by rw [star_of h5]; rfl)) fun σ H Q q => ti_zp g.K q
theorem argsB_of {a : Arguments} (h : argsB a = true) : a = ⟨[], [], none, [], [], none, []⟩ := by
  unfold argsB at h
  split at h
  · rfl
  · cases h
/-- all that came since is kept -/
theorem Ext.gro (ro : Bool) (x : LamX.Tabs L.c.Tb H) (g : Gro H H1) : Ext ro G H G H1 := ⟨fun a o e _ t => g.keep a o e t, g.dom, g.tp, fun _ _ e => e, fun _ _ e => .inl e, rfl, fun _ h => .inl h, List.prefix_refl _, fun _ => ⟨rfl, rfl⟩⟩
theorem Sx.gro (S : Sx L.c ro G fr I σ H) (g : Gro H H1) (t : LamX.Tabs L.c.Tb H1) : Sx L.c ro G fr I σ H1 := S.over (Ext.gro true S.tb g) (fun a u e => by
    rcases S.sub a u e with z | ⟨z, o, z2⟩
    · refine .inl (g.keep _ _ z fun ps q => ?_)
      have := S.fine a u e
      rw [q] at this; exact this
    · exact .inr ⟨z, o, g.keep _ _ z2 fun ps q => by cases q⟩) S.fine t
theorem main_told {t : Tm} (ih : Main L.nl t) : Main L (.told t) := .plain fun {X W e} g h => by
  unfold chk at h
  split at h <;> first | (rename_i heq; cases heq; done) | (cases h; done) | skip
  rename_i heq; cases heq
  rename_i x p ar body scope lpos pos
  simp only [Bool.and_eq_true, decide_eq_true_eq] at h
  obtain ⟨⟨⟨⟨⟨⟨rfl, h1⟩, h2⟩, h3⟩, h4⟩, h5⟩, h6⟩ := h
  obtain rfl := argsB_of h4
  obtain ⟨k, _, hr, hrH, hfn⟩ := g.k
  have ls := LamX.lamS_by h5
  refine pe3 (PE.imp (pe_told (T := L.c.Tb) (k := k) (t := fun E => te L.nl (fun cls d _ H => E cls d H) t) (g.tel h3) (gl_of h1).1 (g.lam h2) (hr h2) ls rfl (fun _ _ _ _ _ => rfl) (fun A outer s H E f c' hk => ?_) (gl_of h1).2) fun σ H Q q => ?_)
  · have G' : Good L.nl (LamX.lamCx X A outer s H E scope f c') (fun cls d _ H => E cls d H) :=
      ⟨g.K, g.mg, rfl, g.nd, hk.units, L2.takes_of rfl rfl rfl rfl, passes_of rfl, g.bi, fun x h => g.cn x (nl_kn h), fun c h => g.xc c (nl_kn h), fun h => absurd h (nl_no _), fun h => g.tel (nl_kn h), fun f h => g.fl f (nl_kn h), fun h => absurd h (nl_noH _), k, hk, fun h => absurd h (nl_no _), fun h => absurd h (nl_noH _), fun x np nd h hd => by
        obtain ⟨f, fd, ps, dvs, dfl, gg, e1, e2, F⟩ := hfn x np nd (nl_kn h) hd
        exact ⟨f, fd, ps, dvs, dfl, gg, e1, e2, F.kn⟩⟩
    exact (ih.e G' h6).1
  · obtain ⟨ro, G, fr, I, S, q⟩ := q
    simp only [ev] at q
    refine ⟨S.tb, fun H1 gr T1 => ⟨ro, G, fr, I, S.gro gr T1, ?_⟩⟩
    have x1 : Ext ro G H G H1 := Ext.gro ro S.tb gr
    cases e : ev L.cn L.cf t ro fr I with
    | ok p I' =>
      have e2 : ev L.nl.cn L.nl.cf t ro fr I = .ok p I' := e
      rw [e] at q
      rw [e2]
      exact fun v G' H' y S' r => q v G' H' (x1.trans y) S' (r.lg.from gr.dom)
    | exc z I' =>
      have e2 : ev L.nl.cn L.nl.cf t ro fr I = .exc z I' := e
      rw [e] at q
      rw [e2]
      obtain ⟨hz, q⟩ := PR.cond (show PR L W ro G H σ fr (bif decide (z.cls ∈ tellN) then .ok (D.tup [.str "refused", .str z.cls], Kd.fro) I' else .bad) (RkR L H) Q from q)
      intro cls d G' H' y S' xr
      refine ⟨z.cls, of_decide_eq_true hz, g.mg.symm ▸ xr.1, ?_, fun H2 p k2 e2 hp => ?_⟩
      · rcases xr.2 with ⟨_, z⟩ | ⟨a, vs, z, z2, _⟩
        · exact .inl z
        · exact .inr ⟨a, _, z, z2⟩
      · have S2 := S'.more k2
        have dom : ∀ a, H2 a = none → H' a = none := fun a e => by
          cases z : H' a with
          | none => rfl
          | some o => rw [k2 a o z] at e; cases e
        have y2 : Ext ro G' H' G' H2 := ⟨fun a o e _ _ => k2 a o e, dom, (fun a vs e => by
          cases z : H' a with
          | none => exact .inl rfl
          | some o => rw [k2 a o z] at e; exact .inr e), fun _ _ e => e, fun _ _ e => .inl e, rfl, fun _ h => .inl h, List.prefix_refl _, fun _ => ⟨rfl, rfl⟩⟩
        have nF := S'.notF hp
        have S3 := S2.freeze (a := p) (u := .tup [.str "refused", .str z.cls]) trivial (.inl e2) (S'.notFr hp) (S'.notIs hp) nF
        have ok : PyData.strOk z.cls = true := by
          have : ∀ y ∈ tellN, PyData.strOk y = true := by decide +kernel
          exact this _ (of_decide_eq_true hz)
        refine q (.ref p) (G'.put p _) H2 ((x1.trans y).trans (y2.put hp nF)) S3 (.fro (.tup (vs := [.str "refused", .str z.cls]) upd_same (.cons (.str _ (by decide +kernel)) (.cons (.str _ ok) .nil))))
    | bad => rw [e] at q; exact absurd q id
theorem rowP {X : Cx} {W : WX} (g : Good L X W) : ∀ {es : Tm}, Parts L es → RowP L X W es := by
  intro es
  induction es with
  | cons a b iha ihb => exact fun h => ⟨fun e he => (h.1.e g he).1, ihb h.2⟩
  | _ => exact fun _ => trivial
theorem kwB_of : ∀ {ks : List Str} {kws : List Keyword} {l : List Expr}, kwB ks kws l = true → kwNms kws = ks ∧ ∀ k ∈ kws, k.arg.isSome = true
  | [], [], _, _ => ⟨rfl, fun k hk => by cases hk⟩
  | [], _ :: _, _, h => by cases h
  | _ :: _, [], _, h => by cases h
  | k :: ks, ⟨none, v, p⟩ :: kws, _, h => by cases h
  | k :: ks, ⟨some x, v, p⟩ :: kws, _, h => by
    simp only [kwB, Bool.and_eq_true, decide_eq_true_eq] at h
    obtain ⟨⟨rfl, _⟩, h3⟩ := h
    obtain ⟨e1, e2⟩ := kwB_of h3
    refine ⟨?_, fun k hk => ?_⟩
    · show x :: kwNms kws = _
      rw [e1]
    · rcases List.mem_cons.mp hk with rfl | hk
      · rfl
      · exact e2 k hk
theorem main_fld {a : Tm} {x : Str} (iha : Main L a) : Main L (.fld a x) := .plain fun {X W e} g h => by
  unfold chk at h
  split at h <;> first | (rename_i heq; cases heq; done) | (cases h; done) | skip
  rename_i heq; cases heq
  simp only [Bool.and_eq_true, decide_eq_true_eq] at h
  obtain ⟨⟨⟨rfl, h1⟩, h2⟩, h3⟩ := h
  exact pe3 (pe_fldA g (iha.e g h1).1 h2 h3)
theorem main_meth {a es : Tm} {m x : Str} (iha : Main L a) (pt : Parts L es) : Main L (.meth a m x es) := .plain fun {X W e} g h => by
  unfold chk at h
  split at h <;> first | (rename_i heq; cases heq; done) | (cases h; done) | skip
  rename_i heq; cases heq
  simp only [Bool.and_eq_true, decide_eq_true_eq] at h
  obtain ⟨⟨⟨⟨⟨⟨⟨rfl, hx⟩, h1⟩, h2⟩, h3⟩, h4⟩, h5⟩, h6⟩ := h
  cases hk : L.kn x with
  | none => rw [hk] at h6; cases h6
  | some q =>
    obtain ⟨np, nd⟩ := q
    rw [hk] at h6
    simp only [Bool.and_eq_true, decide_eq_true_eq] at h6
    exact pe3 (pe_methA g (iha.e g h1).1 (rowP g pt) hx h2 h3 h4 h5 hk h6.1.1 h6.1.2 h6.2)
theorem main_callK {f : Str} {n : Nat} {ks : List Str} {pm : List (Sum Nat Cs)} {es : Tm} (pt : Parts L es) : Main L (.callK f n ks pm es) := .plain fun {X W e} g h => by
  unfold chk at h
  split at h <;> first | (rename_i heq; cases heq; done) | (cases h; done) | skip
  rename_i heq; cases heq
  simp only [Bool.and_eq_true, decide_eq_true_eq, Bool.not_eq_true'] at h
  obtain ⟨⟨⟨⟨⟨⟨⟨⟨rfl, h1⟩, h2⟩, h3⟩, h4⟩, h5⟩, h6⟩, h7⟩, h8⟩ := h
  rename_i f' _ _ _ _ _
  cases hk : L.kn f' with
  | none => rw [hk] at h8; cases h8
  | some q =>
    obtain ⟨np, nd⟩ := q
    rw [hk] at h8
    simp only [Bool.and_eq_true, decide_eq_true_eq] at h8
    obtain ⟨e1, e2⟩ := kwB_of h5
    exact pe3 (pe_callKA g (rowP g pt) (gl_of h1).1 (gl_of h1).2 h2 h3 h4 e2 e1 h6 h7 hk h8.1 h8.2)
theorem main_methK {a : Tm} {m f : Str} {n : Nat} {ks : List Str} {pm : List (Sum Nat Cs)} {es : Tm} (iha : Main L a) (pt : Parts L es) : Main L (.methK a m f n ks pm es) := .plain fun {X W e} g h => by
  unfold chk at h
  split at h <;> first | (rename_i heq; cases heq; done) | (cases h; done) | skip
  rename_i heq; cases heq
  simp only [Bool.and_eq_true, decide_eq_true_eq] at h
  obtain ⟨⟨⟨⟨⟨⟨⟨⟨⟨⟨⟨rfl, hx⟩, h1⟩, h2⟩, h3⟩, h4⟩, h5⟩, h6⟩, h7⟩, h8⟩, h9⟩, h10⟩ := h
  cases hk : L.kn f with
  | none => rw [hk] at h10; cases h10
  | some q =>
    obtain ⟨np, nd⟩ := q
    rw [hk] at h10
    simp only [Bool.and_eq_true, decide_eq_true_eq] at h10
    obtain ⟨e1, e2⟩ := kwB_of h5
    exact pe3 (pe_methKA g (iha.e g h1).1 (rowP g pt) hx h2 h3 h6 (by simp only [List.length_cons]; omega) h4 e2 e1 h8 h9 hk h10.1 h10.2)
theorem main_new : Main L .new := .plain fun {X W e} g h => by
  unfold chk at h
  split at h <;> first | (rename_i heq; cases heq; done) | (cases h; done) | skip
  rename_i heq; cases heq
  simp only [Bool.and_eq_true, decide_eq_true_eq] at h
  obtain ⟨⟨⟨rfl, h1⟩, h2⟩, h3⟩ := h
  exact pe3 (pe_newA g (gl_of h1).1 h2 h3)
theorem main_dnew {t : Bool} : Main L (.dnew t) := .plain fun {X W e} g h => by
  unfold chk at h
  split at h <;> first | (rename_i heq; cases heq; done) | (cases h; done) | skip
  cases t with
  | false => exact pe3 (PE.imp pe_dnewK fun σ H Q q => te_dnewK q)
  | true => exact pe3 (PE.imp pe_dnewT fun σ H Q q => te_dnewT q)
theorem main_disp {ks : List Str} {vs : Tm} (pt : Parts L vs) : Main L (.disp ks vs) := .plain fun {X W e} g h => by
  unfold chk at h
  split at h <;> first | (rename_i heq; cases heq; done) | (cases h; done) | skip
  rename_i heq; cases heq
  simp only [Bool.and_eq_true, decide_eq_true_eq] at h
  obtain ⟨⟨⟨⟨h1, h2⟩, h3⟩, h4⟩, h5⟩ := h
  exact pe3 (pe_dispA (rowP g pt) h1 h2 h3 h4 h5)
theorem main_get2 {a k d : Tm} (iha : Main L a) (ihk : Main L k) (ihd : Main L d) : Main L (.get2 a k d) := .plain fun {X W e} g h => by
  unfold chk at h
  split at h <;> first | (rename_i heq; cases heq; done) | (cases h; done) | skip
  rename_i heq; cases heq
  simp only [Bool.and_eq_true, decide_eq_true_eq] at h
  obtain ⟨⟨⟨⟨⟨⟨⟨rfl, h1⟩, h2⟩, h3⟩, h4⟩, h5⟩, h6⟩, h7⟩ := h
  exact pe3 (PE.imp (pe_get2 (by have := g.hu; omega) (iha.e g h1).1 (ihk.e g h3).1 (ihd.e g h4).1 ⟨any_base h2, by rw [star_of h5, star_of h6]; rfl, h7, by rw [star_of h5, star_of h6]; rfl⟩) fun σ H Q q => g.K ▸ te_get2 q)
theorem main_vals {a : Tm} (iha : Main L a) : Main L (.vals a) := .plain fun {X W e} g h => by
  unfold chk at h
  split at h <;> first | (rename_i heq; cases heq; done) | (cases h; done) | skip
  rename_i heq; cases heq
  simp only [Bool.and_eq_true, decide_eq_true_eq] at h
  obtain ⟨⟨⟨⟨⟨rfl, h1⟩, rfl⟩, h2⟩, h3⟩, h4⟩ := h
  exact pe3 (PE.imp (pe_vals g.calm (gl_of h1).1 (g.mg ▸ g.bi _ (by decide +kernel)) (iha.e g h2).1 (rcv_base h3) h4) fun σ H Q q => te_vals q)
theorem main_lcD {own : List (Str × Nat)} {elt a cond : Tm} {tg : Tg} (ihe : Main L.nl elt) (ihc : Main L.nl cond) : Main L (.lcD own elt tg a cond) := .plain fun {X W e} g h => by
  unfold chk at h
  split at h <;> first | (rename_i heq; cases heq; done) | (cases h; done) | skip
  rename_i heq; cases heq
  simp only [Bool.and_eq_true] at h
  obtain ⟨⟨⟨⟨⟨⟨⟨⟨h1, h2⟩, h2b⟩, h2c⟩, h3⟩, h4⟩, h5⟩, h6⟩, h7⟩ := h
  have h4 := List.all_eq_true.mp h4
  obtain ⟨tX, ex⟩ := ex_simple g h2 h2c
  exact pe3 (pe_lcDA g h1 h3 (fun j hj => of_decide_eq_true (h4 j hj)) h7 ex (fun X' g' e1 e2 => ihc.c g' (by rw [e1, e2]; exact h5)) fun X' g' e1 e2 => PE.imp (ihe.e g' (by rw [e1, e2]; exact h6)).1 fun σ H Q q => te_kn q)
theorem main_all2 : ∀ (t : Tm) (L : Lg), Main L t ∧ Parts L t := by
  intro t
  induction t with
  | cns c => intro L; exact ⟨main_cns c, trivial⟩
  | loc i => intro L; exact ⟨main_loc i, trivial⟩
  | gk x => intro L; exact ⟨main_gk x, trivial⟩
  | nil => intro L; exact ⟨main_nil, trivial⟩
  | cons a b iha ihb => intro L; exact ⟨main_cons (iha L).1 (ihb L).1, (iha L).1, (ihb L).2⟩
  | bin o a b iha ihb => intro L; exact ⟨main_bin (iha L).1 (ihb L).1, trivial⟩
  | neg a iha => intro L; exact ⟨main_neg (iha L).1, trivial⟩
  | cmp o a b iha ihb => intro L; exact ⟨main_cmp (iha L).1 (ihb L).1, trivial⟩
  | isn ng a iha => intro L; exact ⟨main_isn (iha L).1, trivial⟩
  | isb ng k a iha => intro L; exact ⟨main_isb (iha L).1, trivial⟩
  | ch2 o1 o2 a b c iha ihb ihc => intro L; exact ⟨main_ch2 (iha L).1 (ihb L).1 (ihc L).1, trivial⟩
  | ch3 o1 o2 o3 a b c d iha ihb ihc ihd => intro L; exact ⟨main_ch3 (iha L).1 (ihb L).1 (ihc L).1 (ihd L).1, trivial⟩
  | and a b iha ihb => intro L; exact ⟨main_and (iha L).1 (ihb L).1, trivial⟩
  | or a b iha ihb => intro L; exact ⟨main_or (iha L).1 (ihb L).1, trivial⟩
  | not a iha => intro L; exact ⟨main_not (iha L).1, trivial⟩
  | ite c a b ihc iha ihb => intro L; exact ⟨main_ite (ihc L).1 (iha L).1 (ihb L).1, trivial⟩
  | tup es ih => intro L; exact ⟨main_tup (ih L).1, trivial⟩
  | lst es ih => intro L; exact ⟨main_lst (ih L).1, trivial⟩
  | sub a i iha ihi => intro L; exact ⟨main_sub (iha L).1 (ihi L).1, trivial⟩
  | slc a lo hi iha ihl ihh => intro L; exact ⟨main_slc (iha L).1 (ihl L).1 (ihh L).1, trivial⟩
  | rev a iha => intro L; exact ⟨main_rev (iha L).1, trivial⟩
  | call x es ih => intro L; exact ⟨main_call (ih L).1, trivial⟩
  | blt f es ih => intro L; exact ⟨main_blt (ih L).1 (ih L).2, trivial⟩
  | isi a ks iha => intro L; exact ⟨main_isi (iha L).1, trivial⟩
  | lc own elt tg it cond ihe ihi ihc => intro L; exact ⟨main_lc (ihe L.nl).1 (ihi L).1 (ihc L.nl).1, trivial⟩
  | told t ih => intro L; exact ⟨main_told (ih L.nl).1, trivial⟩
  | fld a x iha => intro L; exact ⟨main_fld (iha L).1, trivial⟩
  | meth a m x es iha ih => intro L; exact ⟨main_meth (iha L).1 (ih L).2, trivial⟩
  | callK f n ks pm es ih => intro L; exact ⟨main_callK (ih L).2, trivial⟩
  | methK a m f n ks pm es iha ih => intro L; exact ⟨main_methK (iha L).1 (ih L).2, trivial⟩
  | new => intro L; exact ⟨main_new, trivial⟩
  | dnew t => intro L; exact ⟨main_dnew, trivial⟩
  | disp ks vs ih => intro L; exact ⟨main_disp (ih L).2, trivial⟩
  | get2 a k d iha ihk ihd => intro L; exact ⟨main_get2 (iha L).1 (ihk L).1 (ihd L).1, trivial⟩
  | vals a iha => intro L; exact ⟨main_vals (iha L).1, trivial⟩
  | lcD own elt tg a cond ihe iha ihc => intro L; exact ⟨main_lcD (ihe L.nl).1 (ihc L.nl).1, trivial⟩
  | rng1 a iha => intro L; exact ⟨main_rng1 (iha L).1, trivial⟩
  | rng2 a b iha ihb => intro L; exact ⟨main_rng2 (iha L).1 (ihb L).1, trivial⟩
  | enm a iha => intro L; exact ⟨main_enm (iha L).1, trivial⟩
  | zp a b iha ihb => intro L; exact ⟨main_zp (iha L).1 (ihb L).1, trivial⟩
theorem main_all (t : Tm) : Main L t := (main_all2 t L).1
end
end Air
/-! Air: statements (1): what a block is, what a run of it says. -/
namespace Air
open PySem PySem.Spec PyProof.Rows L2
variable [Kf]
/-! ### a block is what written statements say -/
def notComp : Expr → Bool
  | .ListComp _ _ _ _ => false
  | .SetComp _ _ _ _ => false
  | .DictComp _ _ _ _ _ => false
  | _ => true
def notTup : Expr → Bool
  | .Tuple _ _ _ => false
  | _ => true
def fnKind (sc : Scope) : Bool := match sc.kind with
  | .function => true
  | _ => false
def nmB (fb : Str → Bool) (sc : Scope) (N : List Str) (i : Nat) (x : Str) : Bool := decide (N[i]? = some x) && stoB fb sc x
def swB (sc : Scope) (x : Str) (px : Pos) : Expr → Bool
  | .ListComp _ [_] scope pos => decide (sc.names.lookup x = some .local) && (px.line == pos.line) && !(scope.names.any fun (n, k) => n == x && (k == .local || k == .cell))
  | e => notComp e
def lcS (e : Expr) : Option Scope := match e with
  | .ListComp _ _ s _ => some s
  | _ => none
def vnB (sc : Scope) (N : List Str) (i : Nat) (x : Str) : Bool := decide (N[i]? = some x) && visB sc x && !(x == ("__debug__" : Str)) && !(x == ("__classdict__" : Str))
/-- a, b = x, y, stored from the right -/
def parB (sc : Scope) (N : List Str) : List (Nat × Bool) → List Expr → List Expr → Bool
  | [(i, _), (j, _)], [.Name x px, .Name y py], [a, b] => decide (N[i]? = some x) && decide (N[j]? = some y) && decide (i ≠ j) && decide (sc.names.lookup x = some .local) && decide (sc.names.lookup y = some .local) && (py.line == px.line) && !(x == y) && !(foldedForSure 8 a && foldedForSure 8 b) && !(constantsAlone 8 a && constantsAlone 8 b)
  | [(i, _), (j, _), (k, _)], [.Name x px, .Name y py, .Name z pz], [a, b, c] => decide (N[i]? = some x) && decide (N[j]? = some y) && decide (N[k]? = some z) && decide (i ≠ j) && decide (i ≠ k) && decide (j ≠ k) && decide (sc.names.lookup x = some .local) && decide (sc.names.lookup y = some .local) && decide (sc.names.lookup z = some .local) && (py.line == px.line) && (pz.line == px.line) && !(x == y) && !(x == z) && !(y == z) && !(foldedForSure 8 a && foldedForSure 8 b && foldedForSure 8 c) && !(constantsAlone 8 a && constantsAlone 8 b && constantsAlone 8 c)
  | _, _, _ => false
/-- a name that is no local one -/
def celT (sc : Scope) : Expr → Bool
  | .Name x _ => !(sc.names.lookup x == some .local)
  | _ => true
/-- .. or by a tuple -/
def parT (fb : Str → Bool) (sc : Scope) (N : List Str) (tg : List (Nat × Bool)) (ts vs : List Expr) : Bool :=
  tgB fb sc N (.tp (tg.map (·.1))) (.Tuple ts 0 ⟨0, 0, 0, 0⟩) && decide (ts.length < 100) && (decide (3 < ts.length) || (decide (vs.length = ts.length) && vs.all (foldedForSure 8)) || ts.any (celT sc)) && vs.all notStar
mutual
def chkS (kn : Str → Option (Nat × Nat)) (kw : Kwt) (fb : Str → Bool) : Sm → Scope → List Str → Stmt → Bool
  | .pass, _, _, .Pass _ => true
  | .pass, _, _, .Expr (.Constant (.str _) _ _) _ => true
  | .asg i e, sc, N, .Assign [.Name x px] v _ => nmB fb sc N i x && chk kn kw e sc N v && swB sc x px v && fnKind sc
  | .own i e, sc, N, .Assign [.Name x px] v _ => nmB fb sc N i x && chk kn kw e sc N v && swB sc x px v && fnKind sc
  | .par tg es, sc, N, .Assign [.Tuple ts _ _] (.Tuple vs _ _) _ => chkK kn kw es sc N vs && fnKind sc && (parB sc N tg ts vs || parT fb sc N tg ts vs)
  | .unp tg e, sc, N, .Assign [.Tuple ts k p] v _ => tgB fb sc N (.tp tg) (.Tuple ts k p) && chk kn kw e sc N v && notComp v && notTup v
  | .app i e, sc, N, .Expr (.Call (.Attribute (.Name x _) m apos) [a] [] cpos) _ => decide (m = "append") && vnB sc N i x && chk kn kw e sc N a && notStar a && (apos.endLine == cpos.line)
  | .rem i e, sc, N, .Expr (.Call (.Attribute (.Name x _) m apos) [a] [] cpos) _ => decide (m = "remove") && vnB sc N i x && chk kn kw e sc N a && notStar a && (apos.endLine == cpos.line)
  | .ext i e, sc, N, .Expr (.Call (.Attribute (.Name x _) m apos) [a] [] cpos) _ => decide (m = "extend") && vnB sc N i x && chk kn kw e sc N a && notStar a && (apos.endLine == cpos.line)
  | .expr e, sc, N, .Expr v _ => chk kn kw e sc N v && notComp v
  | .iff c a b, sc, N, .If t p q _ => chk kn kw c sc N t && chkB kn kw fb a sc N p && chkB kn kw fb b sc N q
  | .for tg it body, sc, N, .For t i p [] _ => chkI kn kw it sc N t i && tgB fb sc N tg t && notSet i && chkB kn kw fb body sc N p
  | .forR tg it c r, sc, N, .For t i [.If q [.Return (some v) _] [] _] [] _ => chkI kn kw it sc N t i && tgB fb sc N tg t && notSet i && chk kn kw c sc N q && chk kn kw (.cns r) sc N v
  | .whl _ c body, sc, N, .While t p [] _ => chk kn kw c sc N t && chkB kn kw fb body sc N p
  | .ret (.cns .non), _, _, .Return none _ => true
  | .ret e, sc, N, .Return (some v) _ => chk kn kw e sc N v
  | .retOwn i, sc, N, .Return (some (.Name x _)) _ => vnB sc N i x
  | .rais c, sc, _, .Raise (some (.Call (.Name x _) [.Constant (.str _) _ _] [] _)) none _ => decide (x = c) && glB sc x && decide (kn c = some (0, 3))
  | .fset i x e, sc, N, .Assign [.Attribute (.Name y _) f _] v _ => decide (f = x) && vnB sc N i y && decide (kn (fkey x) = some (0, 5)) && chk kn kw e sc N v
  | .fapp i x e, sc, N, .Expr (.Call (.Attribute (.Attribute (.Name y _) f _) m apos) [a] [] cpos) _ => decide (m = "append") && decide (f = x) && vnB sc N i y && decide (kn (fkey x) = some (0, 5)) && chk kn kw e sc N a && notStar a && (apos.endLine == cpos.line)
  | .fput i x k v, sc, N, .Assign [.Subscript (.Attribute (.Name y _) f _) z _] w _ => decide (f = x) && vnB sc N i y && decide (kn (fkey x) = some (0, 5)) && chk kn kw k sc N z && chk kn kw v sc N w && notSlc z
  | .put i k v, sc, N, .Assign [.Subscript (.Name y _) z _] w _ => vnB sc N i y && chk kn kw k sc N z && chk kn kw v sc N w && notSlc z
  | .forD tg a body, sc, N, .For t i p [] _ => chk kn kw a sc N i && dpB i && dtB a && tgB fb sc N tg t && notSet i && chkB kn kw fb body sc N p
  | .getOr (.fld (.loc i) f) (.loc j) c, sc, N, .Try [.Return (some (.Subscript (.Attribute (.Name y _) f2 _) (.Name z _) _)) _] [.ExceptHandler (some (.Name x _)) none [.Raise (some (.Call (.Name c2 _) [.Constant (.str _) _ _] [] _)) (some (.Constant .none _ _)) _] _] [] [] _ => decide (f2 = f) && vnB sc N i y && decide (kn (fkey f) = some (0, 5)) && vnB sc N j z && decide (x = "KeyError") && glB sc x && decide (c2 = c) && glB sc c2 && decide (kn c = some (0, 3))
  | .bk, _, _, .Break _ => true
  | .ct, _, _, .Continue _ => true
  | _, _, _, _ => false
def chkB (kn : Str → Option (Nat × Nat)) (kw : Kwt) (fb : Str → Bool) : Sm → Scope → List Str → List Stmt → Bool
  | .nil, _, _, [] => true
  | .cons (.frz _) r, sc, N, sts => chkB kn kw fb r sc N sts
  | .cons s r, sc, N, st :: sts => chkS kn kw fb s sc N st && chkB kn kw fb r sc N sts
  | _, _, _, _ => false
end
/-! ### in ro mode the table stays -/
def Xr.keeps (r : Xr) (I : Is) : Prop := match r with
  | .nx _ I' => I' = I
  | .bk _ I' => I' = I
  | .ct _ I' => I' = I
  | .rt _ I' => I' = I
  | .exc _ _ I' => I' = I
  | .bad => True
section
variable {cn : Str → Option D} {cf : Str → Bool → List D → Is → R Sl}
theorem keeps_stm {α : Type} {r : R α} {fr : Fr} {f : α → Is → Xr} {I : Is} (h : r.keeps I) (hf : ∀ a, (f a I).keeps I) : (r.stm fr f).keeps I := by
  cases r with
  | ok a I' => obtain rfl : I' = I := h; exact hf a
  | exc x I' => exact h
  | bad => trivial
theorem keeps_condX {b : Bool} {x y : Xr} {I : Is} (hx : x.keeps I) (hy : y.keeps I) : (bif b then x else y).keeps I := by cases b <;> assumption
theorem keeps_forL {body : Fr → Is → Xr} {tg : Tg} {I : Is} (h : ∀ fr, (body fr I).keeps I) : ∀ xs fr, (forL body tg xs fr I).keeps I
  | [], fr => rfl
  | x :: xs, fr => by
    unfold forL
    split
    · trivial
    · rename_i fr' _
      have hb := h fr'
      split
      · rename_i e; rw [e] at hb; obtain rfl := hb; exact keeps_forL h xs _
      · rename_i e; rw [e] at hb; obtain rfl := hb; exact keeps_forL h xs _
      · rename_i e; rw [e] at hb; exact hb
      · exact hb
theorem keeps_frL {test : Fr → Is → R Bool} {r : D} {tg : Tg} {I : Is} (ht : ∀ fr, (test fr I).keeps I) : ∀ xs fr, (frL test r tg xs fr I).keeps I
  | [], fr => rfl
  | x :: xs, fr => by
    unfold frL
    split
    · trivial
    · exact keeps_stm (ht _) fun t => keeps_condX rfl (keeps_frL ht xs _)
theorem keeps_whlL {test : Fr → Is → R Bool} {body : Fr → Is → Xr} {I : Is} (ht : ∀ fr, (test fr I).keeps I) (h : ∀ fr, (body fr I).keeps I) : ∀ n fr, (whlL test body n fr I).keeps I
  | 0, fr => trivial
  | n + 1, fr => by
    unfold whlL
    refine keeps_stm (ht fr) fun t => keeps_condX ?_ rfl
    have hb := h fr
    split
    · rename_i e; rw [e] at hb; obtain rfl := hb; exact keeps_whlL ht h n _
    · rename_i e; rw [e] at hb; obtain rfl := hb; exact keeps_whlL ht h n _
    · rename_i e; rw [e] at hb; exact hb
    · exact hb
theorem keeps_tst {r : R (D × Kd)} {I : Is} (h : r.keeps I) : (r.tst fun t I => .ok t I).keeps I := keeps_bind h fun p => by split <;> first | trivial | rfl
theorem keeps_forDq {r : Xr} {I : Is} (h : r.keeps I) : (forDq r).keeps I := by
  cases r <;> first | exact h | trivial
theorem exec_keeps : ∀ (s : Sm) fr I, (exec cn cf s true fr I).keeps I := by
  intro s
  induction s with
  | nil => intro fr I; rfl
  | cons s r ihs ihr =>
    intro fr I
    simp only [exec]
    have h := ihs fr I
    cases e : exec cn cf s true fr I with
    | nx fr' I' => rw [e] at h; obtain rfl : I' = I := h; exact ihr _ _
    | _ => rw [e] at h; exact h
  | pass => intro fr I; rfl
  | asg i e => intro fr I; simp only [exec]; exact keeps_stm ((ev_keeps e).1 _ _) fun p => by split <;> first | trivial | rfl
  | own i e => intro fr I; simp only [exec]; exact keeps_stm ((ev_keeps e).1 _ _) fun p => by split <;> first | trivial | rfl
  | par tg es => intro fr I; simp only [exec]; exact keeps_stm ((ev_keeps es).2.1 _ _) fun p => by split <;> first | trivial | rfl
  | unp tg e => intro fr I; simp only [exec]; exact keeps_stm ((ev_keeps e).1 _ _) fun p => by (split <;> first | trivial | (split <;> first | trivial | rfl))
  | app i e => intro fr I; simp only [exec]; split <;> first | trivial | exact keeps_stm ((ev_keeps e).1 _ _) fun p => by (split <;> first | trivial | exact keeps_condX rfl trivial)
  | ext i e => intro fr I; simp only [exec]; split <;> first | trivial | exact keeps_stm ((ev_keeps e).1 _ _) fun p => by (split <;> first | trivial | exact keeps_condX rfl trivial)
  | rem i e => intro fr I; simp only [exec]; split <;> first | trivial | exact keeps_stm ((ev_keeps e).1 _ _) fun p => by (split <;> first | trivial | exact keeps_condX rfl trivial)
  | expr e => intro fr I; simp only [exec]; exact keeps_stm ((ev_keeps e).1 _ _) fun p => rfl
  | iff c a b iha ihb => intro fr I; simp only [exec]; exact keeps_stm (keeps_tst ((ev_keeps c).1 _ _)) fun t => keeps_condX (iha _ _) (ihb _ _)
  | «for» tg it body ih => intro fr I; simp only [exec, Bool.true_or]; exact keeps_stm ((ev_keeps it).2.2.2.2 _ _) fun p => keeps_condX trivial (keeps_forL (fun fr => ih _ _) _ _)
  | forR tg it c r => intro fr I; simp only [exec, Bool.true_or]; exact keeps_stm ((ev_keeps it).2.2.2.2 _ _) fun p => keeps_frL (fun fr => keeps_tst ((ev_keeps c).1 _ _)) _ _
  | whl n c body ih => intro fr I; simp only [exec]; exact keeps_whlL (fun fr => keeps_tst ((ev_keeps c).1 _ _)) (fun fr => ih _ _) _ _
  | ret e => intro fr I; simp only [exec]; exact keeps_stm ((ev_keeps e).1 _ _) fun p => by split <;> first | trivial | rfl
  | retOwn i => intro fr I; simp only [exec]; split <;> first | trivial | (split <;> first | trivial | rfl)
  | rais c => intro fr I; rfl
  | fset i x e => intro fr I; simp only [exec, cond_true]; trivial
  | fapp i x e => intro fr I; simp only [exec, cond_true]; trivial
  | fput i x k v => intro fr I; simp only [exec, cond_true]; trivial
  | put i k v => intro fr I; simp only [exec]; exact keeps_stm ((ev_keeps v).1 _ _) fun p => by (split <;> first | trivial | exact keeps_condX (keeps_stm ((ev_keeps k).1 _ _) fun q => by (split <;> first | trivial | rfl)) trivial)
  | put2 i k a k2 v =>
    intro fr I
    simp only [exec]
    refine keeps_stm ((ev_keeps (.blt .dict (.cons a .nil))).1 _ _) fun p => ?_
    split
    · refine keeps_condX (keeps_stm ((ev_keeps k).1 _ _) fun q => keeps_stm ((ev_keeps v).1 _ _) fun w => ?_) trivial
      split
      · refine keeps_stm ((ev_keeps k2).1 _ _) fun r => ?_
        split
        · split
          · split <;> first | trivial | rfl
          · trivial
        · trivial
      · trivial
    · trivial
  | getOr a k c => intro fr I; simp only [exec, Bool.true_or]; exact keeps_stm ((ev_keeps a).1 _ _) fun p => keeps_stm ((ev_keeps k).1 _ _) fun q => by (split <;> first | trivial | rfl)
  | raisF c fs pm es => intro fr I; simp only [exec]; exact keeps_stm ((ev_keeps es).2.1 _ _) fun p => by (split <;> first | trivial | (split <;> first | trivial | exact keeps_condX rfl trivial))
  | forD tg a body ih => intro fr I; simp only [exec, Bool.true_or]; exact keeps_stm ((ev_keeps a).1 _ _) fun p => by (split <;> first | trivial | exact keeps_condX trivial (keeps_forDq (keeps_forL (fun fr => ih _ _) _ _)))
  | bk => intro fr I; rfl
  | ct => intro fr I; rfl
  | frz i => intro fr I; simp only [exec]; split <;> first | rfl | (split <;> rfl)
end
/-! ### what a run of a block says -/
def RtR (G : Gh) (H : Hp) (G' : Gh) (H' : Hp) (s : Sl) (v : V) : Prop := match s with
  | .no => False
  | .val d => RV G'.F G'.M v d
  | s => ∃ a, v = .ref a ∧ SlAt false G'.F G'.M H' a s ∧ G'.F a = none ∧ a ∉ G'.aI ∧ (a ∈ G.aF ∨ H a = none)
def XRel (L : Lg) (W : WX) (ro : Bool) (G : Gh) (H : Hp) (D : Ends) (r : Xr) : Prop := match r with
  | .nx fr' I' => ∀ σ' G' H', ExtS ro G H G' H' → Sx L.c ro G' fr' I' σ' H' → D.nx σ' H'
  | .bk fr' I' => ∀ σ' G' H', ExtS ro G H G' H' → Sx L.c ro G' fr' I' σ' H' → D.bk σ' H'
  | .ct fr' I' => ∀ σ' G' H', ExtS ro G H G' H' → Sx L.c ro G' fr' I' σ' H' → D.ct σ' H'
  | .rt s I' => ∀ v fr' σ' G' H', ExtS ro G H G' H' → Sx L.c ro G' fr' I' σ' H' → RtR G H G' H' s v → D.rt v H'
  | .exc x fr' I' => ∀ cls d σ' G' H', ExtS ro G H G' H' → Sx L.c ro G' fr' I' σ' H' → XR L G' H' x cls d → W cls d σ' H'
  | .bad => False
def tS (L : Lg) (W : WX) (s : Sm) : TS := fun D σ H => ∃ ro G fr I, Sx L.c ro G fr I σ H ∧ XRel L W ro G H D (exec L.cn L.cf s ro fr I)
section
variable {L : Lg} {W : WX} {X : Cx} {ro ro' : Bool} {G G1 G2 : Gh} {H H1 H2 : Hp} {σ σ1 : St} {fr fr1 : Fr} {I I1 : Is} {E E' : Ends}
theorem SlV.notOwn {F : Hp} {M : List (Addr × Addr)} {ov : Option V} {s : Sl} {as : List Addr} (h : SlV false F M H ov s as) : ∀ a ∈ as, ∀ p, H a ≠ some (.own p) := by
  cases s with
  | no => have e : as = [] := h; subst e; simp
  | val d => obtain ⟨rfl, _⟩ := h; simp
  | lst xs =>
    obtain ⟨a, rfl, _, vs, e, _⟩ := h
    intro b hb p z
    rw [List.mem_singleton.mp hb, e] at z; cases z
  | dK ks xs =>
    obtain ⟨a, rfl, _, vs, e | ⟨q, _⟩, _⟩ := h
    · intro b hb p z
      rw [List.mem_singleton.mp hb, e] at z; cases z
    · cases q
  | dT ks xs =>
    obtain ⟨a, rfl, _, vs, e | ⟨q, _⟩, _⟩ := h
    · intro b hb p z
      rw [List.mem_singleton.mp hb, e] at z; cases z
    · cases q
theorem FrR.notOwn {F : Hp} {M : List (Addr × Addr)} {as : List Addr} (h : FrR F M H σ fr as) : ∀ a ∈ as, ∀ p, H a ≠ some (.own p) := by
  induction h with
  | nil => simp
  | cons hs _ ih => intro a ha; exact (List.mem_append.mp ha).elim (hs.notOwn a) (ih a)
theorem RtR.on {s : Sl} {v : V} (x : ExtS ro G H G1 H1) (h : RtR G1 H1 G2 H2 s v) : RtR G H G2 H2 s v := by
  have c : ∀ a : Addr, (a ∈ G1.aF ∨ H1 a = none) → a ∈ G.aF ∨ H a = none := fun a z => z.elim (x.aF a) fun z => .inr (x.dom a z)
  cases s with
  | no => exact h
  | val d => exact h
  | _ => obtain ⟨a, h1, h2, h3, h4, h5⟩ := h; exact ⟨a, h1, h2, h3, h4, c a h5⟩
theorem XRel.on {r : Xr} (x : ExtS ro G H G1 H1) (h : XRel L W ro G H E r) : XRel L W ro G1 H1 E r := by
  cases r with
  | nx fr' I' => exact fun σ' G' H' y S => h σ' G' H' (x.trans y) S
  | bk fr' I' => exact fun σ' G' H' y S => h σ' G' H' (x.trans y) S
  | ct fr' I' => exact fun σ' G' H' y S => h σ' G' H' (x.trans y) S
  | rt s I' => exact fun v fr' σ' G' H' y S q => h v fr' σ' G' H' (x.trans y) S (q.on x)
  | exc e fr' I' => exact fun cls d σ' G' H' y S q => h cls d σ' G' H' (x.trans y) S q
  | bad => exact h
theorem ExtS.weak (a : ExtS true G H G1 H1) (ro : Bool) : ExtS ro G H G1 H1 := ⟨fun x o e _ h t => a.keep x o e (.inl rfl) h t, a.dom, a.tp, a.F, a.Fn, a.aF, a.aI, a.M, fun _ => a.ro rfl⟩
theorem Sx.strongS (S1 : Sx L.c ro G1 fr I1 σ H1) (x : ExtS true G1 H1 G2 H2) (S : Sx L.c true G2 fr1 I1 σ1 H2) : Sx L.c ro G2 fr1 I1 σ1 H2 := by
  cases ro with
  | true => exact S
  | false =>
    obtain ⟨e1, e2⟩ := x.ro rfl
    have ni : ∀ a ∈ G1.aI, a ∉ G1.aF := fun a h1 h2 => (List.nodup_append.mp S1.nd).2.2 a h2 a h1 rfl
    refine ⟨S.fr, ?_, S.nd, S.sep, S.sub, S.fine, S.tb⟩
    rw [e1]
    have q := S1.is.mono x.F x.M (fun a ha o e t => x.keep a o e (.inl rfl) (ni a ha) t) fun a p e => by
      by_cases h : a ∈ G1.aF
      · exact absurd e (S1.fr.notOwn a h p)
      · exact x.keep a _ e (.inl rfl) h fun ps z => by cases z
    rw [e2] at q ⊢
    exact q
end
end Air
/-! Air: statements (2): names take values. -/
namespace Air
open PySem PySem.Spec PyProof.Rows L2
variable [Kf]
section
variable {L : Lg} {W : WX} {X : Cx} {ro ro' : Bool} {G G1 G2 : Gh} {H H1 H2 : Hp} {σ σ1 : St} {fr fr1 : Fr} {I I1 : Is} {E E' : Ends}
/-- a term, then more of the statement -/
theorem stm_te {t : Tm} {f : D × Kd → Is → Xr} (S : Sx L.c ro G fr I σ H) (h : XRel L W ro G H E ((ev L.cn L.cf t ro fr I).stm fr f)) : te L W t σ H (fun v H1 => ∃ p I1 G1, Ext ro G H G1 H1 ∧ Sx L.c ro G1 fr I1 σ H1 ∧ Rk L H G1 H1 p v ∧ XRel L W ro G H E (f p I1)) := by
  refine ⟨ro, G, fr, I, S, ?_⟩
  cases e : ev L.cn L.cf t ro fr I with
  | ok a I' =>
    rw [e] at h
    exact fun v G' H' x S' r => ⟨a, I', G', x, S', r, h⟩
  | exc x I' =>
    rw [e] at h
    exact fun cls d G' H' y S' q => h cls d σ G' H' y.s S' q
  | bad => rw [e] at h; exact h
theorem stm_ta {t : Tm} {f : List (D × Kd) → Is → Xr} (S : Sx L.c ro G fr I σ H) (h : XRel L W ro G H E ((evK L.cn L.cf t ro fr I).stm fr f)) : ta L W t σ H (fun vs H1 => ∃ ps I1 G1, Ext ro G H G1 H1 ∧ Sx L.c ro G1 fr I1 σ H1 ∧ (Rks L H G1 H1 ps vs ∧ (nwA ps vs).Nodup) ∧ XRel L W ro G H E (f ps I1)) := by
  refine ⟨ro, G, fr, I, S, ?_⟩
  cases e : evK L.cn L.cf t ro fr I with
  | ok a I' =>
    rw [e] at h
    exact fun v G' H' x S' r => ⟨a, I', G', x, S', r, h⟩
  | exc x I' =>
    rw [e] at h
    exact fun cls d G' H' y S' q => h cls d σ G' H' y.s S' q
  | bad => rw [e] at h; exact h
theorem stm_tt {t : Tm} {f : Bool → Is → Xr} (S : Sx L.c ro G fr I σ H) (h : XRel L W ro G H E (((ev L.cn L.cf t ro fr I).tst fun t I => .ok t I).stm fr f)) : tt L W t σ H (fun b H1 => ∃ I1 G1, Ext ro G H G1 H1 ∧ Sx L.c ro G1 fr I1 σ H1 ∧ XRel L W ro G H E (f b I1)) := by
  refine ⟨ro, G, fr, I, S, ?_⟩
  cases e : (ev L.cn L.cf t ro fr I).tst fun b I => .ok b I with
  | ok a I' =>
    rw [e] at h
    intro v G' H' x S' r
    obtain rfl : v = a := r
    exact ⟨I', G', x, S', h⟩
  | exc x I' =>
    rw [e] at h
    exact fun cls d G' H' y S' q => h cls d σ G' H' y.s S' q
  | bad => rw [e] at h; exact h
theorem stm_ti {t : Tm} {f : List D × Kd → Is → Xr} (S : Sx L.c ro G fr I σ H) (h : XRel L W ro G H E ((evI L.cn L.cf t ro fr I).stm fr f)) : ti L W t σ H (fun J H1 => ∃ p I1 G1, Ext ro G H G1 H1 ∧ Sx L.c ro G1 fr I1 σ H1 ∧ WkR G1 H1 p J ∧ XRel L W ro G H E (f p I1) ∧ (∀ I', (evI L.cn L.cf t ro fr I) = .ok p I' → I' = I1)) := by
  refine ⟨ro, G, fr, I, S, ?_⟩
  cases e : evI L.cn L.cf t ro fr I with
  | ok a I' =>
    rw [e] at h
    exact fun v G' H' x S' r => ⟨a, I', G', x, S', r, h, fun I2 z => by cases z; rfl⟩
  | exc x I' =>
    rw [e] at h
    exact fun cls d G' H' y S' q => h cls d σ G' H' y.s S' q
  | bad => rw [e] at h; exact h
/-! ### a name takes a container -/
theorem SlV.of {F : Hp} {M : List (Addr × Addr)} {a : Addr} {s : Sl} {d : D} (e : Sl.inn d = some s) (h : SlAt false F M H a s) : SlV false F M H (some (.ref a)) s [a] := by
  cases d <;> simp only [Sl.inn, reduceCtorEq, Option.some.injEq] at e <;> subst e <;> exact ⟨a, rfl, rfl, h⟩
theorem FrR.putC {F : Hp} {M : List (Addr × Addr)} {as : List Addr} (h : FrR F M H σ fr as) (i : Nat) {a : Addr} {s : Sl} {d : D} (e : Sl.inn d = some s) (r : SlAt false F M H a s) : ∃ bs cs, FrR F M H (σ.set i (some (.ref a))) (fr.set i s) bs ∧ cs.Sublist as ∧ (bs = cs ∨ bs.Perm (a :: cs)) := by
  induction h generalizing i with
  | nil => exact ⟨[], [], .nil, .refl _, .inl rfl⟩
  | cons h0 h1 ih =>
    rename_i as1 bs1 σ1 fr1
    cases i with
    | zero => exact ⟨[a] ++ bs1, bs1, .cons (.of e r) h1, List.sublist_append_right _ _, .inr (.refl _)⟩
    | succ i =>
      obtain ⟨bs, cs, h2, h3, h4⟩ := ih i
      refine ⟨as1 ++ bs, as1 ++ cs, .cons h0 h2, (List.Sublist.refl _).append h3, ?_⟩
      rcases h4 with rfl | h4
      · exact .inl rfl
      · exact .inr ((h4.append_left as1).trans List.perm_middle)
theorem Sx.frameC {σ' : St} {fr' : Fr} {bs cs : List Addr} {a : Addr} (S : Sx L.c ro G fr I σ H) (h : FrR G.F G.M H σ' fr' bs) (hs : cs.Sublist G.aF) (hp : bs = cs ∨ bs.Perm (a :: cs)) (h1 : G.F a = none) (h2 : a ∉ G.aF) (h3 : a ∉ G.aI) : Sx L.c ro { G with aF := bs } fr' I σ' H := by
  rcases hp with rfl | hp
  · exact S.frame h hs
  · have nd := S.nd.sublist (hs.append (.refl _))
    refine ⟨h, S.is, ?_, fun b hb => ?_, S.sub, S.fine, S.tb⟩
    · have : (bs ++ G.aI).Perm (a :: (cs ++ G.aI)) := hp.append_right _
      refine this.nodup_iff.mpr (List.nodup_cons.mpr ⟨fun z => ?_, nd⟩)
      rcases List.mem_append.mp z with z | z
      · exact h2 (hs.subset z)
      · exact h3 z
    · rcases List.mem_append.mp hb with z | z
      · rcases List.mem_cons.mp (hp.mem_iff.mp z) with rfl | z
        · exact h1
        · exact S.sep b (List.mem_append_left _ (hs.subset z))
      · exact S.sep b (List.mem_append_right _ z)
theorem ExtS.frame {bs : List Addr} (x : ExtS ro G H G1 H1) (h : ∀ a ∈ bs, a ∈ G.aF ∨ H a = none) : ExtS ro G H { G1 with aF := bs } H1 := ⟨x.keep, x.dom, x.tp, x.F, x.Fn, h, x.aI, x.M, x.ro⟩
theorem ExtS.put {a : Addr} {u : HO} (x : ExtS ro G H G1 H1) (h0 : H a = none ∨ a ∈ G.aF) (h4 : G1.F a = none) : ExtS ro G H (G1.put a u) H1 :=
  x.putO (h0.imp .inl id) h4
/-- a name takes a value that stands still -/
theorem set_val {i : Nat} {d : D} {v : V} (x : ExtS ro G H G1 H1) (S1 : Sx L.c ro G1 fr I1 σ H1) (r : RV G1.F G1.M v d) : ∃ G2, ExtS ro G H G2 H1 ∧ Sx L.c ro G2 (fr.set i (.val d)) I1 (σ.set i (some v)) H1 := by
  obtain ⟨bs, h1, h2⟩ := S1.fr.put i r
  exact ⟨{ G1 with aF := bs }, x.frame fun a ha => x.aF a (h2.subset ha), S1.frame h1 h2⟩
theorem frzS_one {p : D × Kd} {v : V} (x : ExtS ro G H G1 H1) (S : Sx L.c ro G1 fr I1 σ H1) (h : RkW H G1 H1 p v) : ∃ G2, Grow G1 G2 ∧ ExtS ro G H G2 H1 ∧ Sx L.c ro G2 fr I1 σ H1 ∧ RV G2.F G2.M v p.1 := by
  rcases h with ⟨_, h⟩ | ⟨_, a, s, rfl, e, h, h0, h2, h3⟩
  · exact ⟨G1, .refl, x, S, h⟩
  · obtain ⟨u, ha, fu, us, rr⟩ := inn_thing (lk := false) e h
    cases q : G1.F a with
    | some w =>
      have := us w (S.sub a w q)
      subst this
      exact ⟨G1, .refl, x, S, rr _ (fun _ _ e => e) q⟩
    | none => exact ⟨G1.put a u, ⟨put_mono q, rfl, rfl, rfl⟩, x.put (.inl h0) q, S.freeze fu (.inl ha) h2 h3 q, rr _ (put_mono q) upd_same⟩
/-! ### several names, one behind another -/
/-- what waits to be stored -/
inductive Wt (H0 : Hp) (G : Gh) (H : Hp) : List (D × Kd) → List V → Prop
  | nil : Wt H0 G H [] []
  | fro {p : D × Kd} {v : V} {ps : List (D × Kd)} {vs : List V} : p.2 = .fro → RV G.F G.M v p.1 → Wt H0 G H ps vs → Wt H0 G H (p :: ps) (v :: vs)
  | new {p : D × Kd} {a : Addr} {s : Sl} {ps : List (D × Kd)} {vs : List V} : p.2 = .new → Sl.inn p.1 = some s → SlAt false G.F G.M H a s → H0 a = none → G.F a = none → a ∉ G.aF → a ∉ G.aI → a ∉ nwA ps vs → Wt H0 G H ps vs → Wt H0 G H (p :: ps) (.ref a :: vs)
theorem Wt.of {H0 : Hp} : ∀ {tg : List (Nat × Bool)} {ps : List (D × Kd)} {vs : List V} {fr fr' : Fr}, Rks L H0 G H ps vs → (nwA ps vs).Nodup → stoAll tg ps fr = some fr' → Wt H0 G H ps vs
  | _, _, _, _, _, .nil, _, _ => .nil
  | [], _, _, _, _, .cons r rs, _, e => by simp [stoAll] at e
  | t :: ts, p :: ps, v :: vs, fr, fr', .cons r rs, n, e => by
    unfold stoAll at e
    cases e1 : stoK t.2 p with
    | none => rw [e1] at e; cases e
    | some s =>
      rw [e1] at e
      have n2 : (nwA ps vs).Nodup := (List.nodup_append.mp n).2.1
      cases r with
      | fro h => exact .fro rfl h (Wt.of rs n2 e)
      | own e2 h m => cases e1
      | inst e2 h m => cases e1
      | cst => cases e1
      | new e2 h h0 h1 h2 h3 =>
        refine .new rfl e2 h h0 h1 h2 h3 (fun z => ?_) (Wt.of rs n2 e)
        exact (List.nodup_append.mp n).2.2 _ (List.mem_singleton.mpr rfl) _ z rfl
theorem Wt.mem {H0 : Hp} {a : Addr} : ∀ {ps : List (D × Kd)} {vs : List V}, Wt H0 G H ps vs → (∀ p ∈ ps, True) → True := fun _ _ => trivial
theorem Wt.step {H0 : Hp} {a : Addr} {ps : List (D × Kd)} {vs : List V} (w : Wt H0 G H ps vs) (hF : ∀ b u, G.F b = some u → G1.F b = some u) (hM : G1.M = G.M) (hF2 : ∀ b, b ≠ a → G.F b = none → G1.F b = none) (hA : ∀ b ∈ G1.aF, b ∈ G.aF ∨ b = a) (hI : G1.aI = G.aI) (ha : a ∉ nwA ps vs) : Wt H0 G1 H ps vs := by
  have hM' : G.M <+: G1.M := hM ▸ List.prefix_refl _
  induction w with
  | nil => exact .nil
  | fro h r w ih =>
    rename_i p v ps vs
    exact .fro h (r.mono hF hM') (ih fun z => ha (List.mem_append_right _ z))
  | new h e r h0 h1 h2 h3 h4 w ih =>
    rename_i p b s ps vs
    have hb : b ≠ a := fun z => ha (by
      subst z
      refine List.mem_append_left _ ?_
      rw [h]; exact List.mem_singleton.mpr rfl)
    exact .new h e (r.mono hF hM' fun _ e _ => e) h0 (hF2 b hb h1) (fun z => (hA b z).elim h2 hb) (hI ▸ h3) h4 (ih fun z => ha (List.mem_append_right _ z))
theorem sto_all : ∀ {tg : List (Nat × Bool)} {ps : List (D × Kd)} {vs : List V} {fr fr' : Fr} {σ : St} {G1 : Gh}, ExtS ro G H G1 H1 → Sx L.c ro G1 fr I1 σ H1 → Wt H G1 H1 ps vs → stoAll tg ps fr = some fr' →
    ∃ G2, ExtS ro G H G2 H1 ∧ Sx L.c ro G2 fr' I1 ((tg.zip vs).foldl (fun σ q => σ.set q.1.1 (some q.2)) σ) H1 ∧ vs.length = tg.length
  | [], _, _, fr, fr', σ, G1, x, S, .nil, e => by cases e; exact ⟨G1, x, S, rfl⟩
  | _ :: _, _, _, fr, fr', σ, G1, x, S, .nil, e => by cases e
  | [], _, _, fr, fr', σ, G1, x, S, .fro _ _ _, e => by cases e
  | [], _, _, fr, fr', σ, G1, x, S, .new _ _ _ _ _ _ _ _ _, e => by cases e
  | t :: ts, p :: ps, v :: vs, fr, fr', σ, G1, x, S, .fro h r w, e => by
    obtain ⟨d, k⟩ := p
    obtain rfl : k = .fro := h
    unfold stoAll at e
    obtain ⟨bs, h1, h2⟩ := S.fr.put t.1 r
    have x2 := x.frame (bs := bs) fun a ha => x.aF a (h2.subset ha)
    have S2 := S.frame h1 h2
    have w2 : Wt H { G1 with aF := bs } H1 ps vs := by
      clear e
      have hA : ∀ b ∈ bs, b ∈ G1.aF := fun b hb => h2.subset hb
      induction w with
      | nil => exact .nil
      | fro h r w ih => exact .fro h r ih
      | new h e r h0 h1 h2 h3 h4 w ih => exact .new h e r h0 h1 (fun z => h2 (hA _ z)) h3 h4 ih
    obtain ⟨G3, x3, S3, l3⟩ := sto_all x2 S2 w2 e
    exact ⟨G3, x3, S3, by simp [l3]⟩
  | t :: ts, p :: ps, _ :: vs, fr, fr', σ, G1, x, S, .new (a := a) (s := s) h ei r h0 h1 h2 h3 h4 w, e => by
    obtain ⟨d, k⟩ := p
    obtain rfl : k = .new := h
    obtain ⟨i, own⟩ := t
    unfold stoAll at e
    cases own with
    | true =>
      have e1 : stoK true (d, .new) = some s := ei
      rw [e1] at e
      obtain ⟨bs, cs, g1, g2, g3⟩ := S.fr.putC i ei r
      have mem : ∀ b ∈ bs, b ∈ G1.aF ∨ b = a := fun b hb => by
        rcases g3 with rfl | g3
        · exact .inl (g2.subset hb)
        · rcases List.mem_cons.mp (g3.mem_iff.mp hb) with z | z
          · exact .inr z
          · exact .inl (g2.subset z)
      have x2 := x.frame (bs := bs) fun b hb => (mem b hb).elim (x.aF b) fun z => .inr (z ▸ h0)
      have S2 := S.frameC g1 g2 g3 h1 h2 h3
      obtain ⟨G3, x3, S3, l3⟩ := sto_all x2 S2 (w.step (G1 := { G1 with aF := bs }) (a := a) (fun _ _ e => e) rfl (fun _ _ e => e) mem rfl h4) e
      exact ⟨G3, x3, S3, by simp [l3]⟩
    | false =>
      have e1 : stoK false (d, .new) = some (.val d) := rfl
      rw [e1] at e
      obtain ⟨u, hu, fu, us, rr⟩ := inn_thing (lk := false) ei r
      have S2 := S.freeze fu (.inl hu) h2 h3 h1
      have x2 := x.put (u := u) (.inl h0) h1
      have rv : RV (G1.put a u).F (G1.put a u).M (.ref a) d := rr _ (put_mono h1) upd_same
      obtain ⟨bs, g1, g2⟩ := S2.fr.put i rv
      have x3 := x2.frame (bs := bs) fun b hb => x.aF b (g2.subset hb)
      have S3 := S2.frame g1 g2
      obtain ⟨G3, x4, S4, l4⟩ := sto_all x3 S3 (w.step (G1 := { G1.put a u with aF := bs }) (a := a) (put_mono h1) rfl (fun b hb z => by
        show upd G1.F a u b = none
        rw [upd_ne hb]; exact z) (fun b hb => .inl (g2.subset hb)) rfl h4) e
      exact ⟨G3, x4, S4, by simp [l4]⟩
/-- a name's own container stands still from now on -/
theorem FrR.rm {F : Hp} {M : List (Addr × Addr)} {as : List Addr} (h : FrR F M H σ fr as) (nd : as.Nodup) : ∀ {i : Nat} {s : Sl} {d : D}, fr[i]? = some s → Sl.inn d = some s → ∃ a bs, σ[i]? = some (some (.ref a)) ∧ SlAt false F M H a s ∧ a ∈ as ∧ a ∉ bs ∧ bs.Sublist as ∧
    ∀ F' : Hp, (∀ b u, F b = some u → F' b = some u) → RV F' M (.ref a) d → FrR F' M H σ (fr.set i (.val d)) bs := by
  induction h with
  | nil => intro i s d e; simp at e
  | cons h0 h1 ih =>
    rename_i ov s0 as1 bs1 σ1 fr1
    intro i s d e ei
    have nd1 := (List.nodup_append.mp nd)
    cases i with
    | zero =>
      simp only [List.getElem?_cons_zero, Option.some.injEq] at e
      subst e
      have h0' : ∃ a, as1 = [a] ∧ ov = some (.ref a) ∧ SlAt false F M H a s0 := by
        cases d <;> simp only [Sl.inn, reduceCtorEq, Option.some.injEq] at ei <;> subst ei <;> exact h0
      obtain ⟨a, rfl, rfl, r⟩ := h0'
      refine ⟨a, bs1, rfl, r, by simp, fun z => nd1.2.2 a (by simp) a z rfl, List.sublist_append_right _ _, fun F' hF rv => ?_⟩
      have h1' := h1.mono hF (List.prefix_refl M) (H' := H) fun _ _ _ e _ => e
      exact .cons (as := []) ⟨rfl, _, rfl, rv⟩ h1'
    | succ i =>
      obtain ⟨a, bs, g1, g2, g3, g4, g5, g6⟩ := ih nd1.2.1 (i := i) (by simpa using e) ei
      refine ⟨a, as1 ++ bs, by simpa using g1, g2, List.mem_append_right _ g3, fun z => ?_, (List.Sublist.refl _).append g5, fun F' hF rv => ?_⟩
      · rcases List.mem_append.mp z with z | z
        · exact nd1.2.2 a z a g3 rfl
        · exact g4 z
      · exact .cons (h0.mono hF (List.prefix_refl M) fun _ _ _ e _ => e) (g6 F' hF rv)
theorem frzS_inn {s : Sl} {d : D} (h : frzS s = some d) : s = .val d ∨ Sl.inn d = some s := by
  cases s <;> simp only [frzS, reduceCtorEq, Option.some.injEq] at h <;> subst h
  · exact .inl rfl
  · exact .inr rfl
  · exact .inr rfl
  · exact .inr rfl
theorem frz_slot {i : Nat} {s : Sl} {d : D} (S : Sx L.c ro G fr I σ H) (e : fr[i]? = some s) (ei : Sl.inn d = some s) : ∃ G1, ExtS ro G H G1 H ∧ Sx L.c ro G1 (fr.set i (.val d)) I σ H := by
  have ndF := (List.nodup_append.mp S.nd).1
  obtain ⟨a, bs, g1, g2, g3, g4, g5, g6⟩ := S.fr.rm ndF e ei
  obtain ⟨u, hu, fu, us, rr⟩ := inn_thing (lk := false) ei g2
  have h1 := S.sep a (List.mem_append_left _ g3)
  have h3 : a ∉ G.aI := fun z => (List.nodup_append.mp S.nd).2.2 a g3 a z rfl
  have rv : RV (upd G.F a u) G.M (.ref a) d := rr _ (put_mono (G := G) h1) upd_same
  have hfr := g6 (upd G.F a u) (put_mono (G := G) h1) rv
  refine ⟨{ G.put a u with aF := bs }, (ExtS.put (u := u) .refl (.inr g3) h1).frame fun b hb => .inl (g5.subset hb), ⟨hfr, S.is.mono (put_mono h1) (List.prefix_refl _) (fun _ _ _ e _ => e) fun _ _ e => e, S.nd.sublist (g5.append (.refl _)), fun b hb => ?_, fun b w e => ?_, fun b w e => ?_, S.tb⟩⟩
  · show upd G.F a u b = none
    have hb' := (g5.append (List.Sublist.refl G.aI)).subset hb
    rw [upd_ne]
    · exact S.sep b hb'
    · rintro rfl
      rcases List.mem_append.mp hb with z | z
      · exact g4 z
      · exact h3 z
  · have e : upd G.F a u b = some w := e
    by_cases hb : b = a
    · subst hb; rw [upd_same] at e; cases e; exact .inl hu
    · rw [upd_ne hb] at e; exact S.sub b w e
  · have e : upd G.F a u b = some w := e
    by_cases hb : b = a
    · subst hb; rw [upd_same] at e; cases e; exact fu
    · rw [upd_ne hb] at e; exact S.fine b w e
end
end Air
/-! Air: statements (3): one by one. -/
namespace Air
open PySem PySem.Spec PyProof.Rows L2
variable [Kf]
section
variable {L : Lg} {W : WX} {X : Cx} {ro ro' : Bool} {G G1 G2 : Gh} {H H1 H2 : Hp} {σ σ1 : St} {fr fr1 : Fr} {I I1 : Is} {E E' : Ends}
theorem PS.imp {st : Stmt} {t t' : TS} (h : PS X st t) (i : ∀ D σ H, t' D σ H → t D σ H) : PS X st t' := ⟨fun pins s σ H D I q => h.run pins s σ H D I (i _ _ _ q)⟩
theorem PSs.imp {st : List Stmt} {t t' : TS} (h : PSs X st t) (i : ∀ D σ H, t' D σ H → t D σ H) : PSs X st t' := ⟨fun pins s σ H D I q => h.run pins s σ H D I (i _ _ _ q)⟩
/-! ### assignments -/
theorem sw_no {v : Expr} {tg : Option Expr} {l : Nat} {env : Env} (h : notComp v = true) : swapsWith v tg l env = pure false := by
  cases v <;> first | rfl | cases h
theorem kind_of {sc : Scope} (h : fnKind sc = true) : sc.kind = .function := by
  unfold fnKind at h
  split at h
  · assumption
  · cases h
theorem ps_asgA (g : Good L X W) {fb : Str → Bool} (hf : ∀ x, fb x = true → X.fn x = true) {e : Tm} {v : Expr} {i : Nat} {x : Str} {px pos : Pos} (h1 : nmB fb X.env.scope X.N i x = true) (h2 : chk L.kn L.kw e X.env.scope X.N v = true) (h3 : swB X.env.scope x px v = true) (h4 : fnKind X.env.scope = true) :
    PS X (.Assign [.Name x px] v pos) (tAsg (te L W e) (gName i)) := by
  simp only [nmB, Bool.and_eq_true, decide_eq_true_eq] at h1
  obtain ⟨hi, hs⟩ := h1
  obtain ⟨s1, s2⟩ := sto_of hf hs
  have plain : notComp v = true → PS X (.Assign [.Name x px] v pos) (tAsg (te L W e) (gName i)) := fun hn =>
    ps_asg ((main_all e).e g h2).1 (pg_name g.nd hi s1 s2) (show swapsWith v (some (.Name x px)) pos.line X.env = pure false from sw_no hn) (by rfl) (by rfl)
  unfold swB at h3
  split at h3
  · rename_i elt gg scope lp
    simp only [Bool.and_eq_true, decide_eq_true_eq, Bool.not_eq_true'] at h3
    obtain ⟨⟨l1, l2⟩, l3⟩ := h3
    unfold chk at h2
    split at h2 <;> first | (rename_i heq; cases heq; done) | (cases h2; done) | skip
    · rename_i heq; cases heq
      simp only [Bool.and_eq_true] at h2
      obtain ⟨⟨⟨⟨⟨⟨k1, k2⟩, k3⟩, k4⟩, k5⟩, k6⟩, k7⟩ := h2
      have k4 := List.all_eq_true.mp k4
      have hix := fun j hj => of_decide_eq_true (k4 j hj)
      refine PS.imp (ps_setLc (g := gA X.K _) g.calm g.nd hi l1 (sw_true (kind_of h4) l1 l2 l3) ((main_all _).i g k2) (blkOk_by k1)
        (fun s H C cl fp => pg_A (X := X.blk s H _ (compEnvC _ cl C X.env) fp) (fb := celB _) g.calm g.nd (fun x hx => by simpa [celB] using hx) k3)
        (fun s H C cl fp => (main_all (L := L.nl) _).c (g.blk s H _ _ fp) k5) (fun s H C cl fp => PE.imp (X := X.blk s H _ (compEnvC _ cl C X.env) fp) ((main_all (L := L.nl) _).e (g.blk s H _ (compEnvC _ cl C X.env) fp) k6).1 fun σ H Q q => te_kn q) (fold_of k7 _)) fun D σ H q => te_lc hix q
    · rename_i heq; cases heq
      simp only [Bool.and_eq_true] at h2
      obtain ⟨⟨⟨⟨⟨⟨⟨⟨k1, k2⟩, k2b⟩, k2c⟩, k3⟩, k4⟩, k5⟩, k6⟩, k7⟩ := h2
      have k4 := List.all_eq_true.mp k4
      have hix := fun j hj => of_decide_eq_true (k4 j hj)
      obtain ⟨tX, ex⟩ := ex_simple g k2 k2c
      have base := ps_setLc (spos := pos) (g := gA X.K _) g.calm g.nd hi l1 (sw_true (kind_of h4) l1 l2 l3) (pi_keys ex.pe) (blkOk_by k1)
        (fun s H C cl fp => pg_A (X := X.blk s H _ (compEnvC _ cl C X.env) fp) (fb := celB _) g.calm g.nd (fun x hx => by simpa [celB] using hx) k3)
        (fun s H C cl fp => (main_all (L := L.nl) _).c (g.blk s H _ _ fp) k5) (fun s H C cl fp => PE.imp (X := X.blk s H _ (compEnvC _ cl C X.env) fp) ((main_all (L := L.nl) _).e (g.blk s H _ (compEnvC _ cl C X.env) fp) k6).1 fun σ H Q q => te_kn q) (fold_of k7 _)
      exact PS.imp (ps_alt (ps_lock base) base) fun D σ H q => te_lcD ex hix q
  · exact plain h3
theorem ts_asg {e : Tm} {i : Nat} (h : tS L W (.asg i e) E σ H) : tAsg (te L W e) (gName i) E σ H := by
  obtain ⟨ro, G, fr, I, S, h⟩ := h
  simp only [exec] at h
  refine te.imp (stm_te S h) ?_
  rintro v H1 ⟨p, I1, G1, x, S1, r1, h1⟩
  cases q : frzK p with
  | none => rw [q] at h1; exact absurd h1 id
  | some d =>
    rw [q] at h1
    obtain ⟨w, rfl⟩ := r1.w q
    obtain ⟨G2, _, x2, S2, rv⟩ := frzS_one x.s S1 w
    obtain ⟨G3, x3, S3⟩ := set_val x2 S2 rv
    exact h1 _ G3 H1 x3 S3
theorem ts_own {e : Tm} {i : Nat} (h : tS L W (.own i e) E σ H) : tAsg (te L W e) (gName i) E σ H := by
  obtain ⟨ro, G, fr, I, S, h⟩ := h
  simp only [exec] at h
  refine te.imp (stm_te S h) ?_
  rintro v H1 ⟨p, I1, G1, x, S1, r1, h1⟩
  cases q : stoK true p with
  | none => rw [q] at h1; exact absurd h1 id
  | some s =>
    rw [q] at h1
    have e1 : stoAll [(i, true)] [p] fr = some (fr.set i s) := by simp [stoAll, q]
    have hn : (nwA [p] [v]).Nodup := by
      show (_ ++ []).Nodup
      split <;> simp
    obtain ⟨G2, x2, S2, _⟩ := sto_all x.s S1 (Wt.of (.cons r1 .nil) hn e1) e1
    exact h1 _ G2 H1 x2 S2
/-! ### several at once -/
theorem fold_map : ∀ (tg : List (Nat × Bool)) (vs : List V) (σ : St), (tg.zip vs).foldl (fun σ q => σ.set q.1.1 (some q.2)) σ = ((tg.map (·.1)).zip vs).foldl (fun σ p => σ.set p.1 (some p.2)) σ
  | [], vs, σ => by simp
  | t :: tg, [], σ => by simp
  | t :: tg, v :: vs, σ => by simpa using fold_map tg vs _
theorem ts_par {tg : List (Nat × Bool)} {es : Tm} (h : tS L W (.par tg es) E σ H) : ta L W es σ H (fun vs H1 => vs.length = tg.length ∧ (∀ p u, H1 p = none → E.nx ((tg.zip vs).foldl (fun σ q => σ.set q.1.1 (some q.2)) σ) (upd H1 p u)) ∧ E.nx ((tg.zip vs).foldl (fun σ q => σ.set q.1.1 (some q.2)) σ) H1) := by
  obtain ⟨ro, G, fr, I, S, h⟩ := h
  simp only [exec] at h
  obtain ⟨ro2, G2, fr2, I2, S2, h2⟩ := stm_ta S h
  refine ⟨ro2, G2, fr2, I2, S2, h2.imp (fun _ _ _ _ r => r) ?_⟩
  rintro vs H1 ⟨ps, I1, G1, x, S1, ⟨r1, n1⟩, h1⟩
  cases q : stoAll tg ps fr with
  | none => rw [q] at h1; exact absurd h1 id
  | some fr' =>
    rw [q] at h1
    obtain ⟨G3, x3, S3, l3⟩ := sto_all x.s S1 (Wt.of r1 n1 q) q
    exact ⟨l3, fun p u hp => h1 _ G3 _ (x3.trans (Ext.new hp).s) (S3.new hp), h1 _ G3 H1 x3 S3⟩
theorem star_no {e : Expr} (h : notStar e = true) : (match e with | .Starred _ _ => true | _ => false) = false := by
  cases e <;> first | rfl | cases h
theorem str_ne {x y : Str} (h : (x == y) = false) : (y == x) = false := by
  cases q : y == x with
  | false => rfl
  | true => rw [eq_of_beq q, beq_self_eq_true] at h; cases h
theorem sw_par2 {env : Env} {x y : Str} {px py pt pt2 : Pos} {kt k2 : Nat} {a b : Expr} (hk : env.scope.kind = .function) (hx : env.scope.names.lookup x = some .local) (hy : env.scope.names.lookup y = some .local) (hl : (py.line == px.line) = true) (hxy : (x == y) = false)
    (ha : notStar a = true) (hb : notStar b = true) (hfo : (foldedForSure 8 a && foldedForSure 8 b) = false) (hco : (constantsAlone 8 a && constantsAlone 8 b) = false) :
    swappedStores [.Tuple [.Name x px, .Name y py] kt pt] (.Tuple [a, b] k2 pt2) env = pure (some [x, y]) := by
  have hb' : env.blockKind = .function := by unfold Env.blockKind; rw [hk]; rfl
  have e1 : env.kindOf x = some .local := hx
  have e2 : env.kindOf y = some .local := hy
  have hall1 : [a, b].all (foldedForSure 8) = false := by simpa using hfo
  have hall2 : [a, b].all (constantsAlone 8) = false := by simpa using hco
  have hd : [x, y].eraseDups = [x, y] := by simp [List.eraseDups_cons, str_ne hxy]
  unfold swappedStores
  simp only [hb', List.any_cons, List.any_nil, star_no ha, star_no hb, List.length_cons, List.length_nil, List.head?_cons, Option.map_some, Option.getD_some, List.filterMap_cons, List.filterMap_nil, e1, e2, Expr.pos, hl, hall1, hall2]
  simp [hd]
  rintro (h | h)
  · cases a <;> first | (cases h; done) | (cases ha; done)
  · cases b <;> first | (cases h; done) | (cases hb; done)
theorem sw_par3 {env : Env} {x y z : Str} {px py pz pt pt2 : Pos} {kt k2 : Nat} {a b c : Expr} (hk : env.scope.kind = .function) (hx : env.scope.names.lookup x = some .local) (hy : env.scope.names.lookup y = some .local) (hz : env.scope.names.lookup z = some .local) (hl : (py.line == px.line) = true) (hl2 : (pz.line == px.line) = true) (hxy : (x == y) = false) (hxz : (x == z) = false) (hyz : (y == z) = false)
    (ha : notStar a = true) (hb : notStar b = true) (hc : notStar c = true) (hfo : (foldedForSure 8 a && foldedForSure 8 b && foldedForSure 8 c) = false) (hco : (constantsAlone 8 a && constantsAlone 8 b && constantsAlone 8 c) = false) :
    swappedStores [.Tuple [.Name x px, .Name y py, .Name z pz] kt pt] (.Tuple [a, b, c] k2 pt2) env = pure (some [x, y, z]) := by
  have hb' : env.blockKind = .function := by unfold Env.blockKind; rw [hk]; rfl
  have e1 : env.kindOf x = some .local := hx
  have e2 : env.kindOf y = some .local := hy
  have e3 : env.kindOf z = some .local := hz
  have hall1 : [a, b, c].all (foldedForSure 8) = false := by simpa [Bool.and_assoc] using hfo
  have hall2 : [a, b, c].all (constantsAlone 8) = false := by simpa [Bool.and_assoc] using hco
  have hd : [x, y, z].eraseDups = [x, y, z] := by simp [List.eraseDups_cons, str_ne hxy, str_ne hxz, str_ne hyz]
  unfold swappedStores
  simp only [hb', List.any_cons, List.any_nil, star_no ha, star_no hb, star_no hc, List.length_cons, List.length_nil, List.head?_cons, Option.map_some, Option.getD_some, List.filterMap_cons, List.filterMap_nil, e1, e2, e3, Expr.pos, hl, hl2, hall1, hall2]
  simp [hd]
  rintro (h | h | h)
  · cases a <;> first | (cases h; done) | (cases ha; done)
  · cases b <;> first | (cases h; done) | (cases hb; done)
  · cases c <;> first | (cases h; done) | (cases hc; done)
theorem fm_len {α β : Type} {f : α → Option β} : ∀ {l : List α}, (l.filterMap f).length = l.length → ∀ x ∈ l, (f x).isSome = true
  | [], _, x, h => by simp at h
  | y :: l, e, x, h => by
    rw [List.filterMap_cons] at e
    have le := List.length_filterMap_le f l
    cases q : f y with
    | none => rw [q] at e; simp only [List.length_cons] at e; omega
    | some z =>
      rw [q] at e
      rcases List.mem_cons.mp h with rfl | h
      · rw [q]; rfl
      · exact fm_len (by simpa using e) x h
theorem sw_parT {env : Env} {ts vs : List Expr} {kt k2 : Nat} {pt pt2 : Pos} (h : 3 < ts.length ∨ vs.length = ts.length ∧ vs.all (foldedForSure 8) = true ∨ ts.any (celT env.scope) = true) : swappedStores [.Tuple ts kt pt] (.Tuple vs k2 pt2) env = pure none := by
  unfold swappedStores
  rcases h with h | ⟨h1, h2⟩ | h
  · have e2 : (ts.length == 2) = false := by simp; omega
    have e3 : (ts.length == 3) = false := by simp; omega
    simp [e2, e3]
  · simp only [h2]
    simp
    repeat' (first | (intro _) | rfl)
  · obtain ⟨x, hx, hc⟩ := List.any_eq_true.mp h
    split
    · rename_i heq
      cases heq
      split
      · rfl
      · split
        · rfl
        · refine if_pos ?_
          rw [Bool.or_eq_true]
          left
          rw [bne_iff_ne]
          intro e
          have := fm_len e x hx
          cases x <;> first | (cases this; done) | skip
          rename_i y p
          have k : (env.kindOf y == some .local) = false := by simpa [celT, Env.kindOf] using hc
          simp only [k, Bool.false_and] at this
          cases this
    · rename_i hn
      exact (hn ts vs rfl).elim
end
end Air
/-! Air: statements (3a): containers and instances are changed. -/
namespace Air
open PySem PySem.Spec PyProof.Rows L2
variable [Kf]
section
variable {L : Lg} {W : WX} {X : Cx} {ro ro' : Bool} {G G1 G2 : Gh} {H H1 H2 : Hp} {σ σ1 : St} {fr fr1 : Fr} {I I1 : Is} {E E' : Ends}
theorem putF_same {x : Str} {v : V} : ∀ {fs : List (Str × V)}, fs.lookup x = some v → putF x v fs = fs
  | [], h => by cases h
  | (g, w) :: r, h => by
    rw [List.lookup_cons] at h
    unfold putF
    by_cases hg : g = x
    · subst hg
      rw [beq_self_eq_true] at h
      cases h
      rw [if_pos rfl]
    · have : (x == g) = false := by rw [beq_eq_false_iff_ne]; exact fun z => hg z.symm
      rw [this] at h
      rw [if_neg hg, putF_same h]
theorem perm_app {α : Type} {as bs cs ds : List α} (h : as.Perm (bs ++ cs)) : (ds ++ as).Perm (bs ++ (ds ++ cs)) := by
  refine (h.append_left ds).trans ?_
  rw [← List.append_assoc, ← List.append_assoc]
  exact List.perm_append_comm.append_right cs
theorem FdR.put {lk : Bool} {F : Hp} {M : List (Addr × Addr)} {fs : List (Str × V)} {ob : Ob} {as : List Addr} (h : FdR lk F M H fs ob as) (x : Str) :
    ∃ ds rest, as.Perm (ds ++ rest) ∧ fs.length = ob.length ∧ (ob.lookup x = none → ds = []) ∧ (∀ s, ob.lookup x = some s → ∃ v, fs.lookup x = some v ∧ SlV lk F M H (some v) s ds) ∧
      ∀ (F' H' : Hp) (v : V) (s : Sl) (ds' : List Addr), (∀ a u, F a = some u → F' a = some u) → (∀ a ∈ rest, Kp H H' a) → SlV lk F' M H' (some v) s ds' → ∃ as', FdR lk F' M H' (putF x v fs) (putOb x s ob) as' ∧ as'.Perm (ds' ++ rest) := by
  induction h with
  | nil => exact ⟨[], [], .refl _, rfl, fun _ => rfl, fun s e => by (cases e), fun F' H' v s ds' hF hk hs => ⟨ds' ++ [], .cons hs .nil, .refl _⟩⟩
  | cons h0 h1 ih =>
    rename_i y w s0 as0 bs0 fs0 ob0
    by_cases hy : y = x
    · subst hy
      refine ⟨as0, bs0, .refl _, ?_, fun e => ?_, fun s e => ?_, fun F' H' v s ds' hF hk hs => ?_⟩
      · obtain ⟨_, _, _, l, _⟩ := ih; simp [l]
      · rw [List.lookup_cons, beq_self_eq_true] at e; cases e
      · rw [List.lookup_cons, beq_self_eq_true] at e ⊢
        cases e
        exact ⟨w, rfl, h0⟩
      · refine ⟨ds' ++ bs0, ?_, .refl _⟩
        unfold putF putOb
        rw [if_pos rfl, decide_eq_true rfl]
        exact .cons hs (h1.mono hF (List.prefix_refl _) hk)
    · obtain ⟨ds, rest, p1, l, n1, n2, n3⟩ := ih
      have hb : (x == y) = false := by rw [beq_eq_false_iff_ne]; exact fun z => hy z.symm
      refine ⟨ds, as0 ++ rest, perm_app p1, by simp [l], fun e => ?_, fun s e => ?_, fun F' H' v s ds' hF hk hs => ?_⟩
      · rw [List.lookup_cons, hb] at e; exact n1 e
      · rw [List.lookup_cons, hb] at e ⊢; exact n2 s e
      · obtain ⟨as', f, p2⟩ := n3 F' H' v s ds' hF (fun a ha => hk a (List.mem_append_right _ ha)) hs
        refine ⟨as0 ++ as', ?_, perm_app p2⟩
        unfold putF putOb
        rw [if_neg hy, decide_eq_false hy]
        exact .cons (h0.mono hF (List.prefix_refl _) fun a ha => hk a (List.mem_append_left _ ha)) f
theorem IsR.put {C : Addr} {lk : Bool} {F : Hp} {M ps : List (Addr × Addr)} {as : List Addr} (h : IsR C lk F M H ps I as) : ∀ {k : Nat} {p dx : Addr}, ps[k]? = some (p, dx) → ∃ fs ob bs rest, I[k]? = some ob ∧ H p = some (.ins C dx fs) ∧ H dx = some (.own p) ∧ FdR lk F M H fs ob bs ∧ as.Perm ((p :: bs) ++ rest) ∧
    ∀ (F' H' : Hp) (fs' : List (Str × V)) (ob' : Ob) (bs' : List Addr), (∀ a u, F a = some u → F' a = some u) → (∀ a ∈ rest, Kp H H' a) → (∀ a q, H a = some (.own q) → H' a = some (.own q)) → H' p = some (.ins C dx fs') → FdR lk F' M H' fs' ob' bs' → ∃ as', IsR C lk F' M H' ps (I.set k ob') as' ∧ as'.Perm ((p :: bs') ++ rest) := by
  induction h with
  | nil => intro k p dx e; simp at e
  | cons h1 h2 h3 h4 ih =>
    rename_i p0 dx0 fs0 ob0 as0 bs0 ps0 I0
    intro k p dx e
    cases k with
    | zero =>
      simp only [List.getElem?_cons_zero, Option.some.injEq, Prod.mk.injEq] at e
      obtain ⟨rfl, rfl⟩ := e
      exact ⟨fs0, ob0, as0, bs0, rfl, h1, h2, h3, .refl _, fun F' H' fs' ob' bs' hF hk ho e1 e2 => ⟨_, .cons e1 (ho _ _ h2) e2 (h4.mono hF (List.prefix_refl _) hk ho), .refl _⟩⟩
    | succ k =>
      obtain ⟨fs, ob, bs, rest, e1, e2, e3, e4, e5, e6⟩ := ih (k := k) (by simpa using e)
      refine ⟨fs, ob, bs, (p0 :: as0) ++ rest, by simpa using e1, e2, e3, e4, perm_app e5, fun F' H' fs' ob' bs' hF hk ho g1 g2 => ?_⟩
      obtain ⟨as', q1, q2⟩ := e6 F' H' fs' ob' bs' hF (fun a ha => hk a (List.mem_append_right _ ha)) ho g1 g2
      exact ⟨(p0 :: as0) ++ as', .cons (hk p0 (by simp) _ h1 fun ps z => by cases z) (ho _ _ h2) (h3.mono hF (List.prefix_refl _) fun a ha => hk a (by simp [ha])) q1, perm_app q2⟩
/-- an instance's field is another one -/
theorem Sx.fput (S : Sx L.c false G fr I σ H) {k : Nat} {p dx : Addr} (hM : G.M[k]? = some (p, dx)) (x : Str) :
    ∃ fs ob ds rest, I[k]? = some ob ∧ H p = some (.ins L.c.C dx fs) ∧ p ∈ G.aI ∧ fs.length = ob.length ∧ G.aI.Perm (ds ++ (p :: rest)) ∧ (ob.lookup x = none → ds = []) ∧ (∀ s, ob.lookup x = some s → ∃ v, fs.lookup x = some v ∧ SlV false G.F G.M H (some v) s ds) ∧
      ∀ (H' : Hp) (v : V) (s : Sl) (ds' : List Addr), H' p = some (.ins L.c.C dx (putF x v fs)) → SlV false G.F G.M H' (some v) s ds' → (∀ a, a ≠ p → a ∉ ds → H a ≠ none → H' a = H a) → (∀ a ∈ ds, ∀ q, H a ≠ some (.own q)) → ds'.Nodup → (∀ a ∈ ds', a ∈ ds ∨ (G.F a = none ∧ a ∉ G.aF ∧ a ∉ G.aI)) → LamX.Tabs L.c.Tb H' →
        ∃ as', as'.Perm (ds' ++ (p :: rest)) ∧ Sx L.c false { G with aI := as' } fr (I.set k (putOb x s ob)) σ H' := by
  obtain ⟨fs, ob, bs, rest, e1, e2, e3, e4, e5, e6⟩ := S.is.put hM
  obtain ⟨ds, rest2, p1, l, n1, n2, n3⟩ := e4.put x
  have hperm : G.aI.Perm (ds ++ (p :: (rest2 ++ rest))) := by
    refine e5.trans ?_
    rw [List.cons_append]
    refine ((p1.append_right rest).cons p).trans ?_
    rw [List.append_assoc]
    exact (List.perm_middle).symm
  have nd := S.nd
  have ndp : (ds ++ (G.aF ++ (p :: (rest2 ++ rest)))).Nodup := ((perm_app (ds := G.aF) hperm).nodup_iff).mp nd
  have memI : ∀ {a}, a ∈ G.aI ↔ a ∈ ds ∨ a = p ∨ a ∈ rest2 ∨ a ∈ rest := fun {a} => by rw [hperm.mem_iff]; simp
  refine ⟨fs, ob, ds, rest2 ++ rest, e1, e2, memI.mpr (.inr (.inl rfl)), l, hperm, n1, n2, fun H' v s ds' h1 h2 h3 h3o h4 h5 h6 => ?_⟩
  have nd1 := List.nodup_append.mp ndp
  have nd2 := List.nodup_append.mp nd1.2.1
  have nd3 := List.nodup_cons.mp nd2.2.1
  have notds : ∀ a, a ∈ G.aF ∨ a = p ∨ a ∈ rest2 ∨ a ∈ rest → a ∉ ds := fun a ha z => nd1.2.2 a z a (by
    rcases ha with ha | ha | ha | ha
    · exact List.mem_append_left _ ha
    · exact List.mem_append_right _ (by simp [ha])
    · exact List.mem_append_right _ (by simp [ha])
    · exact List.mem_append_right _ (by simp [ha])) rfl
  have kp : ∀ a, a ≠ p → a ∉ ds → Kp H H' a := fun a z1 z2 o e _ => by rw [h3 a z1 z2 (by rw [e]; simp)]; exact e
  have np : ∀ a, a ∈ rest2 ∨ a ∈ rest → a ≠ p := fun a ha z => nd3.1 (by subst z; exact List.mem_append.mpr ha)
  have npF : ∀ a, a ∈ G.aF → a ≠ p := fun a ha z => nd2.2.2 a ha p (by simp) z
  have own : ∀ a q, H a = some (.own q) → H' a = some (.own q) := fun a q e => by
    refine kp a ?_ (fun z => h3o a z q e) _ e fun ps z => by cases z
    rintro rfl; rw [e2] at e; cases e
  obtain ⟨bs', f1, f2⟩ := n3 G.F H' v s ds' (fun _ _ e => e) (fun a ha => kp a (np a (.inl ha)) (notds a (.inr (.inr (.inl ha))))) h2
  obtain ⟨as', g1, g2⟩ := e6 G.F H' _ _ bs' (fun _ _ e => e) (fun a ha => kp a (np a (.inr ha)) (notds a (.inr (.inr (.inr ha))))) own h1 f1
  have hperm' : as'.Perm (ds' ++ (p :: (rest2 ++ rest))) := by
    refine g2.trans ?_
    rw [List.cons_append]
    refine ((f2.append_right rest).cons p).trans ?_
    rw [List.append_assoc]
    exact (List.perm_middle).symm
  refine ⟨as', hperm', ⟨S.fr.mono (fun _ _ e => e) (List.prefix_refl _) fun a ha => kp a (npF a ha) (notds a (.inl ha)), g1, ?_, fun a ha => ?_, fun a u e => ?_, S.fine, h6⟩⟩
  · refine ((perm_app (ds := G.aF) hperm').nodup_iff).mpr (List.nodup_append.mpr ⟨h4, nd1.2.1, fun a ha b hb z => ?_⟩)
    subst z
    rcases h5 a ha with z | ⟨_, z1, z2⟩
    · exact nd1.2.2 a z a hb rfl
    · rcases List.mem_append.mp hb with hb | hb
      · exact z1 hb
      · exact z2 (hperm.mem_iff.mpr (List.mem_append_right _ hb))
  · rcases List.mem_append.mp ha with ha | ha
    · exact S.sep a (List.mem_append_left _ ha)
    · rcases List.mem_append.mp (hperm'.mem_iff.mp ha) with ha | ha
      · rcases h5 a ha with z | ⟨z, _⟩
        · exact S.sep a (List.mem_append_right _ (memI.mpr (.inl z)))
        · exact z
      · exact S.sep a (List.mem_append_right _ (hperm.mem_iff.mpr (List.mem_append_right _ ha)))
  · have hI : a ∉ G.aI := fun z => by rw [S.sep a (List.mem_append_right _ z)] at e; cases e
    refine (S.sub a u e).mono fun o q => ?_
    rw [h3 a (fun z => hI (memI.mpr (.inr (.inl z)))) (fun z => hI (memI.mpr (.inl z))) (by rw [q]; simp)]
    exact q
end
end Air
/-! Air: statements (3b): stores by a key. -/
namespace Air
open PySem PySem.Spec PyProof.Rows L2
variable [Kf]
section
variable {L : Lg} {W : WX} {X : Cx} {ro ro' : Bool} {G G1 G2 : Gh} {H H1 H2 : Hp} {σ σ1 : St} {fr fr1 : Fr} {I I1 : Is} {E E' : Ends}
/-! ### keys and values -/
def repW {κ α : Type} [DecidableEq κ] (k : κ) (v : α) : List κ → List α → List α
  | j :: ks, w :: vs => (bif decide (j = k) then v else w) :: repW k v ks vs
  | _, _ => []
theorem any_zip {κ α : Type} [DecidableEq κ] (j : κ) : ∀ {ks : List κ} {vs : List α}, ks.length = vs.length → ((ks.zip vs).any fun kv => decide (kv.1 = j)) = ks.any fun i => decide (i = j)
  | [], [], _ => rfl
  | k :: ks, v :: vs, h => by
    rw [List.zip_cons_cons, List.any_cons, List.any_cons, any_zip j (by simpa using h)]
  | [], _ :: _, h => by simp at h
  | _ :: _, [], h => by simp at h
theorem rep_zip {κ : Type} [DecidableEq κ] (j : κ) (v : V) : ∀ {ks : List κ} {vs : List V}, ks.length = vs.length → (ks.zip vs).map (fun kv => if kv.1 = j then (kv.1, v) else kv) = ks.zip (repW j v ks vs)
  | [], [], _ => rfl
  | k :: ks, w :: vs, h => by
    show _ = (k :: ks).zip ((bif decide (k = j) then v else w) :: repW j v ks vs)
    rw [List.zip_cons_cons, List.map_cons, rep_zip j v (by simpa using h), List.zip_cons_cons]
    by_cases hk : k = j
    · rw [if_pos hk, decide_eq_true hk]; rfl
    · rw [if_neg hk, decide_eq_false hk]; rfl
  | [], _ :: _, h => by simp at h
  | _ :: _, [], h => by simp at h
theorem rep_len {κ α : Type} [DecidableEq κ] (j : κ) (v : α) : ∀ {ks : List κ} {vs : List α}, ks.length = vs.length → (repW j v ks vs).length = vs.length
  | [], [], _ => rfl
  | k :: ks, w :: vs, h => by unfold repW; simp [rep_len j v (show ks.length = vs.length by simpa using h)]
  | [], _ :: _, h => by simp at h
  | _ :: _, [], h => by simp at h
theorem rep_rv {κ : Type} [DecidableEq κ] {F : Hp} {M : List (Addr × Addr)} (j : κ) {v : V} {d : D} (r : RV F M v d) : ∀ {ks : List κ} {vs : List V} {ds : List D}, ks.length = vs.length → RVs F M vs ds → RVs F M (repW j v ks vs) (repV j d ks ds)
  | [], [], _, _, .nil => .nil
  | k :: ks, w :: vs, _, h, .cons q rs => by
    unfold repW repV
    refine .cons ?_ (rep_rv j r (by simpa using h) rs)
    cases decide (k = j) <;> assumption
  | [], _ :: _, _, h, _ => by simp at h
  | _ :: _, [], _, h, _ => by simp at h
theorem put_zip {κ : Type} [DecidableEq κ] {F : Hp} {M : List (Addr × Addr)} (ok : κ → Bool) (j : κ) (hj : ok j = true) {v : V} {d : D} (r : RV F M v d) {ks : List κ} {vs : List V} {ds : List D} (hl : KL ok ks vs) (rs : RVs F M vs ds) : ∃ ws, putK (ks.zip vs) j v = (putKs ks j).zip ws ∧ KL ok (putKs ks j) ws ∧ RVs F M ws (putVs ks ds j d) := by
  unfold putK putKs putVs
  rw [any_zip j hl.1]
  cases q : ks.any fun i => decide (i = j) with
  | true => exact ⟨repW j v ks vs, rep_zip j v hl.1, ⟨by rw [rep_len j v hl.1]; exact hl.1, hl.2⟩, rep_rv j r hl.1 rs⟩
  | false =>
    refine ⟨vs ++ [v], ?_, ⟨?_, ?_⟩, rs.append (.cons r .nil)⟩
    · show ks.zip vs ++ [(j, v)] = (ks ++ [j]).zip (vs ++ [v])
      rw [List.zip_append hl.1]; rfl
    · show (ks ++ [j]).length = _
      simp [hl.1]
    · show (ks ++ [j]).all ok = true
      rw [List.all_append, hl.2]
      simp [hj]
theorem RVs.set {F : Hp} {M : List (Addr × Addr)} {v : V} {d : D} (r : RV F M v d) : ∀ {vs : List V} {ds : List D} (j : Nat), RVs F M vs ds → RVs F M (vs.set j v) (ds.set j d)
  | _, _, _, .nil => .nil
  | _, _, 0, .cons _ rs => .cons r rs
  | _, _, j + 1, .cons q rs => .cons q (RVs.set r j rs)
/-! ### a store by a key -/
def Con (u : HO) : Prop := (∃ vs, u = .lst vs) ∨ IsDO u
def rSetC : V → V → V → Hp → (Hp → Prop) → Prop := fun o i v H Q => rSetL o i v H Q ∨ ∃ a H', o = .ref a ∧ DPut H a i v H' ∧ Q H'
theorem set_con (hu : X.A.units + 1 < cLine) : PSet X rSetC := by
  intro pins s σ H o i v ov iv u Q I ro ri rv h
  rcases h with h | ⟨a, H', rfl, g, q⟩
  · exact set_list pins s σ H o i v ov iv u Q I ro ri rv h
  · obtain rfl : ov = Value.ref a := ro
    exact d_setItem hu I g ri rv fun s' I' => ⟨H', I', q⟩
theorem kyL_ok {F : Hp} {M : List (Addr × Addr)} : ∀ {vs : List V} {ds : List D} {ks : List Ky}, RVs F M vs ds → kyL ds = some ks → vs = ks.map kV ∧ ks.all kyOk = true
  | _, _, _, .nil, e => by cases e; exact ⟨rfl, rfl⟩
  | _, _, _, .cons (d := d) (ds := ds) r rs, e => by
    unfold kyL at e
    split at e
    · rename_i k ks h1 h2
      cases e
      obtain ⟨e1, e2⟩ := kyL_ok rs h2
      cases d <;> simp only [ky1, Option.some.injEq, reduceCtorEq] at h1
      · subst h1; cases r; exact ⟨by rw [e1]; rfl, by rw [List.all_cons, e2]; rfl⟩
      · subst h1; cases r; rename_i hz; exact ⟨by rw [e1]; rfl, by rw [List.all_cons, e2, Bool.and_true]; exact hz⟩
    · cases e
theorem slAt_con {F : Hp} {M : List (Addr × Addr)} {a : Addr} {c : Sl} (h : SlAt false F M H a c) : ∃ u, H a = some u ∧ Con u := by
  cases c with
  | lst xs => obtain ⟨vs, e, _⟩ := h; exact ⟨_, e, .inl ⟨_, rfl⟩⟩
  | dK ks xs => obtain ⟨vs, e | ⟨z, _⟩, _⟩ := h; exact ⟨_, e, .inr (.inl ⟨_, rfl⟩)⟩; cases z
  | dT ks xs => obtain ⟨vs, e | ⟨z, _⟩, _⟩ := h; exact ⟨_, e, .inr (.inr ⟨_, rfl⟩)⟩; cases z
  | no => cases h
  | val _ => cases h
theorem put_con {a : Addr} {c c' : Sl} {q : D × Kd} {y v : V} {d : D} {H0 : Hp} {lk : Bool} (S : Sx L.c lk G fr I σ H) (h : SlAt false G.F G.M H a c) (rq : Rk L H0 G H q y) (rv : RV G.F G.M v d) (e : putS c q d = some c') :
    ∃ u, Con u ∧ (∀ Q : Hp → Prop, Q (upd H a u) → rSetC (.ref a) y v H Q) ∧ ∀ H' : Hp, H' a = some u → SlAt false G.F G.M H' a c' := by
  obtain ⟨qd, qk⟩ := q
  cases c with
  | no => cases e
  | val _ => cases e
  | lst xs =>
    obtain ⟨vs, ha, r⟩ := h
    cases qd <;> first | (cases e; done) | skip
    rename_i i
    have e : (match ixN' xs.length i with | some j => some (Sl.lst (xs.set j d)) | none => none) = some c' := e
    cases q : ixN' xs.length i with
    | none => rw [q] at e; cases e
    | some j =>
      rw [q] at e
      cases e
      have q2 : ixN vs.length i = some j := by
        rw [r.length]
        unfold ixN' at q
        unfold ixN
        by_cases h1 : 0 ≤ i
        · rw [decide_eq_true h1] at q
          rw [if_pos h1]
          by_cases h2 : i < xs.length
          · rw [decide_eq_true h2] at q; rw [if_pos h2]; exact q
          · rw [decide_eq_false h2] at q; cases q
        · rw [decide_eq_false h1] at q
          rw [if_neg h1]
          by_cases h2 : 0 ≤ i + xs.length
          · rw [decide_eq_true h2] at q; rw [if_pos (by omega)]; exact q
          · rw [decide_eq_false h2] at q; cases q
      exact ⟨.lst (vs.set j v), .inl ⟨_, rfl⟩, fun Q hq => .inl ⟨a, vs, i, j, rfl, rq.int, ha, q2, hq⟩, fun H' e' => ⟨_, e', r.set rv j⟩⟩
  | dK ks xs =>
    obtain ⟨vs, ha, hl, r⟩ := h
    replace ha := ha.resolve_right fun z => Bool.false_ne_true z.1
    have e : (match ky1 qd with | some j => bif decide (ks.length < lim) then some (Sl.dK (putKs ks j) (putVs ks xs j d)) else none | none => none) = some c' := e
    cases q : ky1 qd with
    | none => rw [q] at e; cases e
    | some j =>
      rw [q] at e
      simp only at e
      cases q2 : decide (ks.length < lim) with
      | false => rw [q2] at e; cases e
      | true =>
        rw [q2] at e
        cases e
        have hj : kyOk j = true := by
          cases qd <;> simp only [ky1, Option.some.injEq, reduceCtorEq] at q <;> subst q
          · rfl
          · exact rq.str.2
        obtain ⟨ws, z1, z2, z3⟩ := put_zip kyOk j hj rv hl r
        have hlen : (ks.zip vs).length < sizeLine := by
          rw [List.length_zip, hl.1, Nat.min_self, ← hl.1, ← lim_eq]; exact of_decide_eq_true q2
        refine ⟨.dK ((putKs ks j).zip ws), .inr (.inl ⟨_, rfl⟩), fun Q hq => .inr ⟨a, _, rfl, ?_, hq⟩, fun H' e' => ⟨ws, .inl e', z2, z3⟩⟩
        rw [rq.ky1 q, ← z1]
        exact DPut.k ha hlen
  | dT ks xs =>
    obtain ⟨vs, ha, hl, r⟩ := h
    replace ha := ha.resolve_right fun z => Bool.false_ne_true z.1
    have e : (match kyT qd with | some j => bif decide (qk = .fro) && decide (ks.length < lim) then some (Sl.dT (putKs ks j) (putVs ks xs j d)) else none | none => none) = some c' := e
    cases q : kyT qd with
    | none => rw [q] at e; cases e
    | some j =>
      rw [q] at e
      simp only at e
      cases q2 : decide (qk = .fro) && decide (ks.length < lim) with
      | false => rw [q2] at e; cases e
      | true =>
        rw [q2] at e
        cases e
        rw [Bool.and_eq_true, decide_eq_true_eq, decide_eq_true_eq] at q2
        obtain ⟨rfl, q2⟩ := q2
        cases rq with
        | fro rq =>
          cases rq <;> first | (cases q; done) | skip
          rename_i b us ds eb rs
          obtain ⟨k1, k2⟩ := kyL_ok rs q
          subst k1
          obtain ⟨ws, z1, z2, z3⟩ := put_zip kysOk j k2 rv hl r
          have hlen : (ks.zip vs).length < sizeLine := by
            rw [List.length_zip, hl.1, Nat.min_self, ← hl.1, ← lim_eq]; exact q2
          refine ⟨.dT ((putKs ks j).zip ws), .inr (.inr ⟨_, rfl⟩), fun Q hq => .inr ⟨a, _, rfl, ?_, hq⟩, fun H' e' => ⟨ws, .inl e', z2, z3⟩⟩
          rw [← z1]
          exact DPut.t ha (S.sub _ _ eb).tup hlen
/-! ### a name's container is another one -/
theorem SlV.con {F : Hp} {M : List (Addr × Addr)} {ov : Option V} {s : Sl} {as : List Addr} (h : SlV false F M H ov s as) {s' : Sl} {a : Addr} {F' : Hp} {M' : List (Addr × Addr)} {H' : Hp} (e : ov = some (.ref a)) (ha : as = [a]) (r : SlAt false F' M' H' a s') : SlV false F' M' H' ov s' as := by
  subst e ha
  cases s' with
  | no => cases r
  | val _ => cases r
  | _ => exact ⟨a, rfl, rfl, r⟩
theorem SlV.isCon {lk : Bool} {F : Hp} {M : List (Addr × Addr)} {ov : Option V} {s : Sl} {as : List Addr} (h : SlV lk F M H ov s as) (hs : conS s = true) : ∃ a, as = [a] ∧ ov = some (.ref a) ∧ SlAt lk F M H a s := by
  cases s with
  | no => cases hs
  | val _ => cases hs
  | _ => exact h
theorem FrR.mut {F : Hp} {M : List (Addr × Addr)} {as : List Addr} (h : FrR F M H σ fr as) (nd : as.Nodup) : ∀ {i : Nat} {s s' : Sl} {a : Addr} {u : HO}, fr[i]? = some s → conS s = true → σ[i]? = some (some (.ref a)) → SlAt false F M (upd H a u) a s' → FrR F M (upd H a u) σ (fr.set i s') as := by
  have kp : ∀ {b a : Addr} {u : HO}, b ≠ a → Kp H (upd H a u) b := fun hb o e _ => by rw [upd_ne hb]; exact e
  induction h with
  | nil => intro i s s' a u e; simp at e
  | cons h0 h1 ih =>
    rename_i ov s0 as1 bs1 σ1 fr1
    intro i s s' a u e hs e2 r
    have nd1 := List.nodup_append.mp nd
    cases i with
    | zero =>
      simp only [List.getElem?_cons_zero, Option.some.injEq] at e e2
      subst e
      obtain ⟨b, rfl, hb, sl⟩ := h0.isCon hs
      rw [e2] at hb
      have hb : a = b := V.ref.inj (Option.some.inj hb)
      subst hb
      exact .cons (h0.con e2 rfl r) (h1.mono (fun _ _ e => e) (List.prefix_refl _) fun c hc => kp fun z => nd1.2.2 a (by simp) a (z ▸ hc) rfl)
    | succ i =>
      have e' : fr1[i]? = some s := by simpa using e
      have e2' : σ1[i]? = some (some (.ref a)) := by simpa using e2
      obtain ⟨ov', cs, g1, g2, g3⟩ := h1.at_ e'
      obtain ⟨b, rfl, hb, _⟩ := g2.isCon hs
      rw [e2'] at g1
      have hb2 : a = b := by
        rw [← Option.some.inj g1] at hb
        exact V.ref.inj (Option.some.inj hb)
      subst hb2
      have ha : a ∈ bs1 := g3 a (by simp)
      exact .cons (h0.mono (fun _ _ e => e) (List.prefix_refl _) fun c hc => kp fun z => nd1.2.2 c hc a ha z) (ih nd1.2.1 e' hs e2' r)
theorem con_ne {u : HO} (h : Con u) : (∀ p, u ≠ .own p) ∧ (∀ ps, u ≠ .tbl ps) ∧ (∀ k z, u ≠ LamX.CodeO k z) ∧ (∀ vs, u ≠ .tup vs) ∧ ∀ C dx fs, u ≠ .ins C dx fs := by
  rcases h with ⟨_, rfl⟩ | ⟨_, rfl⟩ | ⟨_, rfl⟩ <;> exact ⟨(fun _ z => by cases z), (fun _ z => by cases z), (fun _ _ z => by unfold LamX.CodeO at z; cases z), (fun _ z => by cases z), fun _ _ _ z => by cases z⟩
theorem Sx.mut {i : Nat} {s s' : Sl} {a : Addr} {u : HO} (x : ExtS ro G H G1 H1) (S : Sx L.c ro G1 fr I1 σ H1) (e : fr[i]? = some s) (hs : conS s = true) (e2 : σ[i]? = some (some (.ref a))) (ha : a ∈ G1.aF) (hu : Con u) (r : SlAt false G1.F G1.M (upd H1 a u) a s') :
    ExtS ro G H G1 (upd H1 a u) ∧ Sx L.c ro G1 (fr.set i s') I1 σ (upd H1 a u) := by
  have kp : ∀ {b : Addr}, b ≠ a → Kp H1 (upd H1 a u) b := fun hb o e _ => by rw [upd_ne hb]; exact e
  have nd := List.nodup_append.mp S.nd
  have aF := x.aF a ha
  obtain ⟨w, hv, hw⟩ : ∃ w, H1 a = some w ∧ Con w := by
    obtain ⟨ov, bs, z1, z2, z3⟩ := S.fr.at_ e
    obtain ⟨b, rfl, hb, sl⟩ := z2.isCon hs
    rw [e2] at z1
    have : a = b := by rw [← Option.some.inj z1] at hb; exact V.ref.inj (Option.some.inj hb)
    subst this
    exact slAt_con sl
  obtain ⟨w1, w2, w3, w4, w5⟩ := con_ne hw
  obtain ⟨u1, u2, u3, u4, u5⟩ := con_ne hu
  refine ⟨⟨fun b o hb h1 h2 t => ?_, fun b hb => ?_, fun b vs hb => ?_, x.F, x.Fn, x.aF, x.aI, x.M, x.ro⟩, ⟨S.fr.mut nd.1 e hs e2 r, S.is.mono (fun _ _ e => e) (List.prefix_refl _) (fun b hb => kp fun z => nd.2.2 a ha a (z ▸ hb) rfl) (fun b p hb => ?_), S.nd, S.sep, fun b w hb => ?_, S.fine, ?_⟩⟩
  · have : b ≠ a := fun z => by
      subst z
      exact aF.elim h2 fun z => by rw [z] at hb; cases hb
    rw [upd_ne this]
    exact x.keep b o hb h1 h2 t
  · by_cases h : b = a
    · subst h; rw [upd_same] at hb; cases hb
    · rw [upd_ne h] at hb; exact x.dom b hb
  · by_cases h : b = a
    · subst h; rw [upd_same] at hb; exact absurd (Option.some.inj hb) (u4 _)
    · rw [upd_ne h] at hb; exact x.tp b vs hb
  · rw [upd_ne]
    · exact hb
    · rintro rfl; rw [hv] at hb; exact w1 _ (Option.some.inj hb)
  · refine (S.sub b w hb).mono fun o q => ?_
    rw [upd_ne]
    · exact q
    · rintro rfl
      rw [S.sep b (List.mem_append_left _ ha)] at hb; cases hb
  · exact Tabs.upd S.tb hv w2 w3
/-! ### a field's container is another one, a field is another one -/
theorem setFld_eq {k : Nat} {x : Str} {s : Sl} {ob : Ob} {I' : Is} (e : I[k]? = some ob) (h : setFld I k x s = some I') : ob.length < 100 ∧ I' = I.set k (putOb x s ob) := by
  unfold setFld at h
  rw [e] at h
  simp only at h
  cases q : decide (ob.length < 100) with
  | false => rw [q] at h; cases h
  | true => rw [q] at h; cases h; exact ⟨of_decide_eq_true q, rfl⟩
/-- in place -/
theorem Sx.fmut {k : Nat} {p dx : Addr} {x : Str} {s s' : Sl} {I' : Is} (xe : ExtS false G H G1 H1) (S : Sx L.c false G1 fr I1 σ H1) (hM : G1.M[k]? = some (p, dx)) (hf : fldD I1 k x = some s) (hs : conS s = true) (hI : setFld I1 k x s' = some I') :
    ∃ fs a, H1 p = some (.ins L.c.C dx fs) ∧ fs.lookup x = some (.ref a) ∧ SlAt false G1.F G1.M H1 a s ∧ ∀ u, Con u → SlAt false G1.F G1.M (upd H1 a u) a s' → ∃ G2, ExtS false G H G2 (upd H1 a u) ∧ Sx L.c false G2 fr I' σ (upd H1 a u) := by
  obtain ⟨fs, ob, ds, rest, e1, e2, e3, e4, e5, n1, n2, n3⟩ := S.fput hM x
  unfold fldD at hf
  rw [e1] at hf
  obtain ⟨hob, rfl⟩ := setFld_eq e1 hI
  obtain ⟨v, hv, sl⟩ := n2 s hf
  obtain ⟨a, rfl, ea, sl2⟩ := sl.isCon hs
  cases ea
  refine ⟨fs, a, e2, hv, sl2, fun u hu r => ?_⟩
  obtain ⟨w, hw, cw⟩ := slAt_con sl2
  obtain ⟨w1, w2, w3, w4, w5⟩ := con_ne cw
  obtain ⟨u1, u2, u3, u4, u5⟩ := con_ne hu
  have hpa : p ≠ a := fun z => by subst z; rw [e2] at hw; cases hw; exact w5 _ _ _ rfl
  have haI : a ∈ G1.aI := e5.mem_iff.mpr (by simp)
  have pb : ∀ b, b ≠ a → H1 b ≠ none → upd H1 a u b = H1 b := fun b hb _ => upd_ne hb
  obtain ⟨as', p1, S2⟩ := n3 (upd H1 a u) (.ref a) s' [a] (by rw [upd_ne hpa, putF_same hv]; exact e2) (by
    cases s' with
    | no => cases r
    | val _ => cases r
    | _ => exact ⟨a, rfl, rfl, r⟩) (fun b _ hb hn => pb b (by simpa using hb) hn) (fun b hb q => by
      rw [List.mem_singleton.mp hb, hw]
      exact fun z => w1 q (Option.some.inj z)) (by simp) (fun b hb => .inl hb) (Tabs.upd S.tb hw w2 w3)
  have mem : ∀ b, b ∈ as' ↔ b ∈ G1.aI := fun b => by rw [p1.mem_iff, e5.mem_iff]
  have aI := xe.aI a haI
  refine ⟨{ G1 with aI := as' }, ⟨fun b o hb h1 h2 t => ?_, fun b hb => ?_, fun b vs hb => ?_, xe.F, xe.Fn, xe.aF, fun b hb => xe.aI b ((mem b).mp hb), xe.M, fun z => by cases z⟩, S2⟩
  · have : b ≠ a := fun z => by
      subst z
      exact aI.elim (fun z => h1.elim (fun z => by cases z) fun q => q z) fun z => by rw [z] at hb; cases hb
    rw [upd_ne this]
    exact xe.keep b o hb h1 h2 t
  · by_cases h : b = a
    · subst h; rw [upd_same] at hb; cases hb
    · rw [upd_ne h] at hb; exact xe.dom b hb
  · by_cases h : b = a
    · subst h; rw [upd_same] at hb; exact absurd (Option.some.inj hb) (u4 _)
    · rw [upd_ne h] at hb; exact xe.tp b vs hb
/-- another thing -/
theorem Sx.fset {k : Nat} {p dx : Addr} {x : Str} {s : Sl} {v : V} {ds' : List Addr} {I' : Is} (xe : ExtS false G H G1 H1) (S : Sx L.c false G1 fr I1 σ H1) (hM : G1.M[k]? = some (p, dx)) (hI : setFld I1 k x s = some I')
    (r : SlV false G1.F G1.M H1 (some v) s ds') (hd : ∀ a ∈ ds', H a = none ∧ G1.F a = none ∧ a ∉ G1.aF ∧ a ∉ G1.aI) (nd : ds'.Nodup) :
    ∃ fs, H1 p = some (.ins L.c.C dx fs) ∧ fs.length < 1000 ∧ ∃ G2, ExtS false G H G2 (upd H1 p (.ins L.c.C dx (putF x v fs))) ∧ Sx L.c false G2 fr I' σ (upd H1 p (.ins L.c.C dx (putF x v fs))) := by
  obtain ⟨fs, ob, ds, rest, e1, e2, e3, e4, e5, n1, n2, n3⟩ := S.fput hM x
  obtain ⟨hob, rfl⟩ := setFld_eq e1 hI
  refine ⟨fs, e2, by omega, ?_⟩
  have hpI := xe.aI p e3
  have hpd : p ∉ ds' := fun z => (hd p z).2.2.2 e3
  obtain ⟨as', p1, S2⟩ := n3 (upd H1 p (.ins L.c.C dx (putF x v fs))) v s ds' upd_same (r.mono (fun _ _ e => e) (List.prefix_refl _) fun a ha o e _ => by
      rw [upd_ne (fun (z : a = p) => hpd (z ▸ ha))]; exact e) (fun b hb _ hn => upd_ne hb) (fun b hb q e => by
      cases h : ob.lookup x with
      | none => rw [n1 h] at hb; cases hb
      | some s0 => obtain ⟨v0, _, sl⟩ := n2 s0 h; exact sl.notOwn b hb q e) nd (fun b hb => .inr (hd b hb).2) (Tabs.upd S.tb e2 (fun _ z => by cases z) fun _ _ z => by unfold LamX.CodeO at z; cases z)
  refine ⟨{ G1 with aI := as' }, ⟨fun b o hb h1 h2 t => ?_, fun b hb => ?_, fun b vs hb => ?_, xe.F, xe.Fn, xe.aF, fun b hb => ?_, xe.M, fun z => by cases z⟩, S2⟩
  · have : b ≠ p := fun z => by
      subst z
      exact hpI.elim (fun z => h1.elim (fun z => by cases z) fun q => q z) fun z => by rw [z] at hb; cases hb
    rw [upd_ne this]
    exact xe.keep b o hb h1 h2 t
  · by_cases h : b = p
    · subst h; rw [upd_same] at hb; cases hb
    · rw [upd_ne h] at hb; exact xe.dom b hb
  · by_cases h : b = p
    · subst h; rw [upd_same] at hb; cases hb
    · rw [upd_ne h] at hb; exact xe.tp b vs hb
  · rcases List.mem_append.mp (p1.mem_iff.mp hb) with hb | hb
    · exact .inr (hd b hb).1
    · exact xe.aI b (e5.mem_iff.mpr (List.mem_append_right _ hb))
end
end Air
/-! Air: statements (3c): stores by a key, into a field. -/
namespace Air
open PySem PySem.Spec PyProof.Rows L2
variable [Kf]
section
variable {L : Lg} {W : WX} {X : Cx} {ro ro' : Bool} {G G1 G2 : Gh} {H H1 H2 : Hp} {σ σ1 : St} {fr fr1 : Fr} {I I1 : Is} {E E' : Ends}
theorem vn_of {i : Nat} {x : Str} {pos : Pos} (h : vnB X.env.scope X.N i x = true) : PE X (.Name x pos) (tVar i) := by
  simp only [vnB, Bool.and_eq_true, decide_eq_true_eq, Bool.not_eq_true'] at h
  exact pe_var h.1.1.1 (vis_of h.1.1.2) h.1.2 h.2
theorem few_ok {cpos : Pos} {a : Expr} {env : Env} (h : notStar a = true) : ((backTo cpos (starEach [a] env)).all (fun x => !x.1) && (backToKw cpos (keywordEach [] env)).all (fun x => x.1.isSome)
      && decide ([a].length + ([] : List Keyword).length + (if ([] : List Keyword).isEmpty then 0 else 1) < 30)) = true := by
  rw [star_of h]; rfl
theorem sw_sub {v a b : Expr} {p : Pos} {l : Nat} {env : Env} : swapsWithSole [.Subscript a b p] v l env = pure false := by
  cases v <;> rfl
theorem st_sub {v a b : Expr} {p : Pos} {env : Env} : swappedStores [.Subscript a b p] v env = pure none := by
  cases v <;> rfl
theorem as_sub {a b : Expr} {p : Pos} {env : Env} (h : notSlc b = true) : ∀ v, assign (.Subscript a b p) env v = (do
      let ov ← holding [v] (eval a env)
      let iv ← holding [v, ov] (eval b env)
      standAt p
      holding [v, ov, iv] (setItem ov iv v)
      release [v, ov, iv] []) := by
  intro v
  cases b <;> first | rfl | cases h
theorem sw_att {v a : Expr} {f : Str} {p : Pos} {l : Nat} {env : Env} : swapsWith v (some (.Attribute a f p)) l env = pure false := by
  cases v <;> rfl
theorem putS_con {c c' : Sl} {q : D × Kd} {d : D} (h : putS c q d = some c') : conS c = true := by
  cases c <;> first | rfl | cases h
theorem ps_putA (g : Good L X W) {i : Nat} {k v : Tm} {y : Str} {z w : Expr} {p p2 pos : Pos} (h1 : vnB X.env.scope X.N i y = true) (h2 : chk L.kn L.kw k X.env.scope X.N z = true) (h3 : chk L.kn L.kw v X.env.scope X.N w = true) (h4 : notSlc z = true) :
    PS X (.Assign [.Subscript (.Name y p) z p2] w pos) (tS L W (.put i k v)) := by
  refine PS.imp (ps_asg ((main_all v).e g h3).1 (pg_sub (vn_of h1) ((main_all k).e g h2).1 (set_con (by have := g.hu; omega)) (as_sub h4)) sw_sub st_sub (by rfl)) fun D σ H q => ?_
  obtain ⟨ro, G, fr, I, S, h⟩ := q
  simp only [exec] at h
  refine te.imp (stm_te S h) ?_
  rintro wv H1 ⟨pv, I1, G1, x, S1, r1, h1⟩
  cases e1 : frzK pv with
  | none => simp only [e1] at h1; exact absurd h1 id
  | some d =>
  cases e2 : fr[i]? with
  | none => simp only [e1, e2] at h1; exact absurd h1 id
  | some c =>
  simp only [e1, e2] at h1
  cases e3 : conS c with
  | false => simp only [e3, cond_false] at h1; exact absurd h1 id
  | true =>
  simp only [e3, cond_true] at h1
  obtain ⟨w', rfl⟩ := r1.w e1
  obtain ⟨G2, _, x2, S2, rv⟩ := frzS_one x.s S1 w'
  obtain ⟨ov, bs, z1, z2, z3⟩ := S2.fr.at_ e2
  obtain ⟨a, rfl, rfl, sl⟩ := z2.isCon e3
  refine ⟨_, z1, ?_⟩
  have h2 := XRel.on x2 h1
  refine te.imp (stm_te S2 h2) ?_
  rintro yv H2 ⟨q, I2, G3, x3, S3, r3, h3⟩
  cases e4 : putS c q pv.1 with
  | none => simp only [e4] at h3; exact absurd h3 id
  | some c' =>
  simp only [e4] at h3
  obtain ⟨ov, bs', y1, y2, y3⟩ := S3.fr.at_ e2
  obtain ⟨a', rfl, hov, sl'⟩ := y2.isCon e3
  rw [z1] at y1
  have : a = a' := by rw [← Option.some.inj y1] at hov; exact V.ref.inj (Option.some.inj hov)
  subst this
  obtain ⟨u, cu, pu, su⟩ := put_con S3 sl' r3 (rv.mono x3.F x3.M) e4
  refine pu _ ?_
  obtain ⟨x4, S4⟩ := Sx.mut x3.s S3 e2 e3 z1 (y3 a (by simp)) cu (su _ upd_same)
  exact h3 _ G3 _ x4 S4
/-- a term that changes nothing -/
theorem stm_teR {t : Tm} {f : D × Kd → Is → Xr} (S : Sx L.c ro G fr I σ H) (h : XRel L W ro G H E ((ev L.cn L.cf t true fr I).stm fr f)) : te L W t σ H (fun v H1 => ∃ p G1, Ext true G H G1 H1 ∧ Sx L.c ro G1 fr I σ H1 ∧ Rk L H G1 H1 p v ∧ XRel L W ro G H E (f p I)) := by
  have St : Sx L.c true G fr I σ H := by
    cases ro with
    | true => exact S
    | false => exact S.weak true
  refine ⟨true, G, fr, I, St, ?_⟩
  have k := (ev_keeps (cn := L.cn) (cf := L.cf) t).1 fr I
  cases e : ev L.cn L.cf t true fr I with
  | ok a I' =>
    rw [e] at h k
    obtain rfl : I' = I := k
    exact fun v G' H' x S' r => ⟨a, G', x, S.strong x S', r, h⟩
  | exc x I' =>
    rw [e] at h k
    obtain rfl : I' = I := k
    exact fun cls d G' H' y S' q => h cls d σ G' H' (y.weak ro).s (S.strong y S') q
  | bad => rw [e] at h; exact h
theorem ins_at {i k : Nat} (S : Sx L.c ro G fr I σ H) (e : fr[i]? = some (.val (.ins k))) : ∃ p dx, σ[i]? = some (some (.ref p)) ∧ G.M[k]? = some (p, dx) := by
  obtain ⟨ov, bs, h1, h2, h3⟩ := S.fr.at_ e
  obtain ⟨_, v, rfl, r⟩ := h2
  cases r with
  | ins hM => exact ⟨_, _, h1, hM⟩
theorem base_fld {i : Nat} {y f : Str} {p p2 : Pos} {m : Str} {env : Env} : attributeBase (.Attribute (.Name y p) f p2) m env (eval (.Attribute (.Name y p) f p2) env) = eval (.Attribute (.Name y p) f p2) env := rfl
theorem pe_fldV (g : Good L X W) {i : Nat} {y f : Str} {p p2 : Pos} (h1 : vnB X.env.scope X.N i y = true) : PE X (.Attribute (.Name y p) f p2) (tFld X.K (tVar i) f) := pe_fld (vn_of h1) rfl
theorem ps_fputA (g : Good L X W) {i : Nat} {k v : Tm} {y f : Str} {z w : Expr} {p p1 p2 pos : Pos} (h1 : vnB X.env.scope X.N i y = true) (hf : L.kn (fkey f) = some (0, 5)) (h2 : chk L.kn L.kw k X.env.scope X.N z = true) (h3 : chk L.kn L.kw v X.env.scope X.N w = true) (h4 : notSlc z = true) :
    PS X (.Assign [.Subscript (.Attribute (.Name y p) f p1) z p2] w pos) (tS L W (.fput i f k v)) := by
  obtain ⟨c1, c2⟩ := g.fl _ hf
  refine PS.imp (ps_asg ((main_all v).e g h3).1 (pg_sub (pe_fldV g h1) ((main_all k).e g h2).1 (set_con (by have := g.hu; omega)) (as_sub h4)) sw_sub st_sub (by rfl)) fun D σ H q => ?_
  obtain ⟨ro, G, fr, I, S, h⟩ := q
  simp only [exec] at h
  cases ro with
  | true => exact absurd h id
  | false =>
  rw [cond_false] at h
  refine te.imp (stm_te S h) ?_
  rintro wv H1 ⟨pv, I1, G1, x, S1, r1, h1⟩
  cases e1 : frzK pv with
  | none => simp only [e1] at h1; exact absurd h1 id
  | some d =>
  cases e2 : fr[i]? with
  | none => simp only [e1, e2] at h1; exact absurd h1 id
  | some c0 =>
  simp only [e1, e2] at h1
  cases c0 <;> first | exact absurd h1 id | skip
  rename_i d0
  cases d0 <;> first | exact absurd h1 id | skip
  rename_i n
  simp only at h1
  cases e3 : fldD I1 n f with
  | none => simp only [e3] at h1; exact absurd h1 id
  | some c =>
  simp only [e3] at h1
  obtain ⟨w', rfl⟩ := r1.w e1
  obtain ⟨G2, _, x2, S2, rv⟩ := frzS_one x.s S1 w'
  obtain ⟨pa, dx, z1, hM⟩ := ins_at S2 e2
  obtain ⟨fs, ob, bs, y1, y2, y3, y4, y5, y6⟩ := S2.is.get hM
  have e3' := e3
  unfold fldD at e3'
  rw [y1] at e3'
  obtain ⟨vf, cs, u1, u2, u3⟩ := (y4.look f).2 c e3'
  refine ⟨_, z1, pa, _, dx, fs, vf, rfl, y2, c1, c2, u1, ?_⟩
  have h2 := XRel.on x2 h1
  refine te.imp (stm_teR S2 h2) ?_
  rintro yv H2 ⟨q, G3, x3, S3, r3, h3⟩
  cases e4 : putS c q pv.1 with
  | none => simp only [e4] at h3; exact absurd h3 id
  | some c' =>
  simp only [e4] at h3
  cases e5 : setFld I1 n f c' with
  | none => simp only [e5] at h3; exact absurd h3 id
  | some I' =>
  simp only [e5] at h3
  have hM3 : G3.M[n]? = some (pa, dx) := pre_get x3.M hM
  obtain ⟨fs', a, k1, k2, k3, k4⟩ := Sx.fmut (x3.weak false).s S3 hM3 e3 (putS_con e4) e5
  have k0 := x3.keep pa _ y2 (.inl rfl) fun ps z => by cases z
  rw [k0] at k1
  cases k1
  rw [u1] at k2
  cases k2
  obtain ⟨u, cu, pu, su⟩ := put_con S3 k3 r3 (rv.mono x3.F x3.M) e4
  refine pu _ ?_
  obtain ⟨G4, x4, S4⟩ := k4 u cu (su _ upd_same)
  exact h3 _ G4 _ x4 S4
theorem ps_fappA (g : Good L X W) {e : Tm} {i : Nat} {y f : Str} {a : Expr} {p p1 apos cpos pos : Pos} (h1 : vnB X.env.scope X.N i y = true) (hf : L.kn (fkey f) = some (0, 5)) (h2 : chk L.kn L.kw e X.env.scope X.N a = true) (h3 : notStar a = true) (h4 : (apos.endLine == cpos.line) = true) :
    PS X (.Expr (.Call (.Attribute (.Attribute (.Name y p) f p1) "append" apos) [a] [] cpos) pos) (tS L W (.fapp i f e)) := by
  obtain ⟨c1, c2⟩ := g.fl _ hf
  refine PS.imp (ps_expr (pe_bm PySem.F.plainAttrs_list PySem.F.slot_list_append PySem.F.type_list_append mt_append (pe_fldV g h1) (pa_cons ((main_all e).e g h2).1 pa_nil (star_of h3 _ X.env)) (by rfl) (few_ok h3) h4 (star_of h3 _ X.env) (by rfl)) (by rfl)) fun D σ H q => ?_
  obtain ⟨ro, G, fr, I, S, h⟩ := q
  simp only [exec] at h
  cases ro with
  | true => exact absurd h id
  | false =>
  rw [cond_false] at h
  cases e2 : fr[i]? with
  | none => simp only [e2] at h; exact absurd h id
  | some c0 =>
  simp only [e2] at h
  cases c0 <;> first | exact absurd h id | skip
  rename_i d0
  cases d0 <;> first | exact absurd h id | skip
  rename_i n
  simp only at h
  cases e3 : fldD I n f with
  | none => simp only [e3] at h; exact absurd h id
  | some c =>
  simp only [e3] at h
  cases c <;> first | exact absurd h id | skip
  rename_i xs
  obtain ⟨pa, dx, z1, hM⟩ := ins_at S e2
  obtain ⟨fs, ob, bs, y1, y2, y3, y4, y5, y6⟩ := S.is.get hM
  have e3' := e3
  unfold fldD at e3'
  rw [y1] at e3'
  obtain ⟨vf, cs, u1, u2, u3⟩ := (y4.look f).2 _ e3'
  obtain ⟨b, rfl, hb, vs0, g2, g3⟩ := u2
  cases hb
  refine ⟨_, z1, pa, _, dx, fs, _, rfl, y2, c1, c2, u1, .inl ⟨rfl, _, .of g2⟩, ?_⟩
  refine te.imp (stm_teR S h) ?_
  rintro v H1 ⟨q, G1, x1, S1, r1, hh⟩
  cases e5 : frzK q with
  | none => rw [e5] at hh; exact absurd hh id
  | some d =>
  rw [e5] at hh
  obtain ⟨w', rfl⟩ := r1.w e5
  cases hl : decide (xs.length < lim) with
  | false => simp only [hl] at hh; exact absurd hh id
  | true =>
  simp only [hl, cond_true] at hh
  cases e6 : setFld I n f (.lst (xs ++ [q.1])) with
  | none => simp only [e6] at hh; exact absurd hh id
  | some I' =>
  simp only [e6] at hh
  obtain ⟨G2, gr, x2, S2, rv⟩ := frzS_one (x1.weak false).s S1 w'
  have hM2 : G2.M[n]? = some (pa, dx) := pre_get x2.M hM
  obtain ⟨fs', a', k1, k2, k3, k4⟩ := Sx.fmut x2 S2 hM2 e3 rfl e6
  have k0 := x1.keep pa _ y2 (.inl rfl) fun ps z => by cases z
  rw [k0] at k1
  cases k1
  rw [u1] at k2
  cases k2
  obtain ⟨vs, l1, l2⟩ := k3
  obtain ⟨G4, x4, S4⟩ := k4 (.lst (vs ++ [v])) (.inl ⟨_, rfl⟩) ⟨_, upd_same, l2.append (.cons rv .nil)⟩
  refine ⟨b, vs, v, rfl, rfl, l1, ?_, hh _ G4 _ x4 S4⟩
  rw [l2.length, ← lim_eq]; exact of_decide_eq_true hl
theorem ps_fsetA (g : Good L X W) {e : Tm} {i : Nat} {y f : Str} {w : Expr} {p p1 pos : Pos} (h1 : vnB X.env.scope X.N i y = true) (hf : L.kn (fkey f) = some (0, 5)) (h2 : chk L.kn L.kw e X.env.scope X.N w = true) :
    PS X (.Assign [.Attribute (.Name y p) f p1] w pos) (tS L W (.fset i f e)) := by
  obtain ⟨c1, c2⟩ := g.fl _ hf
  refine PS.imp (ps_fld (vn_of h1) ((main_all e).e g h2).1 sw_att) fun D σ H q => ?_
  obtain ⟨ro, G, fr, I, S, h⟩ := q
  simp only [exec] at h
  cases ro with
  | true => exact absurd h id
  | false =>
  rw [cond_false] at h
  refine te.imp (stm_te S h) ?_
  rintro wv H1 ⟨pv, I1, G1, x, S1, r1, h1⟩
  cases e1 : stoK true pv with
  | none => simp only [e1] at h1; exact absurd h1 id
  | some s =>
  cases e2 : fr[i]? with
  | none => simp only [e1, e2] at h1; exact absurd h1 id
  | some c0 =>
  simp only [e1, e2] at h1
  cases c0 <;> first | exact absurd h1 id | skip
  rename_i d0
  cases d0 <;> first | exact absurd h1 id | skip
  rename_i n
  simp only at h1
  cases e5 : setFld I1 n f s with
  | none => simp only [e5] at h1; exact absurd h1 id
  | some I' =>
  simp only [e5] at h1
  obtain ⟨pa, dx, z1, hM⟩ := ins_at S1 e2
  obtain ⟨ds', sl, hd, nd⟩ : ∃ ds', SlV false G1.F G1.M H1 (some wv) s ds' ∧ (∀ a ∈ ds', H a = none ∧ G1.F a = none ∧ a ∉ G1.aF ∧ a ∉ G1.aI) ∧ ds'.Nodup := by
    cases r1 with
    | fro r => cases e1; exact ⟨[], ⟨rfl, _, rfl, r⟩, by simp, by simp⟩
    | own e h m => cases e1
    | inst e h m => cases e1
    | cst => cases e1
    | new e3 hs h0 k1 k2 k3 =>
      rename_i d s' a
      have e4 : Sl.inn d = some s := e1
      rw [e3] at e4
      cases e4
      refine ⟨[a], .of e3 hs, fun b hb => ?_, by simp⟩
      rw [List.mem_singleton.mp hb]
      exact ⟨h0, k1, k2, k3⟩
  obtain ⟨fs, k1, k2, G2, x2, S2⟩ := Sx.fset x.s S1 hM e5 sl hd nd
  exact ⟨_, z1, pa, _, dx, fs, rfl, k1, c1, c2, k2, h1 _ G2 _ x2 S2⟩
end
end Air
/-! Air: statements (3d): a look-up that may fail, in a try. -/
namespace Air
open PySem PySem.Spec PyProof.Rows L2
/-- what a try needs of the context -/
structure Fm (X : Cx) : Prop where
  hs : X.stack = X.env :: X.outer
  hf : X.env.frame = some X.env.locals
  hpa : ∀ hd : Option Value, PassesOwnAt (model X.prog X.w) (X.A.mark hd) X.A X.env X.xe
/-- X('m'), for a raise in an except suite -/
theorem pmk5_own {X : Cx} {C : Addr} {bmB : List Value} {B newId initId : String} {x m : Str} {j : Nat} {p p2 pos : Pos} (F : ExcBaseFacts B newId initId bmB) (q : PySem.W.excIn X.K C bmB newId = true) (gC : X.mg x = some (.ref C)) (kC : PySem.W.keepIn X.K (.ref C) = true) (r : Raises X (.ref C)) (hg : Gl X x)
    (hdb : (x == ("__debug__" : Str)) = false) : L2H.PMk5 X (.Call (.Name x p) [.Constant (.str m) j p2] [] pos) (fun _ H Q => Q (.ref C) none H) := by
  intro pins s σ H Q I h
  refine wpAny_Call_Name_kw (ld_glob I hg gC ?_ hdb)
  have ha : PA X [.Constant (.str m) j p2] (tCons (tC (.str m)) tNil) := pa_cons pe_str pa_nil
  refine PySem.W.callWith_K (h₀ := X.base) I.ok.mod.kin kC (thn (ha.run pos pins s σ H (fun vs H1 => vs = [V.str m] ∧ H = H1) I ⟨rfl, rfl⟩) fun us s1 hh => ?_)
  obtain ⟨vs, H1, I1, r1, ev, eH⟩ := hh
  subst ev
  rw [← eH] at I1
  refine ⟨I1.kIn, ?_⟩
  cases r1 with
  | cons ru rn =>
    rename_i u us'
    cases rn
    show wpAny _ _ (call (.ref C) [u]) _ _ _
    obtain ⟨bm, N, nm, qn, bs, hdct, sn, sub, ab, col, dd, k0, k1, k2, k3, k5, mN, hC, hN, hni, T⟩ := exc_obj I1.kIn q
    refine wpAny_call_exc_subT F T hC hN hni (fun h' e hm => ?_) (by show 1 ≤ sizeLine; rw [sizeLine_eq]; omega)
    exact L2H.mk_of5 I1 hm r h (I1.hok.gone hm.new)
/-- d[k] in a try -/
theorem pe_dgetN {X : Cx} {W : WX} {o i : Expr} {td ty : TE} {pos : Pos} (hc : X.calm = true) (hu : X.A.units + 1 < cLine) (tk : L2N.Takes X W) (ho : PE X o td) (hi : PE X i ty) (hs : NoSl i) : PE X (.Subscript o i pos) (tDGetX W td ty) := by
  refine ⟨fun pins s σ H Q I h => ?_⟩
  refine subD_of PySem.F.slot_dict_getitem.lookup hs (thn (ho.run pins s σ H _ I h) fun u s1 ⟨x, H1, I1, rx, q1⟩ => thn (hi.run pins s1 σ H1 _ I1 q1) fun iv s2 ⟨y, H2, I2, ry, a, ov, ex, g, qs, qn⟩ => ?_)
  subst ex
  obtain rfl : u = Value.ref a := rx
  refine ⟨dict_typeIs I2 g, ?_⟩
  cases ov with
  | some v => exact d_getItem hu I2 g ry fun w' s3 I3 rw' => ⟨v, H2, I3, rw', qs v rfl⟩
  | none => exact d_missing hu (I2.ok.hd hc) I2 g ry fun h' e t' ne => L2N.takes_newN (t' := t') tk I2 ne (qn rfl)
variable [Kf]
section
variable {L : Lg} {W : WX} {X : Cx} {ro ro' : Bool} {G G1 G2 : Gh} {H H1 H2 : Hp} {σ σ1 : St} {fr fr1 : Fr} {I I1 : Is} {E E' : Ends}
theorem look_getF {lk : Bool} {c d : D} {kc : Kd} {o : Option D} {H0 : Hp} {v y : V} (S : Sx L.c lk G fr I σ H) (hx : Rk L H0 G H (c, kc) v) (hy : RV G.F G.M y d) (h : lookD c d = some o) :
    ∃ a ov, v = .ref a ∧ DGet H a y ov ∧ LkR G.F G.M o ov := by
  unfold lookD at h
  cases c <;> simp only [reduceCtorEq] at h
  · rename_i ks ds
    obtain ⟨k, hk, rfl⟩ := Option.map_eq_some_iff.mp h
    obtain ⟨a, us, rfl, ha, hl, ra⟩ := hx.dK S
    have q := valV_getV k hl.1 ra
    refine ⟨a, _, rfl, .inl ⟨_, k, ha, ?_, rfl⟩, q⟩
    cases d <;> simp only [Air.ky1, Option.some.injEq, reduceCtorEq] at hk <;> subst hk <;> cases hy <;> rfl
  · rename_i ks ds
    obtain ⟨k, hk, rfl⟩ := Option.map_eq_some_iff.mp h
    obtain ⟨a, us, rfl, ha, hl, ra⟩ := hx.dT S
    have q := valV_getV k hl.1 ra
    cases d <;> simp only [kyT, reduceCtorEq] at hk
    rename_i xs
    cases hy with
    | tup e rs =>
      obtain ⟨e1, _⟩ := kyL_ok rs hk
      subst e1
      exact ⟨a, _, rfl, .inr ⟨_, k, _, ha, rfl, (S.sub _ _ e).tup, rfl⟩, q⟩
def tsRais (W : WX) (C : Addr) : Addr → Value → Option Addr → TS := fun _ _ _ => fun _ σ H => W (.ref C) none σ H
theorem ts_getOr {i j : Nat} {f c : Str} {C : Addr} (hmg : L.mg c = some (.ref C)) (c1 : Cls X.K L.c.C) (c2 : NoAttr X.K L.c.C f) (h : tS L W (.getOr (.fld (.loc i) f) (.loc j) c) E σ H) :
    tRet (tDGetX (L2.wOnly X.K (.type "KeyError") (tsRais W C) W E) (tFld X.K (tVar i) f) (tVar j)) E σ H := by
  obtain ⟨ro, G, fr, I, S, h⟩ := h
  simp only [exec, ev] at h
  cases e1 : fr[i]? with
  | none => simp only [e1] at h; exact absurd h id
  | some s0 =>
  simp only [e1] at h
  cases s0 <;> first | exact absurd h id | skip
  · rename_i d0
    cases d0 <;> first | exact absurd h id | skip
    rename_i n
    have h : XRel L W ro G H E (((match fldD I n f with | some s => (match s.rd with | some q => R.ok q I | none => .bad) | none => .bad) : R (D × Kd)).stm fr fun p I => ((match fr[j]? with
    | some (.val d) => .ok (d, .fro) I
    | some (.lst xs) => .ok (.lst xs, .own) I
    | some (.dK ks vs) => .ok (.dK ks vs, .own) I
    | some (.dT ks vs) => .ok (.dT ks vs, .own) I
    | _ => .bad : R (D × Kd))).stm fr fun q I => (match lookD p.1 q.1 with
    | some (some d) => .rt (.val d) I
    | some none => .exc ⟨c, []⟩ fr I
    | none => .bad)) := h
    obtain ⟨p, dx, z1, hM⟩ := ins_at S e1
    obtain ⟨fs, ob, cs, y1, y2, y3, y4, y5, y6⟩ := S.is.get hM
    cases e2 : fldD I n f with
    | none => rw [e2] at h; exact absurd h id
    | some s =>
    rw [e2] at h
    unfold fldD at e2
    rw [y1] at e2
    obtain ⟨vf, bs, u1, u2, u3⟩ := (y4.look f).2 s e2
    cases e3 : s.rd with
    | none => simp only [e3] at h; exact absurd h id
    | some pk =>
    obtain ⟨c0, kc⟩ := pk
    simp only [e3] at h
    have rk : Rk L H G H (c0, kc) vf := by
      cases s with
      | no => cases e3
      | val dd => cases e3; obtain ⟨_, w, hw, rw'⟩ := u2; cases hw; exact .fro rw'
      | lst xs => cases e3; obtain ⟨a, ha, hw, sl⟩ := u2; cases hw; subst ha; exact .inst (s := .lst xs) rfl sl.any (y5 _ (u3 a (by simp)))
      | dK ks xs => cases e3; obtain ⟨a, ha, hw, sl⟩ := u2; cases hw; subst ha; exact .inst (s := .dK ks xs) rfl sl.any (y5 _ (u3 a (by simp)))
      | dT ks xs => cases e3; obtain ⟨a, ha, hw, sl⟩ := u2; cases hw; subst ha; exact .inst (s := .dT ks xs) rfl sl.any (y5 _ (u3 a (by simp)))
    cases e4 : fr[j]? with
    | none => simp only [e4] at h; exact absurd h id
    | some sj =>
    simp only [e4] at h
    obtain ⟨ov, bs2, w1, w2, w3⟩ := S.fr.at_ e4
    have noC : ∀ d : D, lookD c0 d ≠ none → (∃ i, d = .int i) ∨ (∃ z, d = .str z) ∨ ∃ xs, d = .tup xs := fun d hd => by
      cases d <;> first | exact .inl ⟨_, rfl⟩ | exact .inr (.inl ⟨_, rfl⟩) | exact .inr (.inr ⟨_, rfl⟩) | (exfalso; apply hd; cases c0 <;> rfl)
    cases sj with
    | no => exact absurd h id
    | val dd =>
      obtain ⟨_, y, rfl, ry⟩ := w2
      have h : XRel L W ro G H E (match lookD c0 dd with | some (some d) => .rt (.val d) I | some none => .exc ⟨c, []⟩ fr I | none => .bad) := h
      cases e5 : lookD c0 dd with
      | none => rw [e5] at h; exact absurd h id
      | some o =>
      rw [e5] at h
      obtain ⟨a, ov, rfl, g, lr⟩ := look_getF S rk ry e5
      refine ⟨_, z1, p, _, dx, fs, _, rfl, y2, c1, c2, u1, y, w1, a, ov, rfl, g, fun v hv => ?_, fun hv d => ?_⟩
      · cases o with
        | none =>
          obtain rfl : ov = none := lr
          cases hv
        | some dd2 =>
          obtain ⟨w, ew, rw2⟩ := lr
          rw [hv] at ew
          cases ew
          exact h v fr σ G H .refl S rw2
      · cases o with
        | some dd2 =>
          obtain ⟨w, ew, rw2⟩ := lr
          rw [hv] at ew; cases ew
        | none =>
          exact ⟨true, exm_KE, fun _ a _ => h _ _ σ G H .refl S ⟨hmg, .inl ⟨rfl, rfl⟩⟩, fun z => nomatch z⟩
    | lst xs =>
      have h : XRel L W ro G H E (match lookD c0 (.lst xs) with | some (some d) => .rt (.val d) I | some none => .exc ⟨c, []⟩ fr I | none => .bad) := h
      have : lookD c0 (.lst xs) = none := by cases c0 <;> rfl
      rw [this] at h; exact absurd h id
    | dK ks xs =>
      have h : XRel L W ro G H E (match lookD c0 (.dK ks xs) with | some (some d) => .rt (.val d) I | some none => .exc ⟨c, []⟩ fr I | none => .bad) := h
      have : lookD c0 (.dK ks xs) = none := by cases c0 <;> rfl
      rw [this] at h; exact absurd h id
    | dT ks xs =>
      have h : XRel L W ro G H E (match lookD c0 (.dT ks xs) with | some (some d) => .rt (.val d) I | some none => .exc ⟨c, []⟩ fr I | none => .bad) := h
      have : lookD c0 (.dT ks xs) = none := by cases c0 <;> rfl
      rw [this] at h; exact absurd h id
theorem ps_getOrA (g : Good L X W) (m : Fm X) {i j : Nat} {y z f c : Str} {k5 k6 : Nat} {msg : Str} {p1 p2 p3 p4 p5 p6 p7 p8 p9 p10 p11 p12 pos : Pos} (h1 : vnB X.env.scope X.N i y = true) (hf : L.kn (fkey f) = some (0, 5)) (h2 : vnB X.env.scope X.N j z = true) (hk : Gl X "KeyError") (hx : Gl X c) (hdb : (c == ("__debug__" : Str)) = false) (h3 : L.kn c = some (0, 3)) :
    PS X (.Try [.Return (some (.Subscript (.Attribute (.Name y p1) f p2) (.Name z p3) p4)) p5] [.ExceptHandler (some (.Name "KeyError" p6)) none [.Raise (some (.Call (.Name c p7) [.Constant (.str msg) k5 p8] [] p9)) (some (.Constant .none k6 p10)) p11] p12] [] [] pos) (tS L W (.getOr (.fld (.loc i) f) (.loc j) c)) := by
  obtain ⟨c1, c2⟩ := g.fl _ hf
  obtain ⟨C, e1, e2, e3, e4⟩ := g.xc _ h3
  refine PS.imp (L2H.ps_try_onlyX (x := "KeyError") (c := .type "KeyError") (tb := fun W' => tRet (tDGetX W' (tFld X.K (tVar i) f) (tVar j))) (ts := tsRais W C) m.hs m.hf ⟨hk, by decide +kernel, .inr ⟨g.mg ▸ g.bi _ (by decide +kernel), boot_KeyError, by decide⟩⟩ m.hpa g.tk ?_ ?_) fun D σ H q => ts_getOr e1 c1 c2 q
  · intro W' pn xe tkN tk2 hpo
    exact pss_one (ps_ret (pe_dgetN (X := X.tr pn xe) g.calm (by have := g.hu; show X.A.units + 1 < cLine; omega) tkN (pe_fld (X := X.tr pn xe) (vn_of (X := X.tr pn xe) h1) rfl) (vn_of (X := X.tr pn xe) h2) (fun _ _ => rfl)))
  · intro a oe cls d pn hz hfl tk hot
    exact pss_one (L2H.ps_raiseHN hot tk (pmk5_own (bmB := He.veBase) PySem.F.excBase_ValueError (g.K ▸ e2) (g.mg ▸ e1) (g.K ▸ e3) e4 hx hdb))
end
end Air
/-! Air: statements (4): the main theorem. -/
namespace Air
open PySem PySem.Spec PyProof.Rows L2
variable [Kf]
section
variable {L : Lg} {W : WX} {X : Cx} {ro ro' : Bool} {G G1 G2 : Gh} {H H1 H2 : Hp} {σ σ1 : St} {fr fr1 : Fr} {I I1 : Is} {E E' : Ends}
theorem tupPos {fb : Str → Bool} {sc : Scope} {N : List Str} {is : List Nat} {ts : List Expr} {k k2 : Nat} {p p2 : Pos} (h : tgB fb sc N (.tp is) (.Tuple ts k p) = true) : tgB fb sc N (.tp is) (.Tuple ts k2 p2) = true := h
theorem ps_parA (g : Good L X W) {fb : Str → Bool} (hf : ∀ x, fb x = true → X.fn x = true) {tg : List (Nat × Bool)} {es : Tm} {ts vs : List Expr} {k k2 : Nat} {p p2 pos : Pos} (h1 : chkK L.kn L.kw es X.env.scope X.N vs = true) (h2 : fnKind X.env.scope = true) (h3 : parB X.env.scope X.N tg ts vs = true ∨ parT fb X.env.scope X.N tg ts vs = true) :
    PS X (.Assign [.Tuple ts k p] (.Tuple vs k2 p2) pos) (tS L W (.par tg es)) := by
  have hst := chkK_star h1
  have pa := (main_all es).a g h1
  rcases h3 with h3 | h3
  · unfold parB at h3
    split at h3
    · rename_i i _ j _ x px y py a b
      simp only [Bool.and_eq_true, decide_eq_true_eq, Bool.not_eq_true'] at h3
      obtain ⟨⟨⟨⟨⟨⟨⟨⟨a1, a2⟩, a3⟩, a4⟩, a5⟩, a6⟩, a7⟩, a8⟩, a9⟩ := h3
      refine PS.imp (ps_par g.calm g.nd a1 a2 a3 a4 a5 pa (sw_par2 (kind_of h2) a4 a5 a6 a7 (hst a (by simp)) (hst b (by simp)) a8 a9) (by rfl)) fun D σ H q => ?_
      obtain ⟨ro, G, fr, I, S, q⟩ := ts_par q
      refine ⟨ro, G, fr, I, S, q.imp (fun _ _ _ _ r => r) ?_⟩
      rintro ws H1 ⟨l, _, h⟩
      match ws, l with
      | [v, w], _ => exact ⟨v, w, rfl, h⟩
    · rename_i i _ j _ l _ x px y py z pz a b c
      simp only [Bool.and_eq_true, decide_eq_true_eq, Bool.not_eq_true'] at h3
      obtain ⟨⟨⟨⟨⟨⟨⟨⟨⟨⟨⟨⟨⟨⟨⟨a1, a2⟩, a3⟩, a4⟩, a5⟩, a6⟩, a7⟩, a8⟩, a9⟩, b1⟩, b2⟩, b3⟩, b4⟩, b5⟩, b6⟩, b7⟩ := h3
      refine PS.imp (ps_par3 g.calm g.nd a1 a2 a3 a4 a5 a6 a7 a8 a9 pa (sw_par3 (kind_of h2) a7 a8 a9 b1 b2 b3 b4 b5 (hst a (by simp)) (hst b (by simp)) (hst c (by simp)) b6 b7) (by rfl)) fun D σ H q => ?_
      obtain ⟨ro, G, fr, I, S, q⟩ := ts_par q
      refine ⟨ro, G, fr, I, S, q.imp (fun _ _ _ _ r => r) ?_⟩
      rintro ws H1 ⟨l, _, h⟩
      match ws, l with
      | [v, w, u], _ => exact ⟨v, w, u, rfl, h⟩
    · cases h3
  · simp only [parT, Bool.and_eq_true, Bool.or_eq_true, decide_eq_true_eq] at h3
    obtain ⟨⟨⟨a1, a2⟩, a3⟩, a4⟩ := h3
    have hlen : tg.length = ts.length := by
      simp only [tgB, Bool.and_eq_true, decide_eq_true_eq, List.length_map] at a1
      exact a1.1
    refine PS.imp (ps_asg (pe_tup pa) (pg_A g.calm g.nd hf (tupPos a1)) (by rfl) (sw_parT (a3.elim (fun z => z.elim .inl fun z => .inr (.inl z)) fun z => .inr (.inr z))) (by rfl)) fun D σ H q => ?_
    obtain ⟨ro, G, fr, I, S, q⟩ := ts_par q
    refine ⟨ro, G, fr, I, S, q.imp (fun _ _ _ _ r => r) ?_⟩
    rintro ws H1 ⟨l, h, _⟩
    refine ⟨?_, fun p hp => ⟨p, ws, rfl, .inl (.of upd_same), by rw [List.length_map]; exact l, ?_⟩⟩
    · rw [l, hlen]
      have : (100 : Nat) ≤ sizeLine := by decide
      omega
    · rw [← fold_map]
      exact h p _ hp
theorem notTup_sw {ts : List Expr} {k : Nat} {p : Pos} {v : Expr} {env : Env} (h : notTup v = true) : swappedStores [.Tuple ts k p] v env = pure none := by
  cases v <;> first | rfl | cases h
theorem ps_unpA (g : Good L X W) {fb : Str → Bool} (hf : ∀ x, fb x = true → X.fn x = true) {tg : List Nat} {e : Tm} {ts : List Expr} {v : Expr} {k : Nat} {p pos : Pos} (h1 : tgB fb X.env.scope X.N (.tp tg) (.Tuple ts k p) = true) (h2 : chk L.kn L.kw e X.env.scope X.N v = true) (h3 : notComp v = true) (h4 : notTup v = true) :
    PS X (.Assign [.Tuple ts k p] v pos) (tS L W (.unp tg e)) := by
  refine PS.imp (ps_asg ((main_all e).e g h2).1 (pg_A g.calm g.nd hf h1) (show swapsWith v (some (.Tuple ts k p)) pos.line X.env = pure false from sw_no h3) (notTup_sw h4) (by rfl)) fun D σ H q => ?_
  obtain ⟨ro, G, fr, I, S, h⟩ := q
  simp only [exec] at h
  refine te.imp (stm_te S h) ?_
  rintro w H1 ⟨q, I1, G1, x, S1, r1, h1⟩
  cases e1 : frzK q with
  | none => rw [e1] at h1; exact absurd h1 id
  | some d =>
    rw [e1] at h1
    obtain ⟨w', rfl⟩ := r1.w e1
    obtain ⟨G2, _, x2, S2, rv⟩ := frzS_one x.s S1 w'
    cases e2 : asgT (.tp tg) q.1 fr with
    | none => simp only [e2] at h1; exact absurd h1 id
    | some fr' =>
      simp only [e2] at h1
      exact gA_run S2 rv e2 fun σ' bs fb' sb _ => h1 σ' { G2 with aF := bs } H1 (x2.frame fun a ha => x2.aF a (sb.subset ha)) (S2.frame fb' sb)
/-! ### append, extend -/
theorem lst_at {i : Nat} {xs : List D} (S : Sx L.c ro G fr I σ H) (e : fr[i]? = some (.lst xs)) : ∃ a vs, σ[i]? = some (some (.ref a)) ∧ H a = some (.lst vs) ∧ RVs G.F G.M vs xs ∧ a ∈ G.aF := by
  obtain ⟨ov, bs, h1, h2, h3⟩ := S.fr.at_ e
  obtain ⟨a, rfl, rfl, vs, e1, r⟩ := h2
  exact ⟨a, vs, h1, e1, r, h3 a (by simp)⟩
theorem set_lst {i : Nat} {xs ys : List D} {a : Addr} {vs ws : List V} (x : ExtS ro G H G1 H1) (S : Sx L.c ro G1 fr I1 σ H1) (e : fr[i]? = some (.lst xs)) (e2 : σ[i]? = some (some (.ref a))) (ha : a ∈ G1.aF) (hv : H1 a = some (.lst vs)) (r : RVs G1.F G1.M ws ys) :
    ExtS ro G H G1 (upd H1 a (.lst ws)) ∧ Sx L.c ro G1 (fr.set i (.lst ys)) I1 σ (upd H1 a (.lst ws)) := Sx.mut x S e rfl e2 ha (.inl ⟨_, rfl⟩) ⟨ws, upd_same, r⟩
theorem ps_appA (g : Good L X W) {e : Tm} {i : Nat} {x : Str} {a : Expr} {p apos cpos pos : Pos} (h1 : vnB X.env.scope X.N i x = true) (h2 : chk L.kn L.kw e X.env.scope X.N a = true) (h3 : notStar a = true) (h4 : (apos.endLine == cpos.line) = true) :
    PS X (.Expr (.Call (.Attribute (.Name x p) "append" apos) [a] [] cpos) pos) (tS L W (.app i e)) := by
  refine PS.imp (ps_expr (pe_bm PySem.F.plainAttrs_list PySem.F.slot_list_append PySem.F.type_list_append mt_append (vn_of h1) (pa_cons ((main_all e).e g h2).1 pa_nil (star_of h3 _ X.env)) (by rfl) (few_ok h3) h4 (star_of h3 _ X.env) (by rfl)) (by rfl)) fun D σ H q => ?_
  obtain ⟨ro, G, fr, I, S, h⟩ := q
  simp only [exec] at h
  cases e1 : fr[i]? with
  | none => rw [e1] at h; exact absurd h id
  | some s =>
    rw [e1] at h
    cases s with
    | lst xs =>
      obtain ⟨b, vs, g1, g2, g3, g4⟩ := lst_at S e1
      refine ⟨_, g1, .inl ⟨rfl, _, .of g2⟩, ?_⟩
      refine te.imp (stm_te S h) ?_
      rintro v H1 ⟨q, I1, G1, y, S1, r1, hh⟩
      cases e2 : frzK q with
      | none => rw [e2] at hh; exact absurd hh id
      | some d =>
        rw [e2] at hh
        obtain ⟨w', rfl⟩ := r1.w e2
        obtain ⟨G2, gr, x2, S2, rv⟩ := frzS_one y.s S1 w'
        obtain ⟨b', vs', k1, k2, k3, k4⟩ := lst_at S2 e1
        have : b = b' := by rw [g1] at k1; exact V.ref.inj (Option.some.inj (Option.some.inj k1))
        subst this
        cases hl : decide (xs.length < lim) with
        | false => simp only [hl] at hh; exact absurd hh id
        | true =>
          simp only [hl] at hh
          obtain ⟨x3, S3⟩ := set_lst x2 S2 e1 g1 k4 k2 (k3.append (.cons rv .nil))
          refine ⟨b, vs', v, rfl, rfl, k2, ?_, hh _ G2 _ x3 S3⟩
          rw [k3.length, ← lim_eq]; exact of_decide_eq_true hl
    | _ => exact absurd h id
def rRemS : V → List V → Hp → VK → Prop := fun x xs H Q => ∃ (l : Addr) (zs : List Str) (z : Str), x = .ref l ∧ xs = [.str z] ∧ H l = some (.lst (zs.map V.str)) ∧ z ∈ zs ∧ Q .non (upd H l (.lst ((zs.eraseIdx (zs.idxOf z)).map V.str)))
theorem eraseIdx_mapS : ∀ (l : List Str) (j : Nat), (l.map V.str).eraseIdx j = (l.eraseIdx j).map V.str
  | [], j => by simp
  | a :: r, 0 => by simp
  | a :: r, j + 1 => by simp [eraseIdx_mapS r j]
theorem strsAt : ∀ {us : List Value} {zs : List Str}, StrsAre us zs → ∀ (i : Nat) (h : i < us.length) (z : Str), isStrOf z us[i] = true ↔ zs[i]? = some z
  | _, _, .nil, i, h, _ => absurd h (by simp)
  | _, _, .cons n t hr, 0, _, z => by
    show (n == z) = true ↔ some n = some z
    rw [beq_iff_eq, Option.some_inj]
  | _, _, .cons n t hr, i + 1, h, z => strsAt hr i (Nat.lt_of_succ_lt_succ h) z
theorem idxOf_first {zs : List Str} {z : Str} (h : z ∈ zs) : zs.idxOf z < zs.length ∧ zs[zs.idxOf z]? = some z ∧ ∀ i, i < zs.idxOf z → zs[i]? ≠ some z := by
  have hl := List.idxOf_lt_length_of_mem h
  refine ⟨hl, by rw [List.getElem?_eq_getElem hl, List.getElem_idxOf], fun i hi e => ?_⟩
  have hil : i < zs.length := by omega
  rw [List.getElem?_eq_getElem hil] at e
  have := List.not_of_lt_findIdx (xs := zs) (p := (· == z)) hi
  simp at this
  exact this (Option.some.inj e)
theorem mt_removeS : MtM X "list.remove" rRemS := by
  intro pins s σ H x xs v us Q I rx rxs h
  obtain ⟨l, zs, z, rfl, rfl, hH, hz, q⟩ := h
  cases rx
  obtain ⟨u, rfl, ru⟩ := rxs.one
  obtain ⟨t, rfl⟩ := ru
  obtain ⟨zz, its, n, r, hl, e⟩ := I.lstM hH
  have hi : StrsAre its zs := strs_of_vals r
  rw [List.length_map] at hl zz
  obtain ⟨j1, j2, j3⟩ := idxOf_first hz
  have hjl : zs.idxOf z < its.toArray.size := by rw [List.size_toArray]; omega
  have hsz : its.toArray.size ≤ sizeLine := by rw [List.size_toArray, ← hl]; exact zz
  refine call_meets PySem.F.slot_list_remove ⟨_, e, rfl⟩ PySem.F.entry_list_remove (PySem.F.args_list_remove_2 _ _)
    (MeetsSeq.list_remove l its.toArray n (.str z t) (isStrOf z) (fun y hy => eq_isStrOf z t hi y (by simpa using hy)) (zs.idxOf z) hjl ?_ ?_ hsz) ⟨e, ?_⟩
  · have hj : zs.idxOf z < its.length := by omega
    show isStrOf z its[zs.idxOf z] = true
    exact (strsAt hi _ hj z).mpr j2
  · intro m hm hmj
    have hml : m < its.length := by rw [List.size_toArray] at hm; exact hm
    show isStrOf z its[m] = false
    rw [Bool.eq_false_iff]
    intro w
    exact j3 m hmj ((strsAt hi m hml z).mp w)
  · have rr := r.eraseIdx (zs.idxOf z)
    rw [eraseIdx_mapS] at rr
    refine ⟨.non, _, I.lset (its' := its.eraseIdx (zs.idxOf z)) (t' := s.toks) hH e ?_ rr ?_, rfl, q⟩
    · show its.toArray.eraseIdxIfInBounds (zs.idxOf z) = (its.eraseIdx (zs.idxOf z)).toArray
      rw [List.eraseIdxIfInBounds_toArray]
    · have z2 := List.length_eraseIdx_le zs (zs.idxOf z)
      rw [List.length_map]
      omega
theorem RVs.eraseIdx {F : Addr → Option HO} {M : List (Addr × Addr)} : ∀ {vs : List V} {ds : List D} (j : Nat), RVs F M vs ds → RVs F M (vs.eraseIdx j) (ds.eraseIdx j)
  | _, _, j, .nil => by simpa using RVs.nil
  | _, _, 0, .cons r rs => rs
  | _, _, j + 1, .cons r rs => .cons r (RVs.eraseIdx j rs)
theorem ps_remA (g : Good L X W) {e : Tm} {i : Nat} {x : Str} {a : Expr} {p apos cpos pos : Pos} (h1 : vnB X.env.scope X.N i x = true) (h2 : chk L.kn L.kw e X.env.scope X.N a = true) (h3 : notStar a = true) (h4 : (apos.endLine == cpos.line) = true) :
    PS X (.Expr (.Call (.Attribute (.Name x p) "remove" apos) [a] [] cpos) pos) (tS L W (.rem i e)) := by
  refine PS.imp (ps_expr (pe_bm PySem.F.plainAttrs_list PySem.F.slot_list_remove PySem.F.type_list_remove mt_removeS (vn_of h1) (pa_cons ((main_all e).e g h2).1 pa_nil (star_of h3 _ X.env)) (by rfl) (few_ok h3) h4 (star_of h3 _ X.env) (by rfl)) (by rfl)) fun D σ H q => ?_
  obtain ⟨ro, G, fr, I, S, h⟩ := q
  simp only [exec] at h
  cases e1 : fr[i]? with
  | none => rw [e1] at h; exact absurd h id
  | some s =>
    rw [e1] at h
    cases s with
    | lst xs =>
      obtain ⟨b, vs, g1, g2, g3, g4⟩ := lst_at S e1
      refine ⟨_, g1, .inl ⟨rfl, _, .of g2⟩, ?_⟩
      refine te.imp (stm_te S h) ?_
      rintro v H1 ⟨⟨d, k⟩, I1, G1, y, S1, r1, hh⟩
      cases d with
      | str z =>
        cases e3 : strsD xs with
        | none => simp only [e3] at hh; exact absurd hh id
        | some zs =>
          cases hz : decide (z ∈ zs) with
          | false => simp only [e3, hz] at hh; exact absurd hh id
          | true =>
            simp only [e3, hz] at hh
            obtain ⟨rfl, _⟩ := r1.str
            obtain ⟨b', vs', k1, k2, k3, k4⟩ := lst_at S1 e1
            have : b = b' := by rw [g1] at k1; exact V.ref.inj (Option.some.inj (Option.some.inj k1))
            subst this
            have hv := k3.strsD e3
            subst hv
            have k5 := RVs.eraseIdx (zs.idxOf z) k3
            rw [eraseIdx_mapS] at k5
            obtain ⟨x3, S3⟩ := set_lst y.s S1 e1 g1 k4 k2 k5
            exact ⟨b, zs, z, rfl, rfl, k2, of_decide_eq_true hz, hh _ G1 _ x3 S3⟩
      | _ => exact absurd hh id
    | _ => exact absurd h id
theorem ps_extA (g : Good L X W) {e : Tm} {i : Nat} {x : Str} {a : Expr} {p apos cpos pos : Pos} (h1 : vnB X.env.scope X.N i x = true) (h2 : chk L.kn L.kw e X.env.scope X.N a = true) (h3 : notStar a = true) (h4 : (apos.endLine == cpos.line) = true) :
    PS X (.Expr (.Call (.Attribute (.Name x p) "extend" apos) [a] [] cpos) pos) (tS L W (.ext i e)) := by
  refine PS.imp (ps_expr (pe_bm PySem.F.plainAttrs_list PySem.F.slot_list_extend PySem.F.type_list_extend mt_extend (vn_of h1) (pa_cons ((main_all e).e g h2).1 pa_nil (star_of h3 _ X.env)) (by rfl) (few_ok h3) h4 (star_of h3 _ X.env) (by rfl)) (by rfl)) fun D σ H q => ?_
  obtain ⟨ro, G, fr, I, S, h⟩ := q
  simp only [exec] at h
  cases e1 : fr[i]? with
  | none => rw [e1] at h; exact absurd h id
  | some s =>
    rw [e1] at h
    cases s with
    | lst xs =>
      obtain ⟨b, vs, g1, g2, g3, g4⟩ := lst_at S e1
      refine ⟨_, g1, .inl ⟨rfl, _, .of g2⟩, ?_⟩
      refine te.imp (stm_te S h) ?_
      rintro v H1 ⟨⟨d, k⟩, I1, G1, y, S1, r1, hh⟩
      cases d with
      | lst ys =>
        obtain ⟨c, us, rfl, u1, u2⟩ := r1.lst S1
        obtain ⟨b', vs', k1, k2, k3, k4⟩ := lst_at S1 e1
        have : b = b' := by rw [g1] at k1; exact V.ref.inj (Option.some.inj (Option.some.inj k1))
        subst this
        cases hl : decide (xs.length + ys.length ≤ lim) with
        | false => simp only [hl] at hh; exact absurd hh id
        | true =>
          simp only [hl] at hh
          obtain ⟨x3, S3⟩ := set_lst y.s S1 e1 g1 k4 k2 (k3.append u2)
          refine ⟨b, c, vs', us, rfl, rfl, k2, u1, ?_, hh _ G1 _ x3 S3⟩
          rw [k3.length, u2.length, ← lim_eq]; exact of_decide_eq_true hl
      | _ => exact absurd hh id
    | _ => exact absurd h id
/-! ### loops -/
theorem XRel.at {r : Xr} (x : Ext ro G H G1 H1) (S1 : Sx L.c ro G1 fr I1 σ H1) (hr : ro' = ro ∨ ro' = true ∧ r.keeps I1) (h : XRel L W ro G H E r) : XRel L W ro' G1 H1 E r := by
  rcases hr with rfl | ⟨rfl, hk⟩
  · exact h.on x.s
  · have h := h.on x.s
    cases r with
    | nx fr' I' => obtain rfl : I' = I1 := hk; exact fun σ' G' H' y S => h σ' G' H' (y.weak ro) (S1.strongS y S)
    | bk fr' I' => obtain rfl : I' = I1 := hk; exact fun σ' G' H' y S => h σ' G' H' (y.weak ro) (S1.strongS y S)
    | ct fr' I' => obtain rfl : I' = I1 := hk; exact fun σ' G' H' y S => h σ' G' H' (y.weak ro) (S1.strongS y S)
    | rt s I' => obtain rfl : I' = I1 := hk; exact fun v fr' σ' G' H' y S q => h v fr' σ' G' H' (y.weak ro) (S1.strongS y S) q
    | exc e fr' I' => obtain rfl : I' = I1 := hk; exact fun cls d σ' G' H' y S q => h cls d σ' G' H' (y.weak ro) (S1.strongS y S) q
    | bad => exact h
theorem for_core {tg : Tg} {body : Sm} {K : PySem.W.Frag} {p : List D × Kd} {J : It} (ho : p.2 ≠ .own) (x : Ext ro G H G1 H1) (S1 : Sx L.c ro G1 fr I1 σ H1) (wk : WkR G1 H1 p J)
    (h1 : XRel L W ro G H E (forL (fun fr I => exec L.cn L.cf body (ro || isInst p.2) fr I) tg p.1 fr I1)) : tFor (fun _ _ R => R J H1) (gA K tg) (tS L W body) E σ H := by
  obtain ⟨src, Gd, Y, w, w1, w2, w3⟩ := wk
  generalize hro : (ro || isInst p.2) = ro' at h1
  have S1' : Sx L.c ro' G1 fr I1 σ H1 := by
    cases ro' with
    | false => simp only [Bool.or_eq_false_iff] at hro; rw [hro.1] at S1; exact S1
    | true => cases ro with
      | true => exact S1
      | false => exact S1.weak true
  have h1 : XRel L W ro' G1 H1 E (forL (fun fr I => exec L.cn L.cf body ro' fr I) tg p.1 fr I1) := by
    refine XRel.at x S1 ?_ h1
    cases ro' with
    | true => exact .inr ⟨rfl, keeps_forL (fun fr => exec_keeps body fr I1) _ _⟩
    | false =>
      simp only [Bool.or_eq_false_iff] at hro
      exact .inl hro.1.symm
  have srcK : ∀ {Gc : Gh} {Hc : Hp}, ExtS ro' G1 H1 Gc Hc → ∀ a ∈ src, Kp H1 Hc a := fun y a ha o e t => y.keep a o e (by
    rcases (w1 a ha).2.1 with z | z
    · left; rw [← hro, z]; simp [isInst]
    · exact .inr z) ((w1 a ha).2.2.resolve_left ho) t
  refine for_it w (fun j σc Hc => ∃ (Gc : Gh) (frc : Fr) (Ic : Is), ExtS ro' G1 H1 Gc Hc ∧ Sx L.c ro' Gc frc Ic σc Hc ∧ XRel L W ro' G1 H1 E (forL (fun fr I => exec L.cn L.cf body ro' fr I) tg (p.1.drop j) frc Ic)) ?_ ?_ ?_ ?_
  · exact ⟨G1, fr, I1, .refl, S1', h1⟩
  · rintro j σc Hc _ ⟨Gc, frc, Ic, y, _, _⟩
    exact w2 Gc Hc y.F y.M (srcK y)
  · rintro j v σc Hc H' hj ⟨Gc, frc, Ic, y, Sc, hr⟩ hy
    obtain ⟨d, hd, yl⟩ := w3 j v Hc H' Gc hj y.F y.M (srcK y) hy
    obtain ⟨G3, y3, S3, r3⟩ : ∃ G3, ExtS ro' G1 H1 G3 H' ∧ Sx L.c ro' G3 frc Ic σc H' ∧ RV G3.F G3.M v d := by
      rcases yl with ⟨rfl, r⟩ | ⟨T, ws, es, rfl, hT, rfl, rfl, r⟩ | ⟨T, ws, es, rfl, hT, rfl, rfl, r⟩
      · exact ⟨Gc, y, Sc, r⟩
      · exact ⟨Gc.put T (.tup ws), (y.trans (Ext.new hT).s).put (.inl (y.dom _ hT)) (Sc.notF hT), (Sc.new hT).freeze trivial (.inl upd_same) (Sc.notFr hT) (Sc.notIs hT) (Sc.notF hT), .tup upd_same (r.mono (put_mono (Sc.notF hT)) (List.prefix_refl _))⟩
      · obtain ⟨G3, g3, S3, r3, ne3, _, x3⟩ := tup_known Sc hT r
        exact ⟨G3, x3 y, S3, r3⟩
    have hdrop : p.1.drop j = d :: p.1.drop (j + 1) := by
      obtain ⟨hj2, e⟩ := List.getElem?_eq_some_iff.mp hd
      rw [List.drop_eq_getElem_cons hj2, e]
    rw [hdrop] at hr
    unfold forL at hr
    cases ea : asgT tg d frc with
    | none => rw [ea] at hr; exact absurd hr id
    | some fr' =>
      rw [ea] at hr
      simp only at hr
      refine gA_run S3 r3 ea fun σ' bs fb sb _ => ?_
      have S4 : Sx L.c ro' { G3 with aF := bs } fr' Ic σ' H' := S3.frame fb sb
      have y4 := y3.frame (bs := bs) fun a ha => y3.aF a (sb.subset ha)
      refine ⟨ro', _, fr', Ic, S4, ?_⟩
      cases eb : exec L.cn L.cf body ro' fr' Ic with
      | nx fr5 I5 => rw [eb] at hr; exact fun σ5 G5 H5 z S5 => ⟨G5, fr5, I5, y4.trans z, S5, hr⟩
      | ct fr5 I5 => rw [eb] at hr; exact fun σ5 G5 H5 z S5 => ⟨G5, fr5, I5, y4.trans z, S5, hr⟩
      | bk fr5 I5 => rw [eb] at hr; exact fun σ5 G5 H5 z S5 => hr σ5 G5 H5 (y4.trans z) S5
      | rt s I5 => rw [eb] at hr; exact fun v5 fr5 σ5 G5 H5 z S5 q => hr v5 fr5 σ5 G5 H5 (y4.trans z) S5 (q.on y4)
      | exc e5 fr5 I5 => rw [eb] at hr; exact fun cls d5 σ5 G5 H5 z S5 q => hr cls d5 σ5 G5 H5 (y4.trans z) S5 q
      | bad => rw [eb] at hr; exact hr
  · rintro σc Hc ⟨Gc, frc, Ic, y, Sc, hr⟩
    rw [List.drop_length] at hr
    exact hr σc Gc Hc y Sc
theorem ts_for {tg : Tg} {it : Tm} {body : Sm} {K : PySem.W.Frag} (h : tS L W (.for tg it body) E σ H) : tFor (ti L W it) (gA K tg) (tS L W body) E σ H := by
  obtain ⟨ro, G, fr, I, S, h⟩ := h
  simp only [exec] at h
  obtain ⟨ro2, G2, fr2, I2, S2, h2⟩ := stm_ti S h
  refine ⟨ro2, G2, fr2, I2, S2, h2.imp (fun _ _ _ _ r => r) ?_⟩
  rintro J H1 ⟨p, I1, G1, x, S1, wk, h1, _⟩
  cases ho : decide (p.2 = .own) with
  | true => rw [ho] at h1; exact absurd h1 id
  | false =>
  rw [ho, cond_false] at h1
  have ho := of_decide_eq_false ho
  exact for_core (K := K) ho x S1 wk h1
/-! ### walks over dicts -/
theorem ExtS.unlock {d : Addr} {u : HO} {od : Obj} (x : ExtS ro G (upd H d (.frz od u)) G2 H2) (hd : H d = some u) (hu : IsDO u) (h2 : H2 d = some (.frz od u)) : ExtS ro G H G2 (upd H2 d u) := by
  obtain ⟨n1, n2, n3, n4, n5⟩ := isDO_ne hu
  have nn : ∀ {a}, upd H d (.frz od u) a = none → H a = none := fun {a} z => by
    by_cases ha : a = d
    · subst ha; rw [upd_same] at z; cases z
    · rw [upd_ne ha] at z; exact z
  have old : ∀ {a}, Old (upd H d (.frz od u)) a → Old H a := fun {a} z => by
    by_cases ha : a = d
    · subst ha; rcases z with z | ⟨_, z⟩ <;> rw [upd_same] at z <;> cases z
    · unfold Old at z ⊢; rw [upd_ne ha] at z; exact z
  refine ⟨fun a o e h hF t => ?_, fun a e => ?_, fun a vs e => ?_, x.F, fun a w e => (x.Fn a w e).imp id (Or.imp old id), fun a ha => (x.aF a ha).imp id nn, fun a ha => (x.aI a ha).imp id nn, x.M, x.ro⟩
  · by_cases ha : a = d
    · subst ha; rw [upd_same]; rw [← e, hd]
    · rw [upd_ne ha]; exact x.keep a o (by rw [upd_ne ha]; exact e) h hF t
  · by_cases ha : a = d
    · subst ha; rw [upd_same] at e; cases e
    · rw [upd_ne ha] at e; have := x.dom a e; rw [upd_ne ha] at this; exact this
  · by_cases ha : a = d
    · subst ha; rw [upd_same] at e; cases e; exact absurd rfl (n5 _)
    · rw [upd_ne ha] at e; have := x.tp a vs e; rw [upd_ne ha] at this; exact this
def lockE (d : Addr) (u : HO) (od : Obj) (D : Ends) : Ends := ⟨fun σ' H' => H' d = some (.frz od u) ∧ D.nx σ' (upd H' d u), fun v H' => H' d = some (.frz od u) ∧ D.rt v (upd H' d u), fun σ' H' => H' d = some (.frz od u) ∧ D.bk σ' (upd H' d u), fun σ' H' => H' d = some (.frz od u) ∧ D.ct σ' (upd H' d u)⟩
theorem XRel.unlock {d : Addr} {u : HO} {od : Obj} {r : Xr} (hd : H d = some u) (hu : IsDO u) (nF : d ∉ G.aF) (nI : ro = true ∨ d ∉ G.aI) (h : XRel L W ro G H E (forDq r)) : XRel L W ro G (upd H d (.frz od u)) (lockE d u od E) r := by
  have hl : upd H d (.frz od u) d = some (.frz od u) := upd_same
  have kd : ∀ {G' : Gh} {H' : Hp}, ExtS ro G (upd H d (.frz od u)) G' H' → H' d = some (.frz od u) := fun x => x.keep d _ hl nI nF fun ps z => by cases z
  cases r with
  | nx fr' I' => exact fun σ' G' H' x S => ⟨kd x, h σ' G' _ (x.unlock hd hu (kd x)) (S.unlock (kd x) hu)⟩
  | bk fr' I' => exact fun σ' G' H' x S => ⟨kd x, h σ' G' _ (x.unlock hd hu (kd x)) (S.unlock (kd x) hu)⟩
  | ct fr' I' => exact fun σ' G' H' x S => ⟨kd x, h σ' G' _ (x.unlock hd hu (kd x)) (S.unlock (kd x) hu)⟩
  | rt s I' =>
    refine fun v fr' σ' G' H' x S q => ⟨kd x, h v fr' σ' G' _ (x.unlock hd hu (kd x)) (S.unlock (kd x) hu) ?_⟩
    have cc : ∀ a : Addr, (a ∈ G.aF ∨ upd H d (.frz od u) a = none) → a ∈ G.aF ∨ H a = none := fun a z => z.imp id fun z => by
      by_cases ha : a = d
      · subst ha; rw [upd_same] at z; cases z
      · rw [upd_ne ha] at z; exact z
    cases s with
    | no => exact q
    | val d => exact q
    | _ => obtain ⟨a, h1, h2, h3, h4, h5⟩ := q; exact ⟨a, h1, slAt_unlock (kd x) hu h2, h3, h4, cc a h5⟩
  | exc e fr' I' => exact absurd h id
  | bad => exact h
def tForD (tX : TE) (g : TG) (tb : TS) : TS := fun D σ H => tLock (tFor (iKeys tX) g tb) D σ H ∨ tFor (iKeys tX) g tb D σ H
theorem for_keys {d : Addr} {o : Obj} {tX : TE} {g : TG} {tb : TS} {Hl : Hp} {D : Ends} {J : It} (run : ∀ Q : VK, Q (.ref d) Hl → tX σ Hl Q) (fin : ∀ R : It → Hp → Prop, R J Hl → ((∃ kvs, Hl d = some (.frz o (.dK kvs)) ∧ R (Itk d o kvs) Hl) ∨ ∃ kvs, Hl d = some (.frz o (.dT kvs)) ∧ R (Itkt d o kvs) Hl)) (h : tFor (fun _ _ R => R J Hl) g tb D σ Hl) : tFor (iKeys tX) g tb D σ Hl := by
  unfold tFor at h ⊢
  exact keys_run run fin h
theorem ts_forD {a : Tm} {e : Expr} {tX : TE} (ex : ExT X L a e tX) {K : PySem.W.Frag} {tg : Tg} {body : Sm} (h : tS L W (.forD tg a body) E σ H) : tForD tX (gA K tg) (tS L W body) E σ H := by
  obtain ⟨ro, G, fr, I, S, h⟩ := h
  simp only [exec] at h
  cases q : ev L.cn L.cf a ro fr I with
  | exc x I' => exact absurd q (ex.no _ _ _ _ _)
  | bad => rw [q] at h; exact absurd h id
  | ok p I' =>
    obtain ⟨c, kc⟩ := p
    rw [q] at h
    have h : XRel L W ro G H E (match keysD c with | some ks => bif decide (kc = .own) then .bad else forDq (forL (fun fr I => exec L.cn L.cf body (ro || isInst kc) fr I) tg ks fr I') | none => .bad) := h
    cases hk : keysD c with
    | none => rw [hk] at h; exact absurd h id
    | some ks =>
      rw [hk] at h
      simp only at h
      obtain ⟨rfl, d, rk, run⟩ := ex.at_ S q (isDc_keys hk)
      obtain ⟨u, D⟩ := atD S rk hk
      by_cases hown : kc = .own
      · rw [decide_eq_true hown] at h; exact absurd h id
      rw [decide_eq_false hown] at h
      simp only [cond_false] at h
      have nF : d ∉ G.aF := D.nF.resolve_left hown
      rcases D.at_ with hd | ⟨o, hd⟩
      · refine .inl ⟨d, u, hd, D.isd.mut, fun od => ?_⟩
        have hl : upd H d (.frz od u) d = some (.frz od u) := upd_same
        obtain ⟨J, wk, fin⟩ := D.it _ od hl
        refine for_keys (J := J) (fun Q hq => run _ Q (fun b o e hb => by rw [upd_ne hb]; exact e) (fun w hw => rd_lock D.isd hd hl w hw) hq) fin ?_
        generalize hro : (ro || isInst kc) = ro' at h
        have hr : (ro' || isInst kc) = ro' := by rw [← hro, Bool.or_assoc, Bool.or_self]
        have Sw : Sx L.c ro' G fr I' σ H := by
          cases ro with
          | true => have : ro' = true := by rw [← hro]; rfl
                    subst this; exact S
          | false => exact S.weak _
        have hI : ro' = true ∨ d ∉ G.aI := by
          rcases D.nI with h | h
          · left; rw [← hro, h]; simp [isInst]
          · exact .inr h
        have Sl := Sw.lock (od := od) hd D.isd nF fun z => hI.resolve_right fun q => q z
        have h2 : XRel L W ro' G H E (forDq (forL (fun fr I => exec L.cn L.cf body ro' fr I) tg ks fr I')) := by
          refine XRel.at .refl S ?_ h
          cases ro' with
          | true => exact .inr ⟨rfl, keeps_forDq (keeps_forL (fun fr => exec_keeps body fr I') _ _)⟩
          | false =>
            simp only [Bool.or_eq_false_iff] at hro
            exact .inl hro.1.symm
        have h3 := XRel.unlock (od := od) hd D.isd nF hI h2
        refine for_core (K := K) (p := (ks, kc)) hown .refl Sl wk ?_
        rw [hr]
        exact h3
      · refine .inr ?_
        obtain ⟨J, wk, fin⟩ := D.it _ o hd
        refine for_keys (J := J) (fun Q hq => run _ Q (fun b o e hb => e) (fun w hw => hw) hq) fin ?_
        refine for_core (K := K) (p := (ks, kc)) hown .refl S wk ?_
        generalize forL (fun fr I => exec L.cn L.cf body (ro || isInst kc) fr I) tg ks fr I' = r at h ⊢
        cases r <;> first | exact h | exact absurd h id
theorem ts_whl {n : Nat} {c : Tm} {body : Sm} (h : tS L W (.whl n c body) E σ H) : tWhile (tt L W c) (tS L W body) E σ H := by
  obtain ⟨ro, G, fr, I, S, h⟩ := h
  simp only [exec] at h
  refine ⟨fun m σ' H' => ∃ G' fr' I', Sx L.c ro G' fr' I' σ' H' ∧ XRel L W ro G' H' E (whlL (fun fr I => (ev L.cn L.cf c ro fr I).tst fun t I => .ok t I) (fun fr I => exec L.cn L.cf body ro fr I) m fr' I'), ⟨n, G, fr, I, S, h⟩, ?_⟩
  rintro m σ1 H1 ⟨G1, fr1, I1, S1, h1⟩
  cases m with
  | zero => exact absurd h1 id
  | succ m =>
    unfold whlL at h1
    refine tt.imp (stm_tt S1 h1) ?_
    rintro b H2 ⟨I2, G2, x, S2, h2⟩
    cases b with
    | false => rw [if_neg Bool.false_ne_true]; exact h2 _ G2 H2 x.s S2
    | true =>
      rw [if_pos rfl]
      rw [cond_true] at h2
      refine ⟨_, fun σ' H' w => ⟨m, Nat.lt_succ_self m, w⟩, ro, G2, fr1, I2, S2, ?_⟩
      have h2 := h2.on x.s
      cases eb : exec L.cn L.cf body ro fr1 I2 with
      | nx fr5 I5 => rw [eb] at h2; exact fun σ5 G5 H5 z S5 => ⟨G5, fr5, I5, S5, h2.on z⟩
      | ct fr5 I5 => rw [eb] at h2; exact fun σ5 G5 H5 z S5 => ⟨G5, fr5, I5, S5, h2.on z⟩
      | bk fr5 I5 => rw [eb] at h2; exact fun σ5 G5 H5 z S5 => h2 σ5 G5 H5 z S5
      | rt s I5 => rw [eb] at h2; exact fun v5 fr5 σ5 G5 H5 z S5 q => h2 v5 fr5 σ5 G5 H5 z S5 q
      | exc e5 fr5 I5 => rw [eb] at h2; exact fun cls d5 σ5 G5 H5 z S5 q => h2 cls d5 σ5 G5 H5 z S5 q
      | bad => rw [eb] at h2; exact h2
/-! ### the main theorem -/
theorem ts_seq {s r : Sm} (h : tS L W (.cons s r) E σ H) : tSeq (tS L W s) (tS L W r) E σ H := by
  obtain ⟨ro, G, fr, I, S, h⟩ := h
  simp only [exec] at h
  refine ⟨ro, G, fr, I, S, ?_⟩
  cases e : exec L.cn L.cf s ro fr I with
  | nx fr1 I1 =>
    rw [e] at h
    exact fun σ1 G1 H1 x S1 => ⟨ro, G1, fr1, I1, S1, XRel.on x h⟩
  | bk fr1 I1 => rw [e] at h; exact h
  | ct fr1 I1 => rw [e] at h; exact h
  | rt s I1 => rw [e] at h; exact h
  | exc x fr1 I1 => rw [e] at h; exact h
  | bad => rw [e] at h; exact h
theorem ts_frz {i : Nat} {r : Sm} (h : tS L W (.cons (.frz i) r) E σ H) : tS L W r E σ H := by
  obtain ⟨ro, G, fr, I, S, h⟩ := h
  simp only [exec] at h
  cases e : fr[i]? with
  | none => rw [e] at h; exact ⟨ro, G, fr, I, S, h⟩
  | some s =>
    rw [e] at h
    cases e2 : frzS s with
    | none => simp only [e2] at h; exact ⟨ro, G, fr, I, S, h⟩
    | some d =>
      simp only [e2] at h
      rcases frzS_inn e2 with z | z
      · subst z
        have : fr.set i (.val d) = fr := by
          obtain ⟨hl, e3⟩ := List.getElem?_eq_some_iff.mp e
          rw [← e3, List.set_getElem_self]
        rw [this] at h
        exact ⟨ro, G, fr, I, S, h⟩
      · obtain ⟨G1, x, S1⟩ := frz_slot S e z
        exact ⟨ro, G1, _, I, S1, XRel.on x h⟩
theorem out_inn {s : Sl} {p : D × Kd} (h : s.out = some p) : (∃ d, s = .val d) ∨ Sl.inn p.1 = some s := by
  cases s <;> simp only [Sl.out, reduceCtorEq, Option.some.injEq] at h <;> subst h
  · exact .inl ⟨_, rfl⟩
  · exact .inr rfl
  · exact .inr rfl
  · exact .inr rfl
theorem ts_retOwn {i : Nat} (h : tS L W (.retOwn i) E σ H) : tRet (tVar i) E σ H := by
  obtain ⟨ro, G, fr, I, S, h⟩ := h
  simp only [exec] at h
  cases e : fr[i]? with
  | none => rw [e] at h; exact absurd h id
  | some s =>
    rw [e] at h
    obtain ⟨ov, bs, h1, h2, h3⟩ := S.fr.at_ e
    cases s with
    | no => exact absurd h id
    | val d =>
      obtain ⟨_, v, rfl, r⟩ := h2
      exact ⟨v, h1, h v fr σ G H .refl S r⟩
    | lst xs =>
      obtain ⟨a, rfl, rfl, r⟩ := h2
      have ha := h3 a (by simp)
      exact ⟨_, h1, h _ fr σ G H .refl S ⟨a, rfl, r, S.sep a (List.mem_append_left _ ha), fun z => (List.nodup_append.mp S.nd).2.2 a ha a z rfl, .inl ha⟩⟩
    | dK ks xs =>
      obtain ⟨a, rfl, rfl, r⟩ := h2
      have ha := h3 a (by simp)
      exact ⟨_, h1, h _ fr σ G H .refl S ⟨a, rfl, r, S.sep a (List.mem_append_left _ ha), fun z => (List.nodup_append.mp S.nd).2.2 a ha a z rfl, .inl ha⟩⟩
    | dT ks xs =>
      obtain ⟨a, rfl, rfl, r⟩ := h2
      have ha := h3 a (by simp)
      exact ⟨_, h1, h _ fr σ G H .refl S ⟨a, rfl, r, S.sep a (List.mem_append_left _ ha), fun z => (List.nodup_append.mp S.nd).2.2 a ha a z rfl, .inl ha⟩⟩
theorem ts_ret {e : Tm} (h : tS L W (.ret e) E σ H) : tRet (te L W e) E σ H := by
  obtain ⟨ro, G, fr, I, S, h⟩ := h
  simp only [exec] at h
  refine te.imp (stm_te S h) ?_
  rintro v H1 ⟨p, I1, G1, x, S1, r1, hx⟩
  cases q : stoK true p with
  | none => rw [q] at hx; exact absurd hx id
  | some s =>
    rw [q] at hx
    refine hx v fr σ G1 H1 x.s S1 ?_
    cases r1 with
    | fro r => cases q; exact r
    | own e1 h m => cases q
    | inst e1 h m => cases q
    | cst => cases q
    | new e1 hs h0 k1 k2 k3 =>
      rename_i d s' a
      have e2 : Sl.inn d = some s := q
      rw [e1] at e2
      cases e2
      cases d <;> simp only [Sl.inn, reduceCtorEq, Option.some.injEq] at e1 <;> subst e1 <;> exact ⟨a, rfl, hs, k1, k3, .inr h0⟩
theorem ts_forR {tg : Tg} {it c : Tm} {r : Cs} {K : PySem.W.Frag} (h : tS L W (.forR tg it c r) E σ H) : tFor (ti L W it) (gA K tg) (tIfS (tt L W c) (tRet (te L W (.cns r))) tNext) E σ H := by
  obtain ⟨ro, G, fr, I, S, h⟩ := h
  simp only [exec] at h
  obtain ⟨ro2, G2, fr2, I2, S2, h2⟩ := stm_ti S h
  refine ⟨ro2, G2, fr2, I2, S2, h2.imp (fun _ _ _ _ r => r) ?_⟩
  rintro J H1 ⟨p, I1, G1, x, S1, wk, h1, _⟩
  obtain ⟨src, Gd, Y, w, w1, w2, w3⟩ := wk
  generalize hro : (ro || isInst p.2) = ro' at h1
  have S1' : Sx L.c ro' G1 fr I1 σ H1 := by
    cases ro' with
    | false => simp only [Bool.or_eq_false_iff] at hro; rw [hro.1] at S1; exact S1
    | true => cases ro with
      | true => exact S1
      | false => exact S1.weak true
  have h1 : XRel L W ro' G1 H1 E (frL (fun fr I => (ev L.cn L.cf c ro' fr I).tst fun t I => .ok t I) r.d tg p.1 fr I1) := by
    refine XRel.at x S1 ?_ h1
    cases ro' with
    | true => exact .inr ⟨rfl, keeps_frL (fun fr => keeps_tst ((ev_keeps c).1 _ _)) _ _⟩
    | false =>
      simp only [Bool.or_eq_false_iff] at hro
      exact .inl hro.1.symm
  have notI : ∀ {Gc : Gh} {Hc : Hp}, ExtS ro' G1 H1 Gc Hc → ∀ a ∈ src, ro' = true ∨ a ∉ Gc.aI := fun y a ha => by
    rcases (w1 a ha).2.1 with z | z
    · left; rw [← hro, z]; simp [isInst]
    · refine .inr fun q => ?_
      rcases y.aI a q with q | q
      · exact z q
      · exact (w1 a ha).1 q
  refine for_it w (fun j σc Hc => ∃ (Gc : Gh) (frc : Fr) (Ic : Is), ExtS ro' G1 H1 Gc Hc ∧ (∀ a ∈ src, Kp H1 Hc a) ∧ Sx L.c ro' Gc frc Ic σc Hc ∧ XRel L W ro' Gc Hc E (frL (fun fr I => (ev L.cn L.cf c ro' fr I).tst fun t I => .ok t I) r.d tg (p.1.drop j) frc Ic)) ?_ ?_ ?_ ?_
  · exact ⟨G1, fr, I1, .refl, fun a _ o e _ => e, S1', h1⟩
  · rintro j σc Hc _ ⟨Gc, frc, Ic, y, kp, _, _⟩
    exact w2 Gc Hc y.F y.M kp
  · rintro j v σc Hc H' hj ⟨Gc, frc, Ic, y, kp, Sc, hr⟩ hy
    obtain ⟨d, hd, yl⟩ := w3 j v Hc H' Gc hj y.F y.M kp hy
    obtain ⟨G3, y3, zc, S3, r3, kp3⟩ : ∃ G3, ExtS ro' G1 H1 G3 H' ∧ ExtS ro' Gc Hc G3 H' ∧ Sx L.c ro' G3 frc Ic σc H' ∧ RV G3.F G3.M v d ∧ (∀ a ∈ src, Kp H1 H' a) := by
      rcases yl with ⟨rfl, r⟩ | ⟨T, ws, es, rfl, hT, rfl, rfl, r⟩ | ⟨T, ws, es, rfl, hT, rfl, rfl, r⟩
      · exact ⟨Gc, y, .refl, Sc, r, kp⟩
      · refine ⟨Gc.put T (.tup ws), (y.trans (Ext.new hT).s).put (.inl (y.dom _ hT)) (Sc.notF hT), ((Ext.new hT).s).put (.inl hT) (Sc.notF hT), (Sc.new hT).freeze trivial (.inl upd_same) (Sc.notFr hT) (Sc.notIs hT) (Sc.notF hT), .tup upd_same (r.mono (put_mono (Sc.notF hT)) (List.prefix_refl _)), fun a ha o e t => ?_⟩
        have q := kp a ha o e t
        rw [upd_ne (by rintro rfl; rw [hT] at q; cases q)]
        exact q
      · obtain ⟨G3, g3, S3, r3, ne3, _, x3⟩ := tup_known Sc hT r
        exact ⟨G3, x3 y, x3 .refl, S3, r3, kp⟩
    have hdrop : p.1.drop j = d :: p.1.drop (j + 1) := by
      obtain ⟨hj2, e⟩ := List.getElem?_eq_some_iff.mp hd
      rw [List.drop_eq_getElem_cons hj2, e]
    rw [hdrop] at hr
    unfold frL at hr
    cases ea : asgT tg d frc with
    | none => rw [ea] at hr; exact absurd hr id
    | some fr' =>
      rw [ea] at hr
      simp only at hr
      refine gA_run S3 r3 ea fun σ' bs fb sb _ => ?_
      have S4 : Sx L.c ro' { G3 with aF := bs } fr' Ic σ' H' := S3.frame fb sb
      have y4 := y3.frame (bs := bs) fun a ha => y3.aF a (sb.subset ha)
      have z4 := zc.frame (bs := bs) fun a ha => zc.aF a (sb.subset ha)
      refine tt.imp (stm_tt S4 (hr.on z4)) ?_
      rintro t H2 ⟨I2, G5, x5, S5, h5⟩
      have y5 := y4.trans x5.s
      cases t with
      | true =>
        rw [if_pos rfl]
        rw [cond_true] at h5
        exact ts_ret ⟨ro', G5, fr', I2, S5, fun v6 fr6 σ6 G6 H6 z S6 q => h5 v6 fr6 σ6 G6 H6 (x5.s.trans z) S6 (q.on x5.s)⟩
      | false =>
        rw [if_neg Bool.false_ne_true]
        rw [cond_false] at h5
        refine ⟨G5, fr', I2, y5, fun a ha o e t => x5.keep a o (kp3 a ha o e t) (notI y4 a ha) t, S5, ?_⟩
        exact h5.on x5.s
  · rintro σc Hc ⟨Gc, frc, Ic, y, kp, Sc, hr⟩
    rw [List.drop_length] at hr
    exact hr σc Gc Hc .refl Sc
structure MainS (L : Lg) (s : Sm) : Prop where
  st : ∀ {X : Cx} {W : WX} {fb : Str → Bool} {st : Stmt}, Good L X W → ((∀ x, fb x = true → X.fn x = true) ∧ Fm X) → chkS L.kn L.kw fb s X.env.scope X.N st = true → PS X st (tS L W s)
  b : ∀ {X : Cx} {W : WX} {fb : Str → Bool} {sts : List Stmt}, Good L X W → ((∀ x, fb x = true → X.fn x = true) ∧ Fm X) → chkB L.kn L.kw fb s X.env.scope X.N sts = true → PSs X sts (tS L W s)
theorem MainS.one {s : Sm} (h : ∀ {X : Cx} {W : WX} {fb : Str → Bool} {st : Stmt}, Good L X W → ((∀ x, fb x = true → X.fn x = true) ∧ Fm X) → chkS L.kn L.kw fb s X.env.scope X.N st = true → PS X st (tS L W s)) (hb : ∀ fb sc N sts, chkB L.kn L.kw fb s sc N sts = false := by intros; rfl) : MainS L s :=
  ⟨h, fun _ _ h => (by rw [hb] at h; cases h)⟩
theorem stm_all : ∀ s : Sm, MainS L s := by
  intro s
  induction s with
  | nil =>
    refine ⟨fun g hf h => (by cases h), fun {X W fb sts} g hf h => ?_⟩
    cases sts with
    | nil => exact PSs.imp pss_nil fun D σ H ⟨ro, G, fr, I, S, h⟩ => h σ G H .refl S
    | cons st sts => cases h
  | cons s r ihs ihr =>
    refine ⟨fun g hf h => (by cases h), fun {X W fb sts} g hf h => ?_⟩
    unfold chkB at h
    split at h <;> first | (rename_i heq; cases heq; done) | (cases h; done) | skip
    · rename_i heq; cases heq
      exact PSs.imp (ihr.b g hf h) fun D σ H q => ts_frz q
    · rename_i heq; cases heq
      rw [Bool.and_eq_true] at h
      exact PSs.imp (pss_cons (ihs.st g hf h.1) (ihr.b g hf h.2)) fun D σ H q => ts_seq q
  | pass =>
    refine .one fun {X W fb st} g hf h => ?_
    unfold chkS at h
    split at h <;> first | (rename_i heq; cases heq; done) | (cases h; done) | skip
    · exact PS.imp ps_pass fun D σ H ⟨ro, G, fr, I, S, h⟩ => h σ G H .refl S
    · exact PS.imp ps_doc fun D σ H ⟨ro, G, fr, I, S, h⟩ => h σ G H .refl S
  | asg i e =>
    refine .one fun {X W fb st} g hf h => ?_
    unfold chkS at h
    split at h <;> first | (rename_i heq; cases heq; done) | (cases h; done) | skip
    rename_i heq; cases heq
    simp only [Bool.and_eq_true] at h
    exact PS.imp (ps_asgA g hf.1 h.1.1.1 h.1.1.2 h.1.2 h.2) fun D σ H q => ts_asg q
  | own i e =>
    refine .one fun {X W fb st} g hf h => ?_
    unfold chkS at h
    split at h <;> first | (rename_i heq; cases heq; done) | (cases h; done) | skip
    rename_i heq; cases heq
    simp only [Bool.and_eq_true] at h
    exact PS.imp (ps_asgA g hf.1 h.1.1.1 h.1.1.2 h.1.2 h.2) fun D σ H q => ts_own q
  | par tg es =>
    refine .one fun {X W fb st} g hf h => ?_
    unfold chkS at h
    split at h <;> first | (rename_i heq; cases heq; done) | (cases h; done) | skip
    rename_i heq; cases heq
    simp only [Bool.and_eq_true, Bool.or_eq_true] at h
    exact ps_parA g hf.1 h.1.1 h.1.2 h.2
  | unp tg e =>
    refine .one fun {X W fb st} g hf h => ?_
    unfold chkS at h
    split at h <;> first | (rename_i heq; cases heq; done) | (cases h; done) | skip
    rename_i heq; cases heq
    simp only [Bool.and_eq_true] at h
    exact ps_unpA g hf.1 h.1.1.1 h.1.1.2 h.1.2 h.2
  | app i e =>
    refine .one fun {X W fb st} g hf h => ?_
    unfold chkS at h
    split at h <;> first | (rename_i heq; cases heq; done) | (cases h; done) | skip
    rename_i heq; cases heq
    simp only [Bool.and_eq_true, decide_eq_true_eq] at h
    obtain ⟨⟨⟨⟨rfl, h1⟩, h2⟩, h3⟩, h4⟩ := h
    exact ps_appA g h1 h2 h3 h4
  | ext i e =>
    refine .one fun {X W fb st} g hf h => ?_
    unfold chkS at h
    split at h <;> first | (rename_i heq; cases heq; done) | (cases h; done) | skip
    rename_i heq; cases heq
    simp only [Bool.and_eq_true, decide_eq_true_eq] at h
    obtain ⟨⟨⟨⟨rfl, h1⟩, h2⟩, h3⟩, h4⟩ := h
    exact ps_extA g h1 h2 h3 h4
  | rem i e =>
    refine .one fun {X W fb st} g hf h => ?_
    unfold chkS at h
    split at h <;> first | (rename_i heq; cases heq; done) | (cases h; done) | skip
    rename_i heq; cases heq
    simp only [Bool.and_eq_true, decide_eq_true_eq] at h
    obtain ⟨⟨⟨⟨rfl, h1⟩, h2⟩, h3⟩, h4⟩ := h
    exact ps_remA g h1 h2 h3 h4
  | expr e =>
    refine .one fun {X W fb st} g hf h => ?_
    unfold chkS at h
    split at h <;> first | (rename_i heq; cases heq; done) | (cases h; done) | skip
    rename_i heq; cases heq
    rw [Bool.and_eq_true] at h
    refine PS.imp (ps_expr ((main_all e).e g h.1).1 (sw_no h.2)) fun D σ H q => ?_
    obtain ⟨ro, G, fr, I, S, q⟩ := q
    simp only [exec] at q
    refine te.imp (stm_te S q) ?_
    rintro v H1 ⟨p, I1, G1, x, S1, r1, h1⟩
    exact h1 σ G1 H1 x.s S1
  | iff c a b iha ihb =>
    refine .one fun {X W fb st} g hf h => ?_
    unfold chkS at h
    split at h <;> first | (rename_i heq; cases heq; done) | (cases h; done) | skip
    rename_i heq; cases heq
    simp only [Bool.and_eq_true] at h
    refine PS.imp (ps_if ((main_all c).e g h.1.1).2.1 (iha.b g hf h.1.2) (ihb.b g hf h.2)) fun D σ H q => ?_
    obtain ⟨ro, G, fr, I, S, q⟩ := q
    simp only [exec] at q
    refine tt.imp (stm_tt S q) ?_
    rintro t H1 ⟨I1, G1, x, S1, h1⟩
    cases t with
    | true => rw [if_pos rfl]; exact ⟨ro, G1, fr, I1, S1, XRel.on x.s h1⟩
    | false => rw [if_neg Bool.false_ne_true]; exact ⟨ro, G1, fr, I1, S1, XRel.on x.s h1⟩
  | «for» tg it body ih =>
    refine .one fun {X W fb st} g hf h => ?_
    unfold chkS at h
    split at h <;> first | (rename_i heq; cases heq; done) | (cases h; done) | skip
    rename_i heq; cases heq
    simp only [Bool.and_eq_true] at h
    exact PS.imp (ps_for g.po g.calm ((main_all it).i g h.1.1.1) (pg_A g.calm g.nd hf.1 h.1.1.2) (ih.b g hf h.2) (fold_of h.1.2 _)) fun D σ H q => ts_for q
  | forR tg it c r =>
    refine .one fun {X W fb st} g hf h => ?_
    unfold chkS at h
    split at h <;> first | (rename_i heq; cases heq; done) | (cases h; done) | skip
    rename_i heq; cases heq
    simp only [Bool.and_eq_true] at h
    exact PS.imp (ps_for g.po g.calm ((main_all it).i g h.1.1.1.1) (pg_A g.calm g.nd hf.1 h.1.1.1.2) (pss_one (ps_if ((main_all c).e g h.1.2).2.1 (pss_one (ps_ret ((main_all (.cns r)).e g h.2).1)) pss_nil)) (fold_of h.1.1.2 _)) fun D σ H q => ts_forR q
  | whl n c body ih =>
    refine .one fun {X W fb st} g hf h => ?_
    unfold chkS at h
    split at h <;> first | (rename_i heq; cases heq; done) | (cases h; done) | skip
    rename_i heq; cases heq
    rw [Bool.and_eq_true] at h
    exact PS.imp (ps_while g.po ((main_all c).e g h.1).2.1 (ih.b g hf h.2)) fun D σ H q => ts_whl q
  | ret e =>
    refine .one fun {X W fb st} g hf h => ?_
    unfold chkS at h
    split at h <;> first | (rename_i heq; cases heq; done) | (cases h; done) | skip
    · rename_i heq; cases heq
      exact PS.imp ps_retN fun D σ H ⟨ro, G, fr, I, S, h⟩ => h .non fr σ G H .refl S .non
    · rename_i heq; cases heq
      exact PS.imp (ps_ret ((main_all _).e g h).1) fun D σ H q => ts_ret q
  | retOwn i =>
    refine .one fun {X W fb st} g hf h => ?_
    unfold chkS at h
    split at h <;> first | (rename_i heq; cases heq; done) | (cases h; done) | skip
    rename_i heq; cases heq
    exact PS.imp (ps_ret (vn_of h)) fun D σ H q => ts_retOwn q
  | rais c =>
    refine .one fun {X W fb st} g hf h => ?_
    unfold chkS at h
    split at h <;> first | (rename_i heq; cases heq; done) | (cases h; done) | skip
    rename_i heq; cases heq
    simp only [Bool.and_eq_true, decide_eq_true_eq] at h
    obtain ⟨⟨rfl, h1⟩, h2⟩ := h
    obtain ⟨C, e1, e2, e3, e4⟩ := g.xc _ h2
    refine PS.imp (L2.ps_raise g.calm g.tk (L2.pmk_own (bmB := He.veBase) PySem.F.excBase_ValueError (g.K ▸ e2) (g.mg ▸ e1) (g.K ▸ e3) e4 (gl_of h1).1 (gl_of h1).2)) fun D σ H q => ?_
    obtain ⟨ro, G, fr, I, S, q⟩ := q
    exact q _ _ σ G H .refl S ⟨e1, .inl ⟨rfl, rfl⟩⟩
  | fset i x e =>
    refine .one fun {X W fb st} g hf h => ?_
    unfold chkS at h
    split at h <;> first | (rename_i heq; cases heq; done) | (cases h; done) | skip
    rename_i heq; cases heq
    simp only [Bool.and_eq_true, decide_eq_true_eq] at h
    obtain ⟨⟨⟨rfl, h1⟩, h2⟩, h3⟩ := h
    exact ps_fsetA g h1 h2 h3
  | fapp i x e =>
    refine .one fun {X W fb st} g hf h => ?_
    unfold chkS at h
    split at h <;> first | (rename_i heq; cases heq; done) | (cases h; done) | skip
    rename_i heq; cases heq
    simp only [Bool.and_eq_true, decide_eq_true_eq] at h
    obtain ⟨⟨⟨⟨⟨⟨rfl, rfl⟩, h1⟩, h2⟩, h3⟩, h4⟩, h5⟩ := h
    exact ps_fappA g h1 h2 h3 h4 h5
  | fput i x k v =>
    refine .one fun {X W fb st} g hf h => ?_
    unfold chkS at h
    split at h <;> first | (rename_i heq; cases heq; done) | (cases h; done) | skip
    rename_i heq; cases heq
    simp only [Bool.and_eq_true, decide_eq_true_eq] at h
    obtain ⟨⟨⟨⟨⟨rfl, h1⟩, h2⟩, h3⟩, h4⟩, h5⟩ := h
    exact ps_fputA g h1 h2 h3 h4 h5
  | put i k v =>
    refine .one fun {X W fb st} g hf h => ?_
    unfold chkS at h
    split at h <;> first | (rename_i heq; cases heq; done) | (cases h; done) | skip
    rename_i heq; cases heq
    simp only [Bool.and_eq_true] at h
    obtain ⟨⟨⟨h1, h2⟩, h3⟩, h4⟩ := h
    exact ps_putA g h1 h2 h3 h4
  | put2 i k a k2 v =>
    refine .one fun {X W fb st} g hf h => ?_
    unfold chkS at h
    cases h
  | getOr a k c =>
    refine .one fun {X W fb st} g hf h => ?_
    unfold chkS at h
    split at h <;> first | (rename_i heq; cases heq; done) | (cases h; done) | skip
    rename_i heq; cases heq
    simp only [Bool.and_eq_true, decide_eq_true_eq] at h
    obtain ⟨⟨⟨⟨⟨⟨⟨⟨rfl, h1⟩, h2⟩, h3⟩, rfl⟩, h4⟩, rfl⟩, h5⟩, h6⟩ := h
    exact ps_getOrA g hf.2 h1 h2 h3 (gl_of h4).1 (gl_of h5).1 (gl_of h5).2 h6
  | raisF c fs pm es =>
    refine .one fun {X W fb st} g hf h => ?_
    unfold chkS at h
    cases h
  | forD tg a body ih =>
    refine .one fun {X W fb st} g hf h => ?_
    unfold chkS at h
    split at h <;> first | (rename_i heq; cases heq; done) | (cases h; done) | skip
    rename_i heq; cases heq
    simp only [Bool.and_eq_true] at h
    obtain ⟨⟨⟨⟨⟨h1, h2⟩, h3⟩, h4⟩, h5⟩, h6⟩ := h
    obtain ⟨tX, ex⟩ := ex_simple g h1 h3
    have base := fun pos => ps_for (pos := pos) g.po g.calm (pi_keys ex.pe) (pg_A g.calm g.nd hf.1 h4) (ih.b g hf h6) (fold_of h5 _)
    exact PS.imp (ps_alt (ps_lock (base _)) (base _)) fun D σ H q => ts_forD ex q
  | bk =>
    refine .one fun {X W fb st} g hf h => ?_
    unfold chkS at h
    split at h <;> first | (rename_i heq; cases heq; done) | (cases h; done) | skip
    exact PS.imp ps_break fun D σ H ⟨ro, G, fr, I, S, h⟩ => h σ G H .refl S
  | ct =>
    refine .one fun {X W fb st} g hf h => ?_
    unfold chkS at h
    split at h <;> first | (rename_i heq; cases heq; done) | (cases h; done) | skip
    exact PS.imp ps_continue fun D σ H ⟨ro, G, fr, I, S, h⟩ => h σ G H .refl S
  | frz i =>
    refine .one fun {X W fb st} g hf h => ?_
    unfold chkS at h
    cases h
end
end Air
/-! Air: defs, the law. -/
namespace Air
open PySem PySem.Spec PyProof.Rows L2
/-- a def of the row, as its own text says -/
def knL (kn : Str → Option (Nat × Nat)) : Str → Option (Nat × Nat) := fun x => if x = "<lambda>" then none else kn x
def knB (lam : Bool) (kn : Str → Option (Nat × Nat)) : Str → Option (Nat × Nat) := bif lam then kn else knL kn
theorem knB_kn {lam : Bool} {kn : Str → Option (Nat × Nat)} {x : Str} {p : Nat × Nat} (h : knB lam kn x = some p) : kn x = some p := by
  cases lam with
  | true => exact h
  | false =>
    have h : (if x = "<lambda>" then none else kn x) = some p := h
    split at h
    · cases h
    · exact h
theorem knB_no {kn : Str → Option (Nat × Nat)} (p : Nat × Nat) : ¬ knB false kn "<lambda>" = some p := by
  intro h
  have h : (if ("<lambda>" : Str) = "<lambda>" then none else kn "<lambda>") = some p := h
  rw [if_pos rfl] at h; cases h
structure DefOk [Kf] (kn : Str → Option (Nat × Nat)) (kw : Kwt) (C : Addr) (mg : Str → Option Value) (cs : List (Addr × Addr)) (T : List (Addr × Str)) (x : Str) (f : Addr) (fdt : FuncData) (N ps : List Str) (dvs : List V) (dfl : List D) (fd : Fd) : Prop where
  at_ : mkB x = false → mg x = some (.ref f)
  mt : ∀ m, x = mkey m → Cls Kf.K C ∧ Meth Kf.K C m f
  F : ∃ (nm qual : Str) (params : Arguments) (body : List Stmt) (sc : Scope) (fb : Str → Bool) (lam : Bool), FunD Kf.K nm qual params body sc dvs [] f fdt ∧ FnScope N ps sc ∧ chkB (knB lam kn) kw fb fd.body sc N body = true ∧
    (lam = true → ∃ cc P, fdt.code = .ref cc ∧ (cc, P) ∈ cs ∧ (P, qual ++ ".<locals>." ++ "<lambda>") ∈ T ∧ ∀ p ∈ T, p.1 = P → p.2 = qual ++ ".<locals>." ++ "<lambda>")
  nl : N.length = fd.nl
  np : ps.length = fd.np
  dv : RVs (fun _ => none) [] dvs dfl
  dl : dfl.length ≤ ps.length
  df : fd.dfl = dfl
  bd : ∀ m, m ≤ dvs.length → ∃ ds, Binds Kf.K fdt ps ds ∧ Vals (dvs.drop (dvs.length - m)) ds
  bk : ∀ n ks pm, kw x n ks = some pm → ∃ g', KBn Kf.K fdt ps n ks g' (pmV pm)
section
variable [Kf] {L : Lg} {W : WX} {X : Cx} {ro ro' : Bool} {G G1 G2 : Gh} {H H1 H2 : Hp} {σ σ1 : St} {fr fr1 : Fr} {I I1 : Is}
theorem fr_none {F : Hp} {M : List (Addr × Addr)} : ∀ m, FrR F M H (List.replicate m none) (List.replicate m .no) []
  | 0 => .nil
  | m + 1 => .cons (as := []) (s := .no) rfl (fr_none m)
theorem fr_start {F : Hp} {M : List (Addr × Addr)} (m : Nat) : ∀ {vs : List V} {ds : List D}, RVs F M vs ds → FrR F M H (vs.map some ++ List.replicate m none) (ds.map Sl.val ++ List.replicate m .no) []
  | _, _, .nil => fr_none m
  | _, _, .cons r rs => .cons (as := []) ⟨rfl, _, rfl, r⟩ (fr_start m rs)
theorem ExtS.drop (h : G.aF = []) (x : ExtS ro G H G1 H1) : Ext ro G H { G1 with aF := [] } H1 :=
  ⟨fun a o e k t => x.keep a o e k (by rw [h]; simp) t, x.dom, x.tp, x.F, fun a u e => (x.Fn a u e).imp id fun z => z.elim id fun z => by rw [h] at z; simp at z, h.symm, x.aI, x.M, x.ro⟩
theorem Sx.drop (S : Sx L.c ro G fr I σ H) : Sx L.c ro { G with aF := [] } [] I [] H := S.frame .nil (List.nil_sublist _)
/-- the language at a depth -/
def lgN (Γ : Gm) (kn : Str → Option (Nat × Nat)) (kw : Kwt) (c : Cfg) (mg : Str → Option Value) (n : Nat) : Lg := ⟨Γ.cn, kn, kw, callN Γ n, c, mg⟩
def bodyN (Γ : Gm) (n : Nat) (fd : Fd) : Bool → List D → Is → R Sl := fun ro vs I => runB (exec Γ.cn (callN Γ n) fd.body ro (vs.map Sl.val ++ List.replicate (fd.nl - fd.np) .no) I)
theorem rt_rk {s : Sl} {v : V} {p : D × Kd} (hF : G.aF = []) (h : RtR G H G1 H1 s v) (e : s.out = some p) : Rk L H { G1 with aF := [] } H1 p v := by
  cases s with
  | no => cases e
  | val d => cases e; exact .fro h
  | lst xs =>
    cases e
    obtain ⟨a, rfl, h1, h2, h3, h4⟩ := h
    exact .new (s := .lst xs) rfl h1 (h4.resolve_left (by rw [hF]; simp)) h2 (by simp) h3
  | dK ks xs =>
    cases e
    obtain ⟨a, rfl, h1, h2, h3, h4⟩ := h
    exact .new (s := .dK ks xs) rfl h1 (h4.resolve_left (by rw [hF]; simp)) h2 (by simp) h3
  | dT ks xs =>
    cases e
    obtain ⟨a, rfl, h1, h2, h3, h4⟩ := h
    exact .new (s := .dT ks xs) rfl h1 (h4.resolve_left (by rw [hF]; simp)) h2 (by simp) h3
/-- a body's run, from its promise -/
theorem run_body {n : Nat} {np : Nat} {s : Sm} {g : Bool → List D → Is → R Sl} {N : List Str} {nl : Nat} {vs : List V} {Q : VK} {E : XK} (hl : N.length = nl) (hg : ∀ ro ds I, g ro ds I = runB (exec L.cn L.cf s ro (ds.map Sl.val ++ List.replicate (nl - np) .no) I)) (h : spF L np g vs H Q E) :
    tS L (fun cls d _ H => E cls d H) s { nx := fun _ H' => Q .non H', rt := Q } (L2.start N vs) H := by
  obtain ⟨hlen, ro, G, I, ds, haF, S, rv, hm⟩ := h
  rw [hg] at hm
  have hst : L2.start N vs = vs.map some ++ List.replicate (nl - np) none := by unfold L2.start; rw [hl, hlen]
  have hfr : FrR G.F G.M H (L2.start N vs) (ds.map Sl.val ++ List.replicate (nl - np) .no) [] := by rw [hst]; exact fr_start _ rv
  have S1 : Sx L.c ro G (ds.map Sl.val ++ List.replicate (nl - np) .no) I (L2.start N vs) H := ⟨haF ▸ hfr, S.is, S.nd, S.sep, S.sub, S.fine, S.tb⟩
  refine ⟨ro, G, _, I, S1, ?_⟩
  have hk := fun (h : ro = true) => (show (exec L.cn L.cf s ro (ds.map Sl.val ++ List.replicate (nl - np) .no) I).keeps I by subst h; exact exec_keeps _ _ _)
  have keep : ∀ {I' : Is}, (ro = true → I' = I) → (bif ro then I else I') = I' := fun {I'} h => by
    cases ro with
    | false => rfl
    | true => exact (h rfl).symm
  cases e : exec L.cn L.cf s ro (ds.map Sl.val ++ List.replicate (nl - np) .no) I with
  | nx fr' I' =>
    rw [e] at hm hk
    exact fun σ' G' H' x S' => hm .non { G' with aF := [] } H' (x.drop haF) (by rw [keep hk]; exact S'.drop) fun p q => by cases q; exact .fro .non
  | rt r I' =>
    rw [e] at hm hk
    exact fun v fr' σ' G' H' x S' q => hm v { G' with aF := [] } H' (x.drop haF) (by rw [keep hk]; exact S'.drop) fun p e => rt_rk haF q e
  | exc x fr' I' =>
    rw [e] at hm hk
    exact fun cls d σ' G' H' y S' q => hm cls d { G' with aF := [] } H' (y.drop haF) (by rw [keep hk]; exact S'.drop) q
  | bk fr' I' => rw [e] at hm; exact absurd hm id
  | ct fr' I' => rw [e] at hm; exact absurd hm id
  | bad => rw [e] at hm; exact absurd hm id
variable {P : Program} {w : World} {base : Heap} {Γ : Gm} {kn : Str → Option (Nat × Nat)} {kw : Kwt} {c : Cfg} {mg : Str → Option Value}
/-- what the module says of the names -/
structure ModOk (Γ : Gm) (kn : Str → Option (Nat × Nat)) (kw : Kwt) (C : Addr) (mg : Str → Option Value) (cs : List (Addr × Addr)) (T : List (Addr × Str)) : Prop where
  bi : ∀ x, x ∈ (["len", "all", "any", "sorted", "list", "tuple", "min", "max", "int", "str", "divmod", "dict", "sum", "isinstance", "range", "enumerate", "zip", "set", "bool", "KeyError"] : List Str) → mg x = none
  cn : ∀ x, kn x = some (0, 1) → ∃ d, Γ.cn x = some d ∧ (match d with
    | .int i => ∃ t, mg x = some (.int i t)
    | .str z => PyData.strOk z = true ∧ ∃ t, mg x = some (.str z t)
    | .tup ds => ∃ a vs, mg x = some (.ref a) ∧ (∀ H, SqT Kf.K H a vs) ∧ RVs (fun _ => none) [] vs ds
    | _ => False)
  xc : ∀ c, kn c = some (0, 3) → ∃ C, mg c = some (.ref C) ∧ PySem.W.excIn Kf.K C He.veBase "ValueError.__new__" = true ∧ PySem.W.keepIn Kf.K (.ref C) = true ∧ PySem.W.subIn Kf.K (.ref C) (.type "BaseException") = some true ∧ PySem.W.typeIn Kf.K (.ref C) = some (.type "type")
  tel : kn "_law_told" = some (0, 2) → TelD Kf.K mg "_law_told" (TTl mg tellN)
  fl : ∀ f, kn (fkey f) = some (0, 5) → Cls Kf.K C ∧ NoAttr Kf.K C f
  hs : kn "House" = some (0, 4) → mg "House" = some (.ref C) ∧ ∃ f, Mk Kf.K C f
  fn : ∀ x np nd, kn x = some (np, nd) → nd ≤ np → ∃ fd f fdt N ps dvs dfl, Γ.fn x = some fd ∧ ps.length = np ∧ dfl.length = nd ∧ DefOk kn kw C mg cs T x f fdt N ps dvs dfl fd
theorem call_if {n : Nat} {x : Str} {fd : Fd} {ps : List Str} {dfl : List D} (h : Γ.fn x = some fd) (hnp : ps.length = fd.np) (hdf : fd.dfl = dfl) (ro : Bool) (as : List D) (I : Is) :
    callN Γ (n + 1) x ro as I = if as.length ≤ ps.length ∧ ps.length ≤ as.length + dfl.length then bodyN Γ n fd ro (as ++ dfl.drop (as.length + dfl.length - ps.length)) I else .bad := by
  unfold callN
  rw [h]
  simp only [fillD, hdf, ← hnp]
  by_cases h1 : as.length ≤ ps.length ∧ ps.length ≤ as.length + dfl.length
  · rw [if_pos h1]
    simp only [decide_eq_true h1.1, decide_eq_true h1.2, Bool.and_self, cond_true]
    unfold bodyN
    rw [hnp]
  · rw [if_neg h1]
    have : (decide (as.length ≤ ps.length) && decide (ps.length ≤ as.length + dfl.length)) = false := by
      cases q : (decide (as.length ≤ ps.length) && decide (ps.length ≤ as.length + dfl.length)) with
      | false => rfl
      | true => simp only [Bool.and_eq_true, decide_eq_true_eq] at q; exact absurd q h1
    rw [this]; rfl
/-- what is known of all defs at a depth -/
def AllFn (Γ : Gm) (kn : Str → Option (Nat × Nat)) (kw : Kwt) (c : Cfg) (mg : Str → Option Value) (P : Program) (w : World) (base : Heap) (n : Nat) : Prop :=
  ∀ x np nd, kn x = some (np, nd) → nd ≤ np → ∃ f fdt ps dvs dfl g, ps.length = np ∧ dfl.length = nd ∧ FnR (lgN Γ kn kw c mg n) P w base (4 * n) x f fdt ps dvs dfl g
theorem def_ok {cs : List (Addr × Addr)} (m : ModOk Γ kn kw c.C mg cs c.Tb) (hT : ∀ p ∈ cs, LamX.TabB base mg p.1 p.2) {n : Nat} (ih : AllFn Γ kn kw c mg P w base n) {x : Str} {f : Addr} {fdt : FuncData} {N ps : List Str} {dvs : List V} {dfl : List D} {fd : Fd} (D : DefOk kn kw c.C mg cs c.Tb x f fdt N ps dvs dfl fd) :
    FnOk P w Kf.K mg base (L2.CX P w) (4 * (n + 1)) f fdt ps (spF (lgN Γ kn kw c mg (n + 1)) ps.length (bodyN Γ n fd)) := by
  obtain ⟨nm, qual, params, body, sc, fb, lam, F, S, ck, hl⟩ := D.F
  obtain ⟨oc, od, dV, kV, doc, pm, an, cdv, ct, osl, rfl, lk, hcd, _, _⟩ := F.ex
  refine fn_of (k := 4 * n + 3) lk hcd S (fun vs H Q E q => q.1) fun A outer s H vs Q E hr q => ⟨tS (lgN Γ (knB lam kn) kw c mg n) (fun cls d _ H => E cls d H) fd.body, ?_, ?_⟩
  · refine (stm_all fd.body).b ⟨rfl, rfl, rfl, S.nd, hr.units, L2.takes_of rfl rfl rfl rfl, passes_of rfl, m.bi, fun x h => m.cn x (knB_kn h), fun c' h => ?_, fun h => ?_, fun h => m.tel (knB_kn h), fun f h => m.fl f (knB_kn h), fun h => m.hs (knB_kn h), 4 * n, hr.mono (by omega), fun _ => hr, fun _ => hr.mono (by omega), fun x np nd h hd => ?_⟩ ⟨fun _ _ => rfl, rfl, rfl, L2H.passesAt_of rfl⟩ ck
    · obtain ⟨C, e1, e2, e3, e4, e5⟩ := m.xc c' (knB_kn h)
      exact ⟨C, e1, e2, e3, raises_own e4 e5⟩
    · cases lam with
      | false => exact absurd h (knB_no (kn := kn) _)
      | true =>
        obtain ⟨cc, Pt, e1, e2, e3, e4⟩ := hl rfl
        exact ⟨cc, Pt, hT _ e2, e1, e3, e4⟩
    · obtain ⟨f', fdt', ps', dvs', dfl', g', a1, a2, a3⟩ := ih x np nd (knB_kn h) hd
      exact ⟨f', fdt', ps', dvs', dfl', g', a1, a2, a3.kn (L := lgN Γ kn kw c mg n)⟩
  · have q := spF_lg (L := lgN Γ kn kw c mg (n + 1)) (L' := lgN Γ (knB lam kn) kw c mg n) rfl rfl q
    exact run_body (n := n) (nl := fd.nl) D.nl (fun ro ds I => by unfold bodyN; rw [D.np]; rfl) q
theorem fn_all {cs : List (Addr × Addr)} (m : ModOk Γ kn kw c.C mg cs c.Tb) (hT : ∀ p ∈ cs, LamX.TabB base mg p.1 p.2) : ∀ n, AllFn Γ kn kw c mg P w base n
  | 0, x, np, nd, h, hd => by
    obtain ⟨fd, f, fdt, N, ps, dvs, dfl, e, h1, h2, D⟩ := m.fn x np nd h hd
    obtain ⟨nm, qual, params, body, sc, fb, lam, F, S, ck, _⟩ := id D.F
    refine ⟨f, fdt, ps, dvs, dfl, fun _ _ _ => .bad, h1, h2, ⟨D.at_, D.mt, F.kp, ⟨fun vs H Q E q => q.1, fun A outer s H args us vs Q E hr e0 hb hv q => ?_⟩, D.dv, D.dl, D.bd, D.bk, fun ro as I => ?_⟩⟩
    · obtain ⟨_, ro, G, I, ds, _, _, _, z⟩ := q
      exact absurd z id
    · show callN Γ 0 x ro as I = _
      simp only [callN]
      split <;> rfl
  | n + 1, x, np, nd, h, hd => by
    obtain ⟨fd, f, fdt, N, ps, dvs, dfl, e, h1, h2, D⟩ := m.fn x np nd h hd
    obtain ⟨nm, qual, params, body, sc, fb, lam, F, S, ck, _⟩ := id D.F
    exact ⟨f, fdt, ps, dvs, dfl, bodyN Γ n fd, h1, h2, ⟨D.at_, D.mt, F.kp, def_ok m hT (fn_all m hT n) D, D.dv, D.dl, D.bd, D.bk, call_if e D.np D.df⟩⟩
theorem law_ok {cs : List (Addr × Addr)} (m : ModOk Γ kn kw c.C mg cs c.Tb) (hT : ∀ p ∈ cs, LamX.TabB base mg p.1 p.2) {n : Nat} {x : Str} {f : Addr} {fdt : FuncData} {N ps : List Str} {dvs : List V} {dfl : List D} {fd : Fd} (D : DefOk kn kw c.C mg cs c.Tb x f fdt N ps dvs dfl fd) :
    FnOk P w Kf.K mg base CX0 (4 * (n + 1)) f fdt ps (fun vs H Q _ => spF (lgN Γ kn kw c mg (n + 1)) ps.length (bodyN Γ n fd) vs H Q fun _ _ _ => False) := by
  have F := def_ok (P := P) (w := w) (base := base) (c := c) m hT (fn_all m hT n) D
  refine ⟨fun vs H Q E q => q.1, fun A outer s H args us vs Q E hr e0 hb hv q => codeAny_mono (F.run A outer s H args us vs Q _ hr e0 hb hv q) fun r s' h => ?_⟩
  cases r with
  | ok v => cases v <;> exact h
  | error e =>
    obtain ⟨_, _, _, _, _, _, _, _, _, _, _, _, z⟩ := h
    exact z.elim
/-- the law: at its start the tables are empty -/
theorem law_sp {n : Nat} {fd : Fd} {H : Hp} {a : Addr} {ns : List Int} {J : Is} (hp : bodyN Γ n fd false [.scr ns] [] = .ok (.val (.bl true)) J) (hT : ∀ p ∈ c.Tb, H p.1 = some (.tbl #[])) (hS : SqL Kf.K H a (ns.map V.int)) :
    spF (lgN Γ kn kw c mg (n + 1)) 1 (bodyN Γ n fd) [.ref a] H (fun v _ => v = .bl true) (fun _ _ _ => False) := by
  have go : ∀ F : Hp, (∀ a u, F a = some u → Sub H a u) → (∀ a u, F a = some u → Fine u) → RV F [] (.ref a) (.scr ns) → spF (lgN Γ kn kw c mg (n + 1)) 1 (bodyN Γ n fd) [.ref a] H (fun v _ => v = .bl true) (fun _ _ _ => False) := fun F h1 h2 r => by
    refine ⟨rfl, false, ⟨F, [], [], []⟩, [], [.scr ns], rfl, ⟨.nil, .nil, by simp, fun a ha => by simp at ha, h1, h2, fun q hq => .nil (hT q hq)⟩, .cons r .nil, ?_⟩
    rw [hp]
    intro v G' H' x S q
    exact (q _ rfl).bl
  rcases hS with (hS | ⟨o, hS⟩) | hS
  · exact go (upd (fun _ => none) a (.lst (ns.map V.int))) (fun b u e => by
      by_cases hb : b = a
      · subst hb; rw [upd_same] at e; cases e; exact .inl hS
      · rw [upd_ne hb] at e; cases e) (fun b u e => by
      by_cases hb : b = a
      · subst hb; rw [upd_same] at e; cases e; trivial
      · rw [upd_ne hb] at e; cases e) (.scrL upd_same)
  · exact go (upd (fun _ => none) a (.frz o (.lst (ns.map V.int)))) (fun b u e => by
      by_cases hb : b = a
      · subst hb; rw [upd_same] at e; cases e; exact .inl hS
      · rw [upd_ne hb] at e; cases e) (fun b u e => by
      by_cases hb : b = a
      · subst hb; rw [upd_same] at e; cases e; trivial
      · rw [upd_ne hb] at e; cases e) (.scr upd_same)
  · exact go (fun _ => none) (fun b u e => by cases e) (fun b u e => by cases e) (.scrK fun H => .inr hS)
end
theorem cx_end {P : Program} {w : World} (H : Hp) (s : Shared) (e : Value) (s' : Shared) (h : L2.CX P w [] H s (fun _ _ _ => False) e s') : False := by
  obtain ⟨_, _, _, _, _, _, _, _, _, _, _, _, z⟩ := h
  exact z.elim
end Air
/-! Air: an exception that is told (4): the walk of _law_class, bit by bit. -/
namespace Air
open PySem PySem.Spec PyProof.Rows L2 LamX L2H
section
variable {X : Cx} {p : Addr × Obj} {d : Option Addr} {nm : Str} {H0 : Hp}
/-- what is known of the context -/
structure CxC (X : Cx) (p : Addr × Obj) (d : Option Addr) (nm : Str) : Prop where
  xf : XcF X.K tellN nm
  pn : p ∈ X.pn
  hz : Zc (.ref (He.ga X.K nm)) d p.2
  hf : ∃ vs, p.2.data = .fields vs
  mg : ∀ y ∈ tellN, X.mg y = some (.ref (He.ga X.K y))
  bi : X.mg "isinstance" = none
  ve : X.mg "ValueError" = none
def Kt (a : Addr) (d : Option Addr) (H0 : Hp) (σ : L2.St) (H : Hp) (bs : List V) : Prop :=
  ∃ l, σ[0]? = some (some (.ref a)) ∧ σ[1]? = some (some (.ref l)) ∧ H l = some (.lst bs) ∧ DOk d H0 ∧ H0 l = none ∧ ∀ b o, H0 b = some o → H b = some o
theorem DOk.ext {H H' : Hp} (h : DOk d H) (k : ∀ b o, H b = some o → H' b = some o) : DOk d H' := h.imp id fun ⟨a, fs, e1, e2⟩ => ⟨a, fs, e1, k _ _ e2⟩
def bitV (nm : Str) (ys : List Str) : List V := ys.map fun z => V.bl (decide (z = nm))
/-- isinstance(e, y) -/
theorem pe_isP (C : CxC X p d nm) {e y : Str} {q q1 q2 pos : Pos} (hy : y ∈ tellN) (hg : Gl X "isinstance") (hgy : Gl X y) (hdb : (y == ("__debug__" : Str)) = false) (he : X.N[0]? = some e) (hv : Vis X.env.scope e) (h1 : (e == ("__debug__" : Str)) = false) (h2 : (e == ("__classdict__" : Str)) = false) :
    PE X (.Call (.Name "isinstance" q) [.Name e q1, .Name y q2] [] pos) (fun σ H Q => σ[0]? = some (some (.ref p.1)) ∧ DOk d H ∧ Q (.bl (decide (y = nm))) H) := by
  refine ⟨fun pins s σ H Q J h => ?_⟩
  exact (pe_callB (call_isP C.xf C.pn C.hz C.hf) hg C.bi (by decide +kernel) (pa_cons (pe_var he hv h1 h2) (pa_cons (pe_glob (v := .ref (He.ga X.K y)) hgy (C.mg y hy) rfl hdb) pa_nil))).run pins s σ H Q J ⟨_, h.1, _, _, _, rfl, fun u hu => hu, C.xf.is y hy, h.2.1, h.2.2⟩
/-- isinstance(e, ValueError) -/
theorem pe_isV (C : CxC X p d nm) {e : Str} {q q1 q2 pos : Pos} (hg : Gl X "isinstance") (hgy : Gl X "ValueError") (he : X.N[0]? = some e) (hv : Vis X.env.scope e) (h1 : (e == ("__debug__" : Str)) = false) (h2 : (e == ("__classdict__" : Str)) = false) :
    PE X (.Call (.Name "isinstance" q) [.Name e q1, .Name "ValueError" q2] [] pos) (fun σ H Q => σ[0]? = some (some (.ref p.1)) ∧ DOk d H ∧ Q (.bl true) H) := by
  refine ⟨fun pins s σ H Q J h => ?_⟩
  exact (pe_callB (call_isP C.xf C.pn C.hz C.hf) hg C.bi (by decide +kernel) (pa_cons (pe_var he hv h1 h2) (pa_cons (pe_bltn (v := .ty "ValueError") (u := .type "ValueError") hgy C.ve (by decide +kernel) rfl) pa_nil))).run pins s σ H Q J ⟨_, h.1, _, _, _, rfl, fun u hu => hu, C.xf.ve, h.2.1, h.2.2⟩
def taIs (a : Addr) (d : Option Addr) (nm : Str) (ys : List Str) : TA := fun σ H Q => σ[0]? = some (some (.ref a)) ∧ DOk d H ∧ Q (bitV nm ys) H
theorem pa_is_nil : PA X [] (taIs p.1 d nm []) := ⟨fun pos pins s σ H Q J h => (pa_nil (X := X)).run pos pins s σ H Q J h.2.2⟩
theorem pa_is_cons {e : Expr} {es : List Expr} {y : Str} {ys : List Str} (he : PE X e (fun σ H Q => σ[0]? = some (some (.ref p.1)) ∧ DOk d H ∧ Q (.bl (decide (y = nm))) H)) (hes : PA X es (taIs p.1 d nm ys)) (hst : starEach (e :: es) X.env = (false, eval e X.env) :: starEach es X.env) : PA X (e :: es) (taIs p.1 d nm (y :: ys)) :=
  ⟨fun pos pins s σ H Q J h => (pa_cons he hes hst).run pos pins s σ H Q J ⟨h.1, h.2.1, h.1, h.2.1, h.2.2⟩⟩
def taStr (ys : List Str) : TA := fun _ H Q => Q (ys.map V.str) H
theorem pa_str_nil : PA X [] (taStr []) := ⟨fun pos pins s σ H Q J h => (pa_nil (X := X)).run pos pins s σ H Q J h⟩
theorem pa_str_cons {e : Expr} {es : List Expr} {y : Str} {ys : List Str} (he : PE X e (tC (.str y))) (hes : PA X es (taStr ys)) (hst : starEach (e :: es) X.env = (false, eval e X.env) :: starEach es X.env) : PA X (e :: es) (taStr (y :: ys)) :=
  ⟨fun pos pins s σ H Q J h => (pa_cons he hes hst).run pos pins s σ H Q J h⟩
/-- kinds = [..] -/
theorem ps_kinds {es : List Expr} {ys : List Str} {k : Str} {px pos lp : Pos} (hes : PA X es (taIs p.1 d nm ys)) (nd : X.N.Nodup) (hk : X.N[1]? = some k) (hl : X.env.scope.names.lookup k = some .local) (hy : ys.length ≤ 1000) :
    PS X (.Assign [.Name k px] (.List es lp) pos) (fun D σ H => σ[0]? = some (some (.ref p.1)) ∧ DOk d H ∧ 1 < σ.length ∧ ∀ σ' H', σ'.length = σ.length → Kt p.1 d H σ' H' (bitV nm ys) → D.nx σ' H') := by
  refine ⟨fun pins s σ H D J h => ?_⟩
  obtain ⟨h1, h2, h3, h4⟩ := h
  refine (ps_set (i := 1) nd hk (.inl hl) (pe_lst hes) (hf := .inr hl)).run pins s σ H D J ⟨h1, h2, ?_, fun l hl => h4 _ _ (by rw [List.length_set]) ⟨l, ?_, ?_, upd_same, h2, hl, fun b o e => by rw [upd_ne (ne_of_none e hl)]; exact e⟩⟩
  · have : (1000 : Nat) ≤ sizeLine := by decide
    have : (bitV nm ys).length = ys.length := by simp [bitV]
    omega
  · rw [List.getElem?_set_ne (by decide)]; exact h1
  · rw [List.getElem?_set_self h3]
/-- kinds.extend([..]) -/
theorem ps_kext {es : List Expr} {ys : List Str} {k : Str} {p1 p2 p3 pos lp : Pos} (hes : PA X es (taIs p.1 d nm ys)) (hk : X.N[1]? = some k) (hv : Vis X.env.scope k) (h1 : (k == ("__debug__" : Str)) = false) (h2 : (k == ("__classdict__" : Str)) = false) (hy : ys.length ≤ 1000) (hline : (p2.endLine == p3.line) = true) :
    PS X (.Expr (.Call (.Attribute (.Name k p1) "extend" p2) [.List es lp] [] p3) pos) (fun D σ H => ∃ bs, Kt p.1 d H0 σ H bs ∧ bs.length ≤ 1000 ∧ ∀ H', Kt p.1 d H0 σ H' (bs ++ bitV nm ys) → D.nx σ H') := by
  refine ⟨fun pins s σ H D J h => ?_⟩
  obtain ⟨bs, ⟨l, e1, e2, e3, e4, e5, e6⟩, hb, q⟩ := h
  have sz : (3000 : Nat) ≤ sizeLine := by decide
  have ln : (bitV nm ys).length = ys.length := by simp [bitV]
  refine (ps_expr (pe_bm PySem.F.plainAttrs_list PySem.F.slot_list_extend PySem.F.type_list_extend mt_extend (pe_var hk hv h1 h2) (pa_cons (pe_lst hes) pa_nil) (by rfl) (by rfl) hline (by rfl) (by rfl)) (by rfl)).run pins s σ H D J ⟨_, e2, .inl ⟨rfl, _, .of e3⟩, e1, e4.ext e6, ⟨by omega, fun l2 hl2 => ⟨l, l2, bs, _, rfl, rfl, by rw [upd_ne (ne_of_none e3 hl2)]; exact e3, upd_same, by omega, q _ ⟨l, e1, e2, upd_same, e4, e5, fun b o e => ?_⟩⟩⟩⟩
  rw [upd_ne (ne_of_none e e5), upd_ne (ne_of_none (e6 b o e) hl2)]
  exact e6 b o e
/-- kinds.append(..) -/
theorem ps_kapp {a : Expr} {y : Str} {k : Str} {p1 p2 p3 pos : Pos} (he : PE X a (fun σ H Q => σ[0]? = some (some (.ref p.1)) ∧ DOk d H ∧ Q (.bl (decide (y = nm))) H)) (hk : X.N[1]? = some k) (hv : Vis X.env.scope k) (h1 : (k == ("__debug__" : Str)) = false) (h2 : (k == ("__classdict__" : Str)) = false) (hline : (p2.endLine == p3.line) = true)
    (hst : starEach [a] X.env = [(false, eval a X.env)]) (hfew : ((backTo p3 (starEach [a] X.env)).all (fun x => !x.1) && (backToKw p3 (keywordEach [] X.env)).all (fun x => x.1.isSome) && decide ([a].length + ([] : List Keyword).length + (if ([] : List Keyword).isEmpty then 0 else 1) < 30)) = true) :
    PS X (.Expr (.Call (.Attribute (.Name k p1) "append" p2) [a] [] p3) pos) (fun D σ H => ∃ bs, Kt p.1 d H0 σ H bs ∧ bs.length ≤ 1000 ∧ ∀ H', Kt p.1 d H0 σ H' (bs ++ bitV nm [y]) → D.nx σ H') := by
  refine ⟨fun pins s σ H D J h => ?_⟩
  obtain ⟨bs, ⟨l, e1, e2, e3, e4, e5, e6⟩, hb, q⟩ := h
  have sz : (3000 : Nat) ≤ sizeLine := by decide
  refine (ps_expr (pe_bm PySem.F.plainAttrs_list PySem.F.slot_list_append PySem.F.type_list_append mt_append (pe_var hk hv h1 h2) (pa_cons he pa_nil hst) (by rfl) hfew hline hst (by rfl)) (by rfl)).run pins s σ H D J ⟨_, e2, .inl ⟨rfl, _, .of e3⟩, e1, e4.ext e6, ⟨l, bs, _, rfl, rfl, e3, by omega, q _ ⟨l, e1, e2, upd_same, e4, e5, fun b o e => ?_⟩⟩⟩
  rw [upd_ne (ne_of_none e e5)]
  exact e6 b o e
/-- the list of names: what stands at place 2 -/
def Kn (σ : L2.St) (H : Hp) (zs : List V) (H1 : Hp) : Prop := ∃ l, σ[2]? = some (some (.ref l)) ∧ H l = some (.lst zs) ∧ H1 l = none ∧ ∀ b o, H1 b = some o → H b = some o
theorem ps_some {es : List Expr} {ys : List Str} {k : Str} {px pos lp : Pos} (hes : PA X es (taStr ys)) (nd : X.N.Nodup) (hk : X.N[2]? = some k) (hl : X.env.scope.names.lookup k = some .local) (hy : ys.length ≤ 1000) :
    PS X (.Assign [.Name k px] (.List es lp) pos) (fun D σ H => 2 < σ.length ∧ ∀ l H', (∀ b o, H b = some o → H' b = some o) → Kn (σ.set 2 (some (.ref l))) H' (ys.map V.str) H → D.nx (σ.set 2 (some (.ref l))) H') := by
  refine ⟨fun pins s σ H D J h => ?_⟩
  obtain ⟨h1, h2⟩ := h
  have kp : ∀ l : Addr, H l = none → ∀ b o, H b = some o → upd H l (.lst (ys.map V.str)) b = some o := fun l hl b o e => by rw [upd_ne (ne_of_none e hl)]; exact e
  refine (ps_set (i := 2) nd hk (.inl hl) (pe_lst hes) (hf := .inr hl)).run pins s σ H D J ⟨?_, fun l hl => h2 l _ (kp l hl) ⟨l, List.getElem?_set_self h1, upd_same, hl, kp l hl⟩⟩
  have : (1000 : Nat) ≤ sizeLine := by decide
  rw [List.length_map]; omega
theorem ps_sext {es : List Expr} {ys : List Str} {k : Str} {p1 p2 p3 pos lp : Pos} (hes : PA X es (taStr ys)) (hk : X.N[2]? = some k) (hv : Vis X.env.scope k) (h1 : (k == ("__debug__" : Str)) = false) (h2 : (k == ("__classdict__" : Str)) = false) (hy : ys.length ≤ 1000) (hline : (p2.endLine == p3.line) = true) :
    PS X (.Expr (.Call (.Attribute (.Name k p1) "extend" p2) [.List es lp] [] p3) pos) (fun D σ H => ∃ H0 zs, Kn σ H (zs.map V.str) H0 ∧ zs.length ≤ 1000 ∧ ∀ H', Kn σ H' ((zs ++ ys).map V.str) H0 → D.nx σ H') := by
  refine ⟨fun pins s σ H D J h => ?_⟩
  obtain ⟨H0, zs, ⟨l, e2, e3, e5, e6⟩, hb, q⟩ := h
  have sz : (3000 : Nat) ≤ sizeLine := by decide
  refine (ps_expr (pe_bm PySem.F.plainAttrs_list PySem.F.slot_list_extend PySem.F.type_list_extend mt_extend (pe_var hk hv h1 h2) (pa_cons (pe_lst hes) pa_nil) (by rfl) (by rfl) hline (by rfl) (by rfl)) (by rfl)).run pins s σ H D J ⟨_, e2, .inl ⟨rfl, _, .of e3⟩, ⟨by rw [List.length_map]; omega, fun l2 hl2 => ⟨l, l2, _, _, rfl, rfl, by rw [upd_ne (ne_of_none e3 hl2)]; exact e3, upd_same, by rw [List.length_map, List.length_map]; omega, q _ ⟨l, e2, by rw [List.map_append]; exact upd_same, e5, fun b o e => ?_⟩⟩⟩⟩
  rw [upd_ne (ne_of_none e e5), upd_ne (ne_of_none (e6 b o e) hl2)]
  exact e6 b o e
/-- if kinds.count(True) != 1 or not isinstance(e, ValueError): return .. -/
theorem ps_kif {ev : Expr} {k w : Str} {j1 j2 j3 : Nat} {p1 p2 p3 p4 p5 p6 p7 p8 p9 p10 pos : Pos} (hv : PE X ev (fun σ H Q => σ[0]? = some (some (.ref p.1)) ∧ DOk d H ∧ Q (.bl true) H)) (hvt : ∀ whole, isTrue ev X.env whole = (do let v ← whole; standAt ev.pos; holding [v] (truthy v))) (hk : X.N[1]? = some k) (hvk : Vis X.env.scope k) (h1 : (k == ("__debug__" : Str)) = false) (h2 : (k == ("__classdict__" : Str)) = false) (hline : (p2.endLine == p4.line) = true) (hnm : nm ∈ tellN) :
    PS X (.If (.BoolOp .Or [.Compare (.Call (.Attribute (.Name k p1) "count" p2) [.Constant (.bool true) j1 p3] [] p4) [.NotEq] [.Constant (.int 1) j2 p5] p6, .UnaryOp .Not ev p7] p8) [.Return (some (.Constant (.str w) j3 p9)) pos] [] p10) (fun D σ H => Kt p.1 d H0 σ H (bitV nm tellN) ∧ D.nx σ H) := by
  refine ⟨fun pins s σ H D J h => ?_⟩
  obtain ⟨⟨l, e1, e2, e3, e4, e5, e6⟩, q⟩ := h
  have cb := cls_bits hnm
  have fl : (bitV nm tellN).all flatV = true := by
    unfold bitV
    rw [List.all_map, List.all_eq_true]
    intro x _; rfl
  refine (ps_if (PW.pt (pw_or (pt_cmpR op_ne (pe_bm PySem.F.plainAttrs_list PySem.F.slot_list_count PySem.F.type_list_count mt_countV (pe_var hk hvk h1 h2) (pa_cons pe_bl pa_nil) (by rfl) (by rfl) hline (by rfl) (by rfl)) pe_int (nomark _)) (pw_or1 (pt_not (pt_val hv hvt))))) (pss_one (ps_ret pe_str)) pss_nil).run pins s σ H D J ?_
  refine ⟨_, e2, .inl ⟨rfl, _, .of e3⟩, l, _, .bl true, rfl, rfl, .of e3, rfl, fl, rfl, false, ?_, ?_⟩
  · have c1 : ((bitV nm tellN).countP fun z => eqV z (.bl true)) = 1 := cb.1
    rw [c1]; rfl
  · dsimp only
    rw [if_neg Bool.false_ne_true]
    exact ⟨e1, e4.ext e6, true, rfl, q⟩
/-- return some[kinds.index(True)] -/
theorem ps_kret {k m : Str} {j1 : Nat} {p1 p2 p3 p4 p5 p6 pos : Pos} (hk : X.N[1]? = some k) (hvk : Vis X.env.scope k) (h1 : (k == ("__debug__" : Str)) = false) (h2 : (k == ("__classdict__" : Str)) = false) (hm : X.N[2]? = some m) (hvm : Vis X.env.scope m) (g1 : (m == ("__debug__" : Str)) = false) (g2 : (m == ("__classdict__" : Str)) = false) (hline : (p2.endLine == p4.line) = true) (hnm : nm ∈ tellN) :
    PS X (.Return (some (.Subscript (.Name m p5) (.Call (.Attribute (.Name k p1) "index" p2) [.Constant (.bool true) j1 p3] [] p4) p6)) pos) (fun D σ H => Kt p.1 d H0 σ H (bitV nm tellN) ∧ (∃ H1, Kn σ H (tellN.map V.str) H1) ∧ D.rt (.str nm) H) := by
  refine ⟨fun pins s σ H D J h => ?_⟩
  obtain ⟨⟨l, e1, e2, e3, e4, e5, e6⟩, ⟨H1, l2, f1, f2, f3, f4⟩, q⟩ := h
  obtain ⟨c1, j, c2, c3, c4⟩ := cls_bits hnm
  have fl : (bitV nm tellN).all flatV = true := by
    unfold bitV
    rw [List.all_map, List.all_eq_true]
    intro x _; rfl
  exact (ps_ret (pe_ix ix_list (pe_var hm hvm g1 g2) (pe_bm PySem.F.plainAttrs_list PySem.F.slot_list_index PySem.F.type_list_index mt_index (pe_var hk hvk h1 h2) (pa_cons pe_bl pa_nil) (by rfl) (by rfl) hline (by rfl) (by rfl)) fun _ _ => rfl)).run pins s σ H D J
    ⟨_, f1, _, e2, .inl ⟨rfl, _, .of e3⟩, l, _, .bl true, j, .bl true, rfl, rfl, .of e3, rfl, fl, c2, rfl, c3, l2, _, _, _, rfl, rfl, .of f2, c4, q⟩
theorem Kt.on {a : Addr} {σ : L2.St} {H H' : Hp} {bs : List V} (k : Kt a d H0 σ H bs) (l2 : Addr) (g : ∀ b o, H b = some o → H' b = some o) : Kt a d H0 (σ.set 2 (some (.ref l2))) H' bs := by
  obtain ⟨l, e1, e2, e3, e4, e5, e6⟩ := k
  exact ⟨l, by rw [List.getElem?_set_ne (by decide)]; exact e1, by rw [List.getElem?_set_ne (by decide)]; exact e2, g _ _ e3, e4, e5, fun b o e => g b o (e6 b o e)⟩
theorem Kn.keep {σ : L2.St} {H H1 : Hp} {zs : List V} (k : Kn σ H zs H1) : ∀ b o, H1 b = some o → H b = some o := by
  obtain ⟨l, _, _, _, h⟩ := k
  exact h
theorem Kt.keep {a : Addr} {σ : L2.St} {H : Hp} {bs : List V} (k : Kt a d H0 σ H bs) : ∀ b o, H0 b = some o → H b = some o := by
  obtain ⟨l, _, _, _, _, _, h⟩ := k
  exact h
end
end Air
/-! Air: what the head's facts say. -/
namespace Air
open PySem PySem.Spec PyProof.Rows L2
theorem code_at {K : PySem.W.Frag} {p : He.Defn} {nm qual : Str} {params : Arguments} {body : List Stmt} {sc : Scope} {dvs : List V} {fdt : FuncData} (F : FunD K nm qual params body sc dvs [] (He.fAd K p) fdt) : fdt.code = .ref (He.codeOf K p) := by
  obtain ⟨oc, od, dV, kV, doc, pm, an, cdv, ct, osl, rfl, lk, hcd, _, _⟩ := F.ex
  obtain ⟨c, rfl⟩ := He.codeIn_ref hcd
  unfold He.codeOf
  rw [lk]
def tbOf (K : PySem.W.Frag) (tf : List He.Defn) : List (Addr × Str) := tf.map fun p => ((He.cT K p).2, p.1 ++ ".<locals>." ++ "<lambda>")
def tbB (K : PySem.W.Frag) (tf : List He.Defn) : Bool := decide ((tf.map fun p => (He.cT K p).2).Nodup)
theorem tb_uniq {K : PySem.W.Frag} : ∀ {tf : List He.Defn} {p : He.Defn}, (tf.map fun p => (He.cT K p).2).Nodup → p ∈ tf → ∀ q ∈ tbOf K tf, q.1 = (He.cT K p).2 → q.2 = p.1 ++ ".<locals>." ++ "<lambda>"
  | [], p, _, hp, _, _, _ => by simp at hp
  | a :: tf, p, nd, hp, q, hq, e => by
    have nd := List.nodup_cons.mp (show ((He.cT K a).2 :: tf.map fun p => (He.cT K p).2).Nodup from nd)
    have mem : ∀ r ∈ tbOf K tf, r.1 ∈ tf.map fun p => (He.cT K p).2 := fun r hr => by
      obtain ⟨b, hb, rfl⟩ := List.mem_map.mp hr
      exact List.mem_map.mpr ⟨b, hb, rfl⟩
    rcases List.mem_cons.mp hp with rfl | hp <;> rcases List.mem_cons.mp (show q ∈ ((He.cT K _).2, _) :: tbOf K tf from hq) with rfl | hq
    · rfl
    · exact absurd (e ▸ mem q hq) nd.1
    · refine absurd ?_ nd.1
      show (He.cT K a).2 ∈ _
      have e : (He.cT K a).2 = (He.cT K p).2 := e
      rw [e]
      exact List.mem_map.mpr ⟨p, hp, rfl⟩
    · exact tb_uniq nd.2 hp q hq e
theorem lam_ok {K : PySem.W.Frag} {tf : List He.Defn} {p : He.Defn} {nm : Str} {params : Arguments} {body : List Stmt} {sc : Scope} {dvs : List V} {fdt : FuncData} (hb : tbB K tf = true) (hp : p ∈ tf) (F : FunD K nm p.1 params body sc dvs [] (He.fAd K p) fdt) :
    ∃ cc P, fdt.code = .ref cc ∧ (cc, P) ∈ tf.map (He.cT K) ∧ (P, p.1 ++ ".<locals>." ++ "<lambda>") ∈ tbOf K tf ∧ ∀ q ∈ tbOf K tf, q.1 = P → q.2 = p.1 ++ ".<locals>." ++ "<lambda>" :=
  ⟨He.codeOf K p, (He.cT K p).2, code_at F, List.mem_map.mpr ⟨p, hp, rfl⟩, List.mem_map.mpr ⟨p, hp, rfl⟩, tb_uniq (of_decide_eq_true hb) hp⟩
section
variable {fa : List He.Fa} {fn : List He.DefD} {ts : List He.Tab} {tf : List He.Defn} {ex : PySem.W.Frag → Bool} {w : World} {h : Heap} {K : PySem.W.Frag}
theorem tabs_empty (c : He.SaysX fa fn ts tf ex w h K) : ∀ p ∈ tf.map (He.cT K), h.get? p.2 = some { cls := .none, data := .fields #[] } := fun p hp => by
  obtain ⟨q, hq, rfl⟩ := List.mem_map.mp hp
  exact c.empty q hq
theorem tabs_out (c : He.SaysX fa fn ts tf ex w h K) : ∀ p ∈ tf.map (He.cT K), K.lookup p.2 = none := fun p hp => by
  obtain ⟨q, hq, rfl⟩ := List.mem_map.mp hp
  exact c.out q hq
theorem tabs_hd (X : K.In h) (c : He.SaysX fa fn ts tf ex w h K) : ∀ p ∈ tf.map (He.cT K), PySem.W.CodeHd h p.1 p.2 := fun p hp => by
  obtain ⟨q, hq, rfl⟩ := List.mem_map.mp hp
  exact PySem.W.codeHd_of_K X (c.hd q hq)
theorem tabs_at {H : Hp} (hH : ∀ p ∈ tf.map (He.cT K), H p.2 = some (.tbl #[])) : ∀ p ∈ tbOf K tf, H p.1 = some (.tbl #[]) := fun p hp => by
  obtain ⟨q, hq, rfl⟩ := List.mem_map.mp hp
  exact hH _ (List.mem_map.mpr ⟨q, hq, rfl⟩)
end
end Air
/-! Air: keys of methods, keywords in the head. -/
namespace Air
open PySem PySem.Spec PyProof.Rows L2
theorem app_cps (a b : Str) : (a ++ b).cps.toList = a.cps.toList ++ b.cps.toList := by
  show (a.cps ++ b.cps).toList = _
  simp
theorem mkB_mkey (m : Str) : mkB (mkey m) = true := by
  unfold mkB mkey
  rw [app_cps]
  refine decide_eq_true ?_
  have h : ("House." : Str).cps.toList.length = 6 := by decide +kernel
  rw [← h, List.take_left]
theorem mkey_inj {a b : Str} (h : mkey a = mkey b) : a = b := by
  have h2 : (mkey a).cps.toList = (mkey b).cps.toList := by rw [h]
  unfold mkey at h2
  rw [app_cps, app_cps] at h2
  have h3 := List.append_cancel_left h2
  obtain ⟨⟨x⟩⟩ := a
  obtain ⟨⟨y⟩⟩ := b
  have h3 : x = y := h3
  rw [h3]
theorem fkey_inj {a b : Str} (h : fkey a = fkey b) : a = b := by
  have h2 : (fkey a).cps.toList = (fkey b).cps.toList := by rw [h]
  unfold fkey at h2
  rw [app_cps, app_cps] at h2
  have h3 := List.append_cancel_left h2
  obtain ⟨⟨x⟩⟩ := a
  obtain ⟨⟨y⟩⟩ := b
  have h3 : x = y := h3
  rw [h3]
theorem no_mkey {x m : Str} (hx : mkB x = false) (h : x = mkey m) {p : Prop} : p := by
  rw [h, mkB_mkey] at hx; cases hx
/-- what is written, in the parameters' order; defaults by their places -/
def pmG (pm : List (Sum Nat Nat)) (us its ws : List Value) : List Value := pm.map fun p => match p with
  | .inl j => ((us ++ ws)[j]?).getD .none
  | .inr i => (its[i]?).getD .none
def PmOk (dvs : List V) : List (Sum Nat Cs) → List (Sum Nat Nat) → Prop
  | [], [] => True
  | .inl j :: r, .inl k :: s => j = k ∧ PmOk dvs r s
  | .inr c :: r, .inr i :: s => dvs[i]? = some c.v ∧ PmOk dvs r s
  | _, _ => False
theorem Vals.getD : ∀ {vs : List V} {us : List Value} (j : Nat), Vals vs us → RelV ((vs[j]?).getD .non) ((us[j]?).getD .none)
  | _, _, j, .nil => by simp; exact rfl
  | _, _, 0, .cons r rs => by simpa using r
  | _, _, j + 1, .cons r rs => by simpa using Vals.getD j rs
theorem pm_rel {dvs : List V} {its : List Value} (hd : Vals dvs its) {vs zs : List V} {us ws : List Value} (h1 : Vals vs us) (h2 : Vals zs ws) : ∀ {pm : List (Sum Nat Cs)} {pi : List (Sum Nat Nat)}, PmOk dvs pm pi → Vals (pmV pm vs zs) (pmG pi us its ws)
  | [], [], _ => .nil
  | .inl j :: r, .inl k :: s, h => by
    obtain ⟨rfl, h⟩ := h
    exact .cons (Vals.getD j (h1.append h2)) (pm_rel hd h1 h2 h)
  | .inr c :: r, .inr i :: s, h => by
    obtain ⟨e, h⟩ := h
    have q := Vals.getD i hd
    rw [e] at q
    exact .cons q (pm_rel hd h1 h2 h)
  | .inl _ :: _, .inr _ :: _, h => by cases h
  | .inr _ :: _, .inl _ :: _, h => by cases h
  | [], _ :: _, h => by cases h
  | .inl _ :: _, [], h => by cases h
  | .inr _ :: _, [], h => by cases h
section
variable {K : PySem.W.Frag} {x qual : Str} {params : Arguments} {body : List Stmt} {scope : Scope} {dvs : List V} {kws : List (Str × V)} {f : Addr} {fd : FuncData} {ps : List Str}
theorem kbn_D (F : FunD K x qual params body scope dvs kws f fd) (n : Nat) (ks : List Str) (pm : List (Sum Nat Cs)) (pi : List (Sum Nat Nat)) (hd : dvs ≠ []) (hp : PmOk dvs pm pi)
    (h : ∀ (T : Addr) (kV doc pm : Value) (an : Option Addr) (cdv ct : Value) (us its ws : List Value), us.length = n → its.length = dvs.length → ws.length = ks.length →
      ∃ k, bindArgs (PySem.W.fnOf x qual params body scope (.ref T) kV doc pm an cdv ct) ⟨us, ks.zip ws⟩ = seqItems? (.ref T) >>= k ∧ k (some its.toArray) = pure (ps.zip (pmG pi us its ws))) :
    ∃ g', KBn K fd ps n ks g' (pmV pm) := by
  obtain ⟨oc, od, dV, kV, doc, pm', an, cdv, ct, osl, rfl, lk, hcd, hD, hK⟩ := F.ex
  rcases hD with ⟨e, _⟩ | ⟨_, T, o, its, m, rfl, lT, oT, rT⟩
  · exact absurd e hd
  · refine ⟨fun us ws => pmG pi us its ws, ⟨fun s us ws X l1 l2 => ?_, fun r1 r2 => pm_rel rT r1 r2 hp⟩⟩
    obtain ⟨k, e1, e2⟩ := h T kV doc pm' an cdv ct us its ws l1 rT.length.symm l2
    refine BindsTo.of_looks fun M => ?_
    rw [e1]
    exact looks_items X lT oT (.of_pure e2)
theorem kbn_N (F : FunD K x qual params body scope [] kws f fd) (n : Nat) (ks : List Str) (pm : List (Sum Nat Cs)) (pi : List (Sum Nat Nat)) (hp : PmOk [] pm pi)
    (h : ∀ (kV doc pm : Value) (an : Option Addr) (cdv ct : Value) (us ws : List Value), us.length = n → ws.length = ks.length →
      bindArgs (PySem.W.fnOf x qual params body scope .none kV doc pm an cdv ct) ⟨us, ks.zip ws⟩ = pure (ps.zip (pmG pi us [] ws))) :
    ∃ g', KBn K fd ps n ks g' (pmV pm) := by
  obtain ⟨oc, od, dV, kV, doc, pm', an, cdv, ct, osl, rfl, lk, hcd, hD, hK⟩ := F.ex
  rcases hD with ⟨_, rfl⟩ | ⟨e, _⟩
  · refine ⟨fun us ws => pmG pi us [] ws, ⟨fun s us ws X l1 l2 => ?_, fun r1 r2 => pm_rel .nil r1 r2 hp⟩⟩
    exact .of_eq (h kV doc pm' an cdv ct us ws l1 l2)
  · exact absurd rfl e
end
theorem bd_of {K : PySem.W.Frag} {fd : FuncData} {ps : List Str} {dvs : List V} (h : ∀ j, j ≤ dvs.length → ∃ ds, Vals (dvs.drop j) ds ∧ Binds K fd ps ds) : ∀ m, m ≤ dvs.length → ∃ ds, Binds K fd ps ds ∧ Vals (dvs.drop (dvs.length - m)) ds := fun m hm =>
  let ⟨ds, a, b⟩ := h (dvs.length - m) (Nat.sub_le _ _)
  ⟨ds, b, a⟩
/-- a class's body -/
def clsB : Stmt → List Stmt
  | .ClassDef _ _ _ b _ _ _ _ _ _ _ => b
  | _ => []
theorem lookup_mem {α : Type} {x : Str} {v : α} : ∀ {l : List (Str × α)}, l.lookup x = some v → (x, v) ∈ l
  | [], h => by cases h
  | (y, u) :: r, h => by
    rw [List.lookup_cons] at h
    cases q : x == y with
    | true => rw [q] at h; cases h; rw [eq_of_beq q]; exact List.mem_cons_self
    | false => rw [q] at h; exact List.mem_cons_of_mem _ (lookup_mem h)
def kwL : List ((Nat × List Str) × List (Sum Nat Cs)) → Nat → List Str → Option (List (Sum Nat Cs))
  | [], _, _ => none
  | ((m, l), p) :: r, n, ks => if m = n ∧ l = ks then some p else kwL r n ks
theorem kwL_mem : ∀ {t : List ((Nat × List Str) × List (Sum Nat Cs))} {n : Nat} {ks : List Str} {p : List (Sum Nat Cs)}, kwL t n ks = some p → ((n, ks), p) ∈ t
  | [], _, _, _, h => by cases h
  | ((m, l), q) :: r, n, ks, p, h => by
    unfold kwL at h
    split at h
    · rename_i e; cases h; rw [e.1, e.2]; exact List.mem_cons_self
    · exact List.mem_cons_of_mem _ (kwL_mem h)
end Air
/-! Air: plain laws (1): the drawing. -/
namespace Air
open PySem L2
theorem atI_in {α : Type} {xs : List α} {i : Int} (h0 : 0 ≤ i) (h1 : i < xs.length) : L2.atI xs i = xs[i.toNat]? := by
  unfold L2.atI L2.ixN
  rw [if_pos h0, if_pos h1]; rfl
theorem atI_some {α : Type} {xs : List α} {i : Int} (h0 : 0 ≤ i) (h1 : i < xs.length) : ∃ a, L2.atI xs i = some a ∧ a ∈ xs := by
  rw [atI_in h0 h1]
  have : i.toNat < xs.length := by omega
  exact ⟨xs[i.toNat], by simp [this], List.getElem_mem this⟩
theorem pyeq_scr_nil (ns : List Int) : D.pyeq (.scr ns) (.lst []) = ns.isEmpty := by
  cases ns <;> simp [D.pyeq, D.py, D.pys, PyData.eqv, PyData.eqvAll]
def pickS : Sm := (.cons (.asg 3 (.ite (.cmp .ne (.loc 0) (.lst .nil)) (.sub (.loc 0) (.bin .md (.loc 1) (.blt .len (.cons (.loc 0) .nil)))) (.cns (.int 0))))
      (.cons (.par [(4, false), (5, false)] (.cons (.bin .fdiv (.loc 3) (.bin .pow (.cns (.int 10)) (.cns (.int 18)))) (.cons (.bin .fdiv (.loc 1) (.blt .max2 (.cons (.blt .len (.cons (.loc 0) .nil)) (.cons (.cns (.int 1)) .nil)))) .nil)))
      (.cons (.whl 1000000 (.and (.cmp .gt (.loc 4) (.cns (.int 0))) (.cmp .gt (.loc 5) (.cns (.int 0)))) (.cons (.par [(4, false), (5, false)] (.cons (.bin .fdiv (.loc 4) (.cns (.int 840))) (.cons (.bin .sub (.loc 5) (.cns (.int 1))) .nil)))
      .nil))
      (.cons (.iff (.cmp .gt (.loc 4) (.cns (.int 0))) (.cons (.ret (.bin .md (.bin .md (.loc 4) (.cns (.int 840))) (.loc 2)))
      .nil) .nil)
      (.cons (.asg 6 (.bin .md (.bin .mul (.bin .add (.bin .mul (.loc 3) (.cns (.int 31))) (.bin .mul (.cns (.int 6151)) (.bin .add (.loc 1) (.cns (.int 1))))) (.cns (.int 40692))) (.cns (.int 2147483399))))
      (.cons (.ret (.bin .md (.bin .md (.bin .add (.bin .mul (.loc 6) (.loc 6)) (.bin .fdiv (.loc 6) (.cns (.int 31)))) (.cns (.int 2147483629))) (.loc 2)))
      .nil))))))
def pickCell (ns : List Int) (k : Int) : Int := if ns = [] then 0 else (L2.atI ns (k % ns.length)).getD 0
def divL : Nat → Int → Int × Int
  | 0, r => (r, 0)
  | t + 1, r => if 0 < r then divL t (r / 840) else (r, ((t + 1 : Nat) : Int))
def pickF (ns : List Int) (k m : Int) : Int :=
  let c := pickCell ns k
  let r := (divL (k / max (ns.length : Int) 1).toNat (c / 10 ^ 18)).1
  if 0 < r then r % 840 % m else
    let d := (c * 31 + 6151 * (k + 1)) * 40692 % 2147483399
    (d * d + d / 31) % 2147483629 % m
section
variable {cn : Str → Option D} {cf : Str → Bool → List D → Is → R Sl}
theorem pick_loop (a b c d e : Sl) (ro : Bool) (I : Is) : ∀ (t : Nat) (r : Int) (fuel : Nat), t < fuel →
    whlL (fun fr I => (ev cn cf (.and (.cmp .gt (.loc 4) (.cns (.int 0))) (.cmp .gt (.loc 5) (.cns (.int 0)))) ro fr I).tst fun t I => .ok t I)
      (fun fr I => exec cn cf (.cons (.par [(4, false), (5, false)] (.cons (.bin .fdiv (.loc 4) (.cns (.int 840))) (.cons (.bin .sub (.loc 5) (.cns (.int 1))) .nil))) .nil) ro fr I) fuel [a, b, c, d, .val (.int r), .val (.int (t : Int)), e] I
    = .nx [a, b, c, d, .val (.int (divL t r).1), .val (.int (divL t r).2), e] I := by
  intro t
  induction t with
  | zero =>
    intro r fuel hf
    obtain ⟨f, rfl⟩ : ∃ f, fuel = f + 1 := ⟨fuel - 1, by omega⟩
    by_cases hr : 0 < r <;> simp [whlL, ev, cmpD, b2, R.bind, R.tst, R.stm, divL, hr, Cs.d]
  | succ t ih =>
    intro r fuel hf
    obtain ⟨f, rfl⟩ : ∃ f, fuel = f + 1 := ⟨fuel - 1, by omega⟩
    by_cases hr : 0 < r
    · have ht : (0 : Int) < ((t + 1 : Nat) : Int) := by omega
      have e2 : ((t + 1 : Nat) : Int) - 1 = (t : Int) := by omega
      have h2 := ih (r / 840) f (by omega)
      rw [whlL]
      simp only [ev, cmpD, b2, R.bind, R.tst, R.stm, Cs.d, List.getElem?_cons_zero, List.getElem?_cons_succ, decide_eq_true hr, decide_eq_true ht, cond_true, exec, evK, binD, stoAll, stoK, List.set_cons_zero, List.set_cons_succ, Xr.bind, isInst, Bool.or_false]
      simp only [show (decide (0 < (840 : Int)) && small 840) = true by decide, cond_true, R.bind, e2]
      have e3 : divL (t + 1) r = divL t (r / 840) := by simp [divL, hr]
      rw [e3]
      exact h2
    · rw [whlL]
      simp [ev, cmpD, b2, R.bind, R.tst, R.stm, Cs.d, hr, divL]
theorem pick_cell (ns : List Int) (k : Int) (ro : Bool) (b c d e f g : Sl) (I : Is) (hk : 0 ≤ k) : ev cn cf (.ite (.cmp .ne (.loc 0) (.lst .nil)) (.sub (.loc 0) (.bin .md (.loc 1) (.blt .len (.cons (.loc 0) .nil)))) (.cns (.int 0))) ro [.val (.scr ns), .val (.int k), b, c, d, e, f] I = .ok (.int (pickCell ns k), .fro) I := by
  cases ns with
  | nil => simp [ev, evK, cmpD, b2, R.bind, R.tst, Cs.d, pickCell, frzAll, pyeq_scr_nil, D.eqc, D.eqcs, D.dep, D.deps, lim]
  | cons x xs =>
    have h1 : 0 ≤ k % ((x :: xs).length : Int) := Int.emod_nonneg _ (by simp only [List.length_cons]; omega)
    have h2 : k % ((x :: xs).length : Int) < ((x :: xs).length : Int) := Int.emod_lt_of_pos _ (by simp only [List.length_cons]; omega)
    obtain ⟨a, e1, _⟩ := atI_some (xs := x :: xs) h1 h2
    have e1 : L2.atI (x :: xs) (k % ((xs.length : Int) + 1)) = some a := by simpa using e1
    simp [ev, evK, cmpD, b2, R.bind, R.tst, Cs.d, pickCell, frzAll, pyeq_scr_nil, D.eqc, D.eqcs, D.dep, D.deps, lim, biD, binD, subD, e1]
theorem small_of {i : Int} (h : -1000000000000 < i) (h2 : i < 1000000000000) : small i = true := by
  unfold small
  simp only [Bool.and_eq_true, decide_eq_true_eq]
  omega
theorem pick_tail (cn : Str → Option D) (cf : Str → Bool → List D → Is → R Sl) (ns : List Int) (k m c r t : Int) (ro : Bool) (I : Is) (hm : 0 < m) :
    runB (exec cn cf (.cons (.iff (.cmp .gt (.loc 4) (.cns (.int 0))) (.cons (.ret (.bin .md (.bin .md (.loc 4) (.cns (.int 840))) (.loc 2))) .nil) .nil)
      (.cons (.asg 6 (.bin .md (.bin .mul (.bin .add (.bin .mul (.loc 3) (.cns (.int 31))) (.bin .mul (.cns (.int 6151)) (.bin .add (.loc 1) (.cns (.int 1))))) (.cns (.int 40692))) (.cns (.int 2147483399))))
      (.cons (.ret (.bin .md (.bin .md (.bin .add (.bin .mul (.loc 6) (.loc 6)) (.bin .fdiv (.loc 6) (.cns (.int 31)))) (.cns (.int 2147483629))) (.loc 2))) .nil))) ro
      [.val (.scr ns), .val (.int k), .val (.int m), .val (.int c), .val (.int r), .val (.int t), .no] I)
    = .ok (.val (.int (if 0 < r then r % 840 % m else (((c * 31 + 6151 * (k + 1)) * 40692 % 2147483399) * ((c * 31 + 6151 * (k + 1)) * 40692 % 2147483399) + ((c * 31 + 6151 * (k + 1)) * 40692 % 2147483399) / 31) % 2147483629 % m))) I := by
  have s1 : small 31 = true := by decide
  have s2 : small 6151 = true := by decide
  have s3 : small 40692 = true := by decide
  have hd : small ((c * 31 + 6151 * (k + 1)) * 40692 % 2147483399) = true := small_of (by have := Int.emod_nonneg ((c * 31 + 6151 * (k + 1)) * 40692) (b := 2147483399) (by omega); omega) (by have := Int.emod_lt_of_pos ((c * 31 + 6151 * (k + 1)) * 40692) (b := 2147483399) (by omega); omega)
  by_cases hr : 0 < r
  · simp [exec, ev, cmpD, b2, R.bind, R.tst, R.stm, Xr.bind, Cs.d, binD, hr, hm, stoK, runB]
  · simp [exec, ev, cmpD, b2, R.bind, R.tst, R.stm, Xr.bind, Cs.d, binD, hr, hm, stoK, frzK, runB, s1, s2, s3, hd]
theorem pick_run {Γ : Gm} (h : Γ.fn "_law_pick" = some ⟨3, 7, [], pickS⟩) {ns : List Int} {k m : Int} (hl : ns.length ≤ 63) (hk : 0 ≤ k) (hk2 : k < 1000000) (hm : 0 < m) (n : Nat) (ro : Bool) (I : Is) : callN Γ (n + 1) "_law_pick" ro [.scr ns, .int k, .int m] I = .ok (.val (.int (pickF ns k m))) I := by
  unfold callN
  rw [h]
  simp only [fillD, List.length_cons, List.length_nil, show (decide (0 + 1 + 1 + 1 ≤ 3) && decide (3 ≤ 0 + 1 + 1 + 1 + 0)) = true by decide, cond_true, List.drop_nil, List.append_nil, List.map_cons, List.map_nil, show (7 - 3) = 4 by rfl]
  show runB (exec Γ.cn (callN Γ n) pickS ro [.val (.scr ns), .val (.int k), .val (.int m), .no, .no, .no, .no] I) = _
  have hc := pick_cell (cn := Γ.cn) (cf := callN Γ n) ns k ro (.val (.int m)) .no .no .no .no .no I hk
  have hp : ∀ c : Int, (evK Γ.cn (callN Γ n) (.cons (.bin .fdiv (.loc 3) (.bin .pow (.cns (.int 10)) (.cns (.int 18)))) (.cons (.bin .fdiv (.loc 1) (.blt .max2 (.cons (.blt .len (.cons (.loc 0) .nil)) (.cons (.cns (.int 1)) .nil)))) .nil)) ro [.val (.scr ns), .val (.int k), .val (.int m), .val (.int c), .no, .no, .no] I) = .ok [(.int (c / 10 ^ 18), .fro), (.int (k / max (ns.length : Int) 1), .fro)] I := fun c => by
    have hs : small (max (ns.length : Int) 1) = true := small_of (by omega) (by omega)
    have hm0 : (0 : Int) < max (ns.length : Int) 1 := by omega
    simp [ev, evK, binD, R.bind, Cs.d, biD, hs, hm0, show small 10 = true by decide, show small 1000000000000000000 = true by decide]
  have ht0 : 0 ≤ k / max (ns.length : Int) 1 := Int.ediv_nonneg hk (by omega)
  have ht1 : k / max (ns.length : Int) 1 ≤ k := Int.ediv_le_self _ hk
  obtain ⟨t, ht⟩ : ∃ t : Nat, k / max (ns.length : Int) 1 = t := ⟨(k / max (ns.length : Int) 1).toNat, by omega⟩
  have hlp := fun (c : Int) => pick_loop (cn := Γ.cn) (cf := callN Γ n) (.val (.scr ns)) (.val (.int k)) (.val (.int m)) (.val (.int c)) .no ro I t (c / 10 ^ 18) 1000000 (by omega)
  unfold pickS
  rw [exec, exec, hc]
  simp only [R.stm, frzK, Xr.bind, List.set_cons_succ, List.set_cons_zero]
  rw [exec, exec, hp]
  simp only [R.stm, stoAll, stoK, Xr.bind, List.set_cons_succ, List.set_cons_zero]
  rw [exec, exec, ht, hlp]
  simp only [Xr.bind]
  rw [pick_tail _ _ _ _ _ _ _ _ _ _ hm]
  unfold pickF
  rw [ht]
  rfl
theorem pickF_in (ns : List Int) (k : Int) {m : Int} (hm : 0 < m) : 0 ≤ pickF ns k m ∧ pickF ns k m < m := by
  unfold pickF
  simp only
  split
  · exact ⟨Int.emod_nonneg _ (by omega), Int.emod_lt_of_pos _ hm⟩
  · exact ⟨Int.emod_nonneg _ (by omega), Int.emod_lt_of_pos _ hm⟩
end
end Air
/-! Air: plain laws (2): reckoning, names. -/
namespace Air
open PySem L2
section
variable {cn : Str → Option D} {cf : Str → Bool → List D → Is → R Sl} {ro : Bool} {fr : Fr} {I : Is} {α β : Type}
@[simp] theorem bind_ok (a : α) (f : α → Is → R β) : (R.ok a I).bind f = f a I := id rfl
@[simp] theorem stm_ok (a : α) (f : α → Is → Xr) : (R.ok a I).stm fr f = f a I := id rfl
@[simp] theorem tst_ok (b : Bool) (k : Kd) (f : Bool → Is → R β) : (R.ok (D.bl b, k) I).tst f = f b I := id rfl
@[simp] theorem fz_fro (d : D) (f : D → Is → R β) : (R.ok (d, Kd.fro) I).fz f = f d I := id rfl
@[simp] theorem fz_new (d : D) (f : D → Is → R β) : (R.ok (d, Kd.new) I).fz f = f d I := id rfl
@[simp] theorem reset_ok (a : α) : (R.ok a I).reset I = .ok a I := id rfl
@[simp] theorem quiet_ok' (a : α) : (R.ok a I).quiet = .ok a I := id rfl
@[simp] theorem nx_bind (f : Fr → Is → Xr) : (Xr.nx fr I).bind f = f fr I := id rfl
@[simp] theorem rt_bind (s : Sl) (f : Fr → Is → Xr) : (Xr.rt s I).bind f = .rt s I := id rfl
@[simp] theorem run_rt (s : Sl) : runB (.rt s I) = .ok s I := id rfl
@[simp] theorem run_nx : runB (.nx fr I) = .ok (.val .non) I := id rfl
@[simp] theorem cs_non : Cs.non.d = .non := id rfl
@[simp] theorem cs_bl (b : Bool) : (Cs.bl b).d = .bl b := id rfl
@[simp] theorem cs_int (i : Int) : (Cs.int i).d = .int i := id rfl
@[simp] theorem cs_str (z : Str) : (Cs.str z).d = .str z := id rfl
@[simp] theorem ev_cns (c : Cs) : ev cn cf (.cns c) ro fr I = .ok (c.d, .fro) I := id rfl
@[simp] theorem ev_loc (i : Nat) : ev cn cf (.loc i) ro fr I = (match fr[i]? with
    | some (.val d) => .ok (d, .fro) I
    | some (.lst xs) => .ok (.lst xs, .own) I
    | some (.dK ks vs) => .ok (.dK ks vs, .own) I
    | some (.dT ks vs) => .ok (.dT ks vs, .own) I
    | _ => .bad) := id rfl
@[simp] def gkR : D → Is → R (D × Kd)
  | .int i, I => .ok (.int i, .fro) I
  | .str z, I => .ok (.str z, .fro) I
  | .tup xs, I => .ok (.tup xs, .cst) I
  | _, _ => .bad
theorem ev_gk {x : Str} {d : D} (h : cn x = some d) : ev cn cf (.gk x) ro fr I = gkR d I := by
  show (match cn x with
    | some (.int i) => R.ok (D.int i, Kd.fro) I
    | some (.str z) => .ok (.str z, .fro) I
    | some (.tup xs) => .ok (.tup xs, .cst) I
    | _ => .bad) = gkR d I
  rw [h]
  cases d <;> rfl
@[simp] theorem ev_bin (o : Bo) (a b : Tm) : ev cn cf (.bin o a b) ro fr I = (ev cn cf a ro fr I).bind fun p I => (ev cn cf b (ro || isInst p.2) fr I).bind fun q I => binD o p.1 q.1 I := id rfl
@[simp] theorem ev_neg (a : Tm) : ev cn cf (.neg a) ro fr I = (ev cn cf a ro fr I).bind fun p I => (match p.1 with
    | .int i => .ok (.int (-i), .fro) I
    | _ => .bad) := id rfl
@[simp] theorem ev_cmp (o : Co) (a b : Tm) : ev cn cf (.cmp o a b) ro fr I = (ev cn cf a ro fr I).bind fun p I => (ev cn cf b (ro || isInst p.2) fr I).bind fun q I => cmpD o p.1 q.1 I := id rfl
@[simp] theorem ev_isn (ng : Bool) (a : Tm) : ev cn cf (.isn ng a) ro fr I = (ev cn cf a ro fr I).bind fun p I => (match p.1 with
    | .non => b2 (!ng) I
    | _ => b2 ng I) := id rfl
@[simp] theorem ev_isb (ng k : Bool) (a : Tm) : ev cn cf (.isb ng k a) ro fr I = (ev cn cf a ro fr I).bind fun p I => (match p.1 with
    | .bl b => b2 (xor ng (b == k)) I
    | _ => .bad) := id rfl
@[simp] theorem ev_ch2 (o1 o2 : Co) (a b c : Tm) : ev cn cf (.ch2 o1 o2 a b c) ro fr I = (ev cn cf a ro fr I).bind fun p I => (ev cn cf b (ro || isInst p.2) fr I).bind fun q I => (cmpD o1 p.1 q.1 I).tst fun t I =>
      bif t then (ev cn cf c (ro || isInst q.2) fr I).bind fun r I => cmpD o2 q.1 r.1 I else b2 false I := id rfl
@[simp] theorem ev_and (a b : Tm) : ev cn cf (.and a b) ro fr I = (ev cn cf a ro fr I).tst fun t I => bif t then (ev cn cf b ro fr I).tst fun u I => b2 u I else b2 false I := id rfl
@[simp] theorem ev_or (a b : Tm) : ev cn cf (.or a b) ro fr I = (ev cn cf a ro fr I).tst fun t I => bif t then b2 true I else (ev cn cf b ro fr I).tst fun u I => b2 u I := id rfl
@[simp] theorem ev_not (a : Tm) : ev cn cf (.not a) ro fr I = (ev cn cf a ro fr I).tst fun t I => b2 (!t) I := id rfl
@[simp] theorem ev_ite (c a b : Tm) : ev cn cf (.ite c a b) ro fr I = (ev cn cf c ro fr I).tst fun t I => bif t then ev cn cf a ro fr I else ev cn cf b ro fr I := id rfl
@[simp] theorem ev_tup (es : Tm) : ev cn cf (.tup es) ro fr I = (evK cn cf es ro fr I).bind fun ps I => (match frzAll ps with
    | some ds => bif decide (ds.length ≤ lim) then .ok (.tup ds, .fro) I else .bad
    | none => .bad) := id rfl
@[simp] theorem ev_lst (es : Tm) : ev cn cf (.lst es) ro fr I = (evK cn cf es ro fr I).bind fun ps I => (match frzAll ps with
    | some ds => bif decide (ds.length ≤ lim) then .ok (.lst ds, .new) I else .bad
    | none => .bad) := id rfl
@[simp] theorem ev_sub (a i : Tm) : ev cn cf (.sub a i) ro fr I = (ev cn cf a ro fr I).bind fun p I => (ev cn cf i (ro || isInst p.2) fr I).bind fun q I => subD p.1 q.1 p.2 I := id rfl
@[simp] theorem ev_slc (a lo hi : Tm) : ev cn cf (.slc a lo hi) ro fr I = (ev cn cf a ro fr I).bind fun p I => (evP cn cf lo (ro || isInst p.2) fr I).bind fun l I => (evP cn cf hi (ro || isInst p.2) fr I).bind fun h I => slcD p.1 p.2 l h I := id rfl
@[simp] theorem ev_call (x : Str) (es : Tm) : ev cn cf (.call x es) ro fr I = (evK cn cf es ro fr I).bind fun ps I => callD cf x ro ps I := id rfl
@[simp] theorem ev_blt (f : Bi) (es : Tm) : ev cn cf (.blt f es) ro fr I = (evK cn cf es ro fr I).bind fun ps I => biD f ps I := id rfl
@[simp] theorem ev_isi (a : Tm) (k : Str) : ev cn cf (.isi a [k]) ro fr I = (ev cn cf a ro fr I).bind fun p I => (match isiD p.1 k with
      | some b => b2 b I
      | none => .bad) := id rfl
@[simp] theorem evK_nil : evK cn cf .nil ro fr I = .ok [] I := id rfl
@[simp] theorem evK_cons (a b : Tm) : evK cn cf (.cons a b) ro fr I = (ev cn cf a ro fr I).bind fun p I => (evK cn cf b (ro || isInst p.2) fr I).bind fun ps I => .ok (p :: ps) I := id rfl
@[simp] theorem evP_nil : evP cn cf .nil ro fr I = .ok none I := id rfl
@[simp] theorem evP_cons (a : Tm) : evP cn cf (.cons a .nil) ro fr I = (ev cn cf a ro fr I).bind fun p I => (match p.1 with
    | .int i => .ok (some i) I
    | _ => .bad) := id rfl
@[simp] theorem evC_nil : evC cn cf .nil ro fr I = .ok true I := id rfl
@[simp] theorem evC_cons (a : Tm) : evC cn cf (.cons a .nil) ro fr I = (ev cn cf a ro fr I).tst fun t I => .ok t I := id rfl
@[simp] theorem evI_rng1 (a : Tm) : evI cn cf (.rng1 a) ro fr I = (ev cn cf a ro fr I).bind fun p I => (match p.1 with
    | .int n => bif big62 n then .ok (rngL 0 n, .fro) I else .bad
    | _ => .bad) := id rfl
@[simp] theorem evI_cons (a : Tm) : evI cn cf (.cons a .nil) ro fr I = (ev cn cf a ro fr I).bind fun p I => (match itD p with
    | some r => .ok r I
    | none => .bad) := id rfl
@[simp] theorem ex_nil : exec cn cf .nil ro fr I = .nx fr I := id rfl
@[simp] theorem ex_cons (s r : Sm) : exec cn cf (.cons s r) ro fr I = (exec cn cf s ro fr I).bind fun fr I => exec cn cf r ro fr I := id rfl
@[simp] theorem ex_pass : exec cn cf .pass ro fr I = .nx fr I := id rfl
@[simp] theorem ex_asg (i : Nat) (e : Tm) : exec cn cf (.asg i e) ro fr I = (ev cn cf e ro fr I).stm fr fun p I => (match frzK p with
    | some d => .nx (fr.set i (.val d)) I
    | none => .bad) := id rfl
@[simp] theorem ex_own (i : Nat) (e : Tm) : exec cn cf (.own i e) ro fr I = (ev cn cf e ro fr I).stm fr fun p I => (match stoK true p with
    | some s => .nx (fr.set i s) I
    | none => .bad) := id rfl
@[simp] theorem ex_par (tg : List (Nat × Bool)) (es : Tm) : exec cn cf (.par tg es) ro fr I = (evK cn cf es ro fr I).stm fr fun ps I => (match stoAll tg ps fr with
    | some fr => .nx fr I
    | none => .bad) := id rfl
@[simp] theorem ex_unp (tg : List Nat) (e : Tm) : exec cn cf (.unp tg e) ro fr I = (ev cn cf e ro fr I).stm fr fun p I => (match frzK p with
    | some d => (match asgT (.tp tg) d fr with
      | some fr => .nx fr I
      | none => .bad)
    | none => .bad) := id rfl
@[simp] theorem ex_app (i : Nat) (e : Tm) : exec cn cf (.app i e) ro fr I = (match fr[i]? with
    | some (.lst xs) => (ev cn cf e ro fr I).stm fr fun p I => (match frzK p with
      | some d => bif decide (xs.length < lim) then .nx (fr.set i (.lst (xs ++ [d]))) I else .bad
      | none => .bad)
    | _ => .bad) := id rfl
@[simp] theorem ex_ext (i : Nat) (e : Tm) : exec cn cf (.ext i e) ro fr I = (match fr[i]? with
    | some (.lst xs) => (ev cn cf e ro fr I).stm fr fun p I => (match p.1 with
      | .lst ys => bif decide (xs.length + ys.length ≤ lim) then .nx (fr.set i (.lst (xs ++ ys))) I else .bad
      | _ => .bad)
    | _ => .bad) := id rfl
@[simp] theorem ex_iff (c : Tm) (a b : Sm) : exec cn cf (.iff c a b) ro fr I = ((ev cn cf c ro fr I).tst fun t I => .ok t I).stm fr fun t I => bif t then exec cn cf a ro fr I else exec cn cf b ro fr I := id rfl
@[simp] theorem ex_ret (e : Tm) : exec cn cf (.ret e) ro fr I = (ev cn cf e ro fr I).stm fr fun p I => (match stoK true p with
    | some s => .rt s I
    | none => .bad) := id rfl
@[simp] theorem ex_retOwn (i : Nat) : exec cn cf (.retOwn i) ro fr I = (match fr[i]? with
    | some s => (match s.out with
      | some _ => .rt s I
      | none => .bad)
    | none => .bad) := id rfl
theorem ex_for {tg : Tg} {it : Tm} {body : Sm} {xs : List D} {k : Kd} (hI : evI cn cf it ro fr I = .ok (xs, k) I) (hk : k = .fro ∨ k = .new) : exec cn cf (.for tg it body) ro fr I = forL (fun fr I => exec cn cf body ro fr I) tg xs fr I := by
  rw [exec, hI]
  rcases hk with rfl | rfl <;> simp [isInst]
end
@[simp] theorem isi_non_int : isiD D.non "int" = some false := rfl
@[simp] theorem isi_non_bool : isiD D.non "bool" = some false := rfl
@[simp] theorem isi_non_str : isiD D.non "str" = some false := rfl
@[simp] theorem isi_non_tuple : isiD D.non "tuple" = some false := rfl
@[simp] theorem isi_non_list : isiD D.non "list" = some false := rfl
@[simp] theorem isi_bl_int (b : Bool) : isiD (D.bl b) "int" = some true := rfl
@[simp] theorem isi_bl_bool (b : Bool) : isiD (D.bl b) "bool" = some true := rfl
@[simp] theorem isi_bl_str (b : Bool) : isiD (D.bl b) "str" = some false := rfl
@[simp] theorem isi_bl_tuple (b : Bool) : isiD (D.bl b) "tuple" = some false := rfl
@[simp] theorem isi_bl_list (b : Bool) : isiD (D.bl b) "list" = some false := rfl
@[simp] theorem isi_int_int (i : Int) : isiD (D.int i) "int" = some true := rfl
@[simp] theorem isi_int_bool (i : Int) : isiD (D.int i) "bool" = some false := rfl
@[simp] theorem isi_int_str (i : Int) : isiD (D.int i) "str" = some false := rfl
@[simp] theorem isi_int_tuple (i : Int) : isiD (D.int i) "tuple" = some false := rfl
@[simp] theorem isi_int_list (i : Int) : isiD (D.int i) "list" = some false := rfl
@[simp] theorem isi_str_int (z : Str) : isiD (D.str z) "int" = some false := rfl
@[simp] theorem isi_str_bool (z : Str) : isiD (D.str z) "bool" = some false := rfl
@[simp] theorem isi_str_str (z : Str) : isiD (D.str z) "str" = some true := rfl
@[simp] theorem isi_str_tuple (z : Str) : isiD (D.str z) "tuple" = some false := rfl
@[simp] theorem isi_str_list (z : Str) : isiD (D.str z) "list" = some false := rfl
@[simp] theorem isi_tup_int (xs : List D) : isiD (D.tup xs) "int" = some false := rfl
@[simp] theorem isi_tup_bool (xs : List D) : isiD (D.tup xs) "bool" = some false := rfl
@[simp] theorem isi_tup_str (xs : List D) : isiD (D.tup xs) "str" = some false := rfl
@[simp] theorem isi_tup_tuple (xs : List D) : isiD (D.tup xs) "tuple" = some true := rfl
@[simp] theorem isi_tup_list (xs : List D) : isiD (D.tup xs) "list" = some false := rfl
@[simp] theorem isi_lst_int (xs : List D) : isiD (D.lst xs) "int" = some false := rfl
@[simp] theorem isi_lst_bool (xs : List D) : isiD (D.lst xs) "bool" = some false := rfl
@[simp] theorem isi_lst_str (xs : List D) : isiD (D.lst xs) "str" = some false := rfl
@[simp] theorem isi_lst_tuple (xs : List D) : isiD (D.lst xs) "tuple" = some false := rfl
@[simp] theorem isi_lst_list (xs : List D) : isiD (D.lst xs) "list" = some true := rfl
@[simp] theorem isi_scr_int (ns : List Int) : isiD (D.scr ns) "int" = some false := rfl
@[simp] theorem isi_scr_bool (ns : List Int) : isiD (D.scr ns) "bool" = some false := rfl
@[simp] theorem isi_scr_str (ns : List Int) : isiD (D.scr ns) "str" = some false := rfl
@[simp] theorem isi_scr_tuple (ns : List Int) : isiD (D.scr ns) "tuple" = some false := rfl
@[simp] theorem isi_scr_list (ns : List Int) : isiD (D.scr ns) "list" = some true := rfl
/-- a thing that is no instance, no table -/
def D.pl : D → Bool
  | .ins _ => false
  | .dT _ _ => false
  | .dK _ _ => false
  | _ => true
/-! ### rows of signs -/
def S (l : List Nat) : Str := ⟨⟨l⟩⟩
theorem S_app (a b : List Nat) : S a ++ S b = S (a ++ b) := by
  show (⟨(S a).cps ++ (S b).cps⟩ : Str) = S (a ++ b)
  simp [S]
theorem S_len (a : List Nat) : (S a).length = a.length := rfl
theorem S_cps (a : List Nat) : (S a).cps.toList = a := rfl
theorem S_of (z : Str) : S z.cps.toList = z := rfl
def L26 : Str := "abcdefghijklmnopqrstuvwxyz"
def isL (c : Nat) : Bool := decide (97 ≤ c) && decide (c ≤ 122)
theorem mem_L26 (c : Nat) : (decide (c ∈ L26.cps.toList)) = isL c := by
  have e : L26.cps.toList = (List.range 26).map (97 + ·) := by decide +kernel
  rw [e]
  unfold isL
  by_cases h : 97 ≤ c ∧ c ≤ 122
  · rw [decide_eq_true h.1, decide_eq_true h.2]
    exact decide_eq_true (List.mem_map.mpr ⟨c - 97, List.mem_range.mpr (by omega), by omega⟩)
  · have : ¬ c ∈ (List.range 26).map (97 + ·) := fun z => by
      obtain ⟨a, h1, h2⟩ := List.mem_map.mp z
      have := List.mem_range.mp h1
      exact h ⟨by omega, by omega⟩
    rw [decide_eq_false this]
    by_cases h1 : 97 ≤ c
    · rw [decide_eq_true h1, decide_eq_false fun h2 => h ⟨h1, h2⟩]; rfl
    · rw [decide_eq_false h1]; rfl
/-- the letter of a number -/
def lt (j : Int) : Nat := 97 + j.toNat
theorem atI_L26 {j : Int} (h0 : 0 ≤ j) (h1 : j < 26) : L2.atI L26.cps.toList j = some (lt j) := by
  have e : L26.cps.toList = (List.range 26).map (97 + ·) := by decide +kernel
  rw [e, atI_in h0 (by simpa using h1)]
  have : j.toNat < 26 := by omega
  simp [lt, this]
theorem sub_L26 {j : Int} {k : Kd} {I : Is} (h0 : 0 ≤ j) (h1 : j < 26) : subD (.str L26) (.int j) k I = .ok (.str (S [lt j]), .fro) I := by
  unfold subD
  have : decide (L26.length ≤ lim) = true := by decide +kernel
  simp only [this, cond_true, atI_L26 h0 h1]
  rfl
theorem isL_lt {j : Int} (h0 : 0 ≤ j) (h1 : j < 26) : isL (lt j) = true := by
  unfold isL lt
  simp only [Bool.and_eq_true, decide_eq_true_eq]
  omega
/-! ### lists made item by item, loops -/
theorem lcL_fm {step : Fr → Is → R (Option D)} {i : Nat} {fr : Fr} {I : Is} (o : D → Option D) : ∀ xs : List D, (∀ x ∈ xs, step (fr.set i (.val x)) I = .ok (o x) I) → lcL step (.nm i) fr xs I = .ok (xs.filterMap o) I
  | [], _ => rfl
  | x :: xs, h => by
    have h1 := h x List.mem_cons_self
    have h2 := lcL_fm o xs fun y hy => h y (List.mem_cons_of_mem _ hy)
    simp only [lcL, asgT, h1, h2, R.bind]
    cases e : o x with
    | none => simp [List.filterMap_cons, e]
    | some y => simp [List.filterMap_cons, e]
theorem forL_ex {body : Fr → Is → Xr} {tg : Tg} {I : Is} (P : Nat → Fr → Prop) : ∀ (xs : List D) (j : Nat) (fr : Fr), P j fr → (∀ i x fr, xs[i]? = some x → P (j + i) fr → ∃ fr1 fr2, asgT tg x fr = some fr1 ∧ (body fr1 I = .nx fr2 I ∨ body fr1 I = .ct fr2 I) ∧ P (j + i + 1) fr2) → ∃ fr', forL body tg xs fr I = .nx fr' I ∧ P (j + xs.length) fr'
  | [], j, fr, h, _ => ⟨fr, rfl, h⟩
  | x :: xs, j, fr, h, hs => by
    obtain ⟨fr1, fr2, h1, h2, h3⟩ := hs 0 x fr rfl h
    obtain ⟨fr', h4, h5⟩ := forL_ex P xs (j + 1) fr2 (by simpa using h3) fun i y fr hy hp => by
      obtain ⟨g1, g2, k1, k2, k3⟩ := hs (i + 1) y fr (by simpa using hy) (by rw [show j + (i + 1) = j + 1 + i by omega]; exact hp)
      exact ⟨g1, g2, k1, k2, by rw [show j + 1 + i + 1 = j + (i + 1) + 1 by omega]; exact k3⟩
    refine ⟨fr', ?_, by rw [List.length_cons, show j + (xs.length + 1) = j + 1 + xs.length by omega]; exact h5⟩
    simp only [forL, h1]
    rcases h2 with h2 | h2 <;> simp only [h2, h4]
theorem blsD_map {α : Type} (g : α → Bool) : ∀ xs : List α, blsD (xs.map fun x => D.bl (g x)) = some (xs.map g)
  | [] => rfl
  | x :: xs => by simp [blsD, blsD_map g xs]
theorem call_val {cf : Str → Bool → List D → Is → R Sl} {x : Str} {ps : List (D × Kd)} {ds : List D} {v : D} {ro : Bool} {I : Is} (e : frzAll ps = some ds) (h : cf x ro ds I = .ok (.val v) I) : callD cf x ro ps I = .ok (v, .fro) I := by
  unfold callD
  rw [e]
  cases ro <;> simp [h, R.reset, R.bind, Sl.out]
theorem call_lst {cf : Str → Bool → List D → Is → R Sl} {x : Str} {ps : List (D × Kd)} {ds : List D} {v : List D} {ro : Bool} {I : Is} (e : frzAll ps = some ds) (h : cf x ro ds I = .ok (.lst v) I) : callD cf x ro ps I = .ok (.lst v, .new) I := by
  unfold callD
  rw [e]
  cases ro <;> simp [h, R.reset, R.bind, Sl.out]

section
variable {cn : Str → Option D} {cf : Str → Bool → List D → Is → R Sl} {ro : Bool} {fr : Fr} {I : Is}
theorem ev_lcf {own : List (Str × Nat)} {elt it cond : Tm} {i : Nat} {ds : List D} {k : Kd} (o : D → Option D) (hI : evI cn cf it ro fr I = .ok (ds, k) I) (hk : isInst k = false) (hl : (ds.filterMap o).length ≤ lim)
    (h : ∀ x ∈ ds, ((evC cn cf cond ro ((wipeF fr own).set i (.val x)) I).bind fun t I => bif t then (ev cn cf elt ro ((wipeF fr own).set i (.val x)) I).fz fun d I => .ok (some d) I else .ok none I) = .ok (o x) I) :
    ev cn cf (.lc own elt (.nm i) it cond) ro fr I = .ok (.lst (ds.filterMap o), .new) I := by
  rw [ev, hI]
  simp only [bind_ok, hk, Bool.or_false]
  rw [lcL_fm o ds h]
  simp [hl]
theorem ev_lcm {own : List (Str × Nat)} {elt it : Tm} {i : Nat} {ds : List D} {k : Kd} (g : D → D) (hI : evI cn cf it ro fr I = .ok (ds, k) I) (hk : isInst k = false) (hl : ds.length ≤ lim)
    (h : ∀ x ∈ ds, ∃ kk, ev cn cf elt ro ((wipeF fr own).set i (.val x)) I = .ok (g x, kk) I ∧ (kk = .fro ∨ kk = .new)) :
    ev cn cf (.lc own elt (.nm i) it .nil) ro fr I = .ok (.lst (ds.map g), .new) I := by
  have e : ds.filterMap (fun x => some (g x)) = ds.map g := by rw [List.filterMap_eq_map']
  rw [← e]
  refine ev_lcf (fun x => some (g x)) hI hk (by rw [e, List.length_map]; exact hl) fun x hx => ?_
  obtain ⟨kk, h1, h2⟩ := h x hx
  simp only [evC_nil, bind_ok, cond_true, h1]
  rcases h2 with rfl | rfl <;> simp
end
/-! ### is_number, is_name -/
def numS : Sm := (.cons (.ret (.and (.isi (.loc 0) ["int"]) (.and (.not (.isi (.loc 0) ["bool"])) (.ch2 .le .le (.loc 1) (.loc 0) (.loc 2)))))
      .nil)
def numB : D → Int → Int → Bool
  | .int i, lo, hi => decide (lo ≤ i) && decide (i ≤ hi)
  | _, _, _ => false
section
variable {Γ : Gm}
theorem num_run (h : Γ.fn "is_number" = some ⟨3, 3, [], numS⟩) {d : D} (hd : d.pl = true) (lo hi : Int) (n : Nat) (ro : Bool) (I : Is) : callN Γ (n + 1) "is_number" ro [d, .int lo, .int hi] I = .ok (.val (.bl (numB d lo hi))) I := by
  unfold callN
  rw [h]
  cases d <;> first | (cases hd; done) | skip
  case int i =>
    by_cases h1 : lo ≤ i <;> by_cases h2 : i ≤ hi <;> simp [numS, numB, h1, h2, fillD, stoK, b2, cmpD]
  all_goals simp [numS, numB, fillD, stoK, b2, cmpD]
def nameS : Sm := (.cons (.ret (.and (.isi (.loc 0) ["str"]) (.and (.ch2 .le .le (.cns (.int 1)) (.blt .len (.cons (.loc 0) .nil)) (.gk "LONGEST_NAME")) (.blt .all (.cons (.lc [("sign", 1)] (.cmp .inn (.loc 1) (.gk "LETTERS")) (.nm 1) (.cons (.loc 0) .nil) .nil) .nil)))))
      .nil)
def nameL (l : List Nat) : Bool := decide (1 ≤ l.length) && (decide (l.length ≤ 6) && l.all isL)
def nameB : D → Bool
  | .str z => nameL z.cps.toList
  | _ => false
def D.fits : D → Bool
  | .str z => decide (z.length ≤ lim)
  | _ => true
theorem name_run (h : Γ.fn "is_name" = some ⟨1, 2, [], nameS⟩) (h1 : Γ.cn "LONGEST_NAME" = some (.int 6)) (h2 : Γ.cn "LETTERS" = some (.str L26)) {d : D} (hd : d.pl = true) (hf : d.fits = true) (n : Nat) (ro : Bool) (I : Is) :
    callN Γ (n + 1) "is_name" ro [d] I = .ok (.val (.bl (nameB d))) I := by
  unfold callN
  rw [h]
  cases d <;> first | (cases hd; done) | skip
  case str z =>
    have hz : decide (z.length ≤ lim) = true := hf
    have hlen : z.cps.toList.length = z.length := by simp [Str.length]
    have hz2 : z.length ≤ lim := of_decide_eq_true hz
    have hm : ∀ c : Nat, inDD (.str ⟨#[c]⟩) (.str L26) = some (isL c) := fun c => by rw [← mem_L26]; rfl
    have lc : ev Γ.cn (callN Γ n) (.lc [("sign", 1)] (.cmp .inn (.loc 1) (.gk "LETTERS")) (.nm 1) (.cons (.loc 0) .nil) .nil) ro [.val (.str z), .no] I = .ok (.lst (z.cps.toList.map fun c => D.bl (isL c)), .new) I := by
      have q := ev_lcm (cn := Γ.cn) (cf := callN Γ n) (ro := ro) (fr := [.val (.str z), .no]) (I := I) (own := [("sign", 1)]) (elt := .cmp .inn (.loc 1) (.gk "LETTERS")) (it := .cons (.loc 0) .nil) (i := 1) (ds := z.cps.toList.map fun c => D.str ⟨#[c]⟩) (k := .fro) (fun d => .bl ((inDD d (.str L26)).getD false)) (by simp [itD]) rfl (by rw [List.length_map, hlen]; exact hz2) (fun x hx => by
        obtain ⟨c, _, rfl⟩ := List.mem_map.mp hx
        exact ⟨.fro, by simp [wipeF, ev_gk h2, cmpD, hm, b2], .inl rfl⟩)
      rw [q, List.map_map]
      congr 3
      exact List.map_congr_left fun c _ => by simp [hm]
    have ha : biD .all [((D.lst (z.cps.toList.map fun c => D.bl (isL c))), Kd.new)] I = .ok (.bl (z.cps.toList.all isL), .fro) I := by
      simp [biD, blsD_map]
    simp only [nameB, nameL, hlen]
    have d1 : decide ((1 : Int) ≤ (z.length : Int)) = decide (1 ≤ z.length) := decide_eq_decide.mpr (by omega)
    have d2 : decide ((z.length : Int) ≤ 6) = decide (z.length ≤ 6) := decide_eq_decide.mpr (by omega)
    have hb : biD .len [(D.str z, Kd.fro)] I = .ok (.int z.length, .fro) I := by simp [biD, hz2]
    cases k1 : decide (1 ≤ z.length) <;> cases k2 : decide (z.length ≤ 6)
    all_goals simp only [nameS, fillD, List.length_cons, List.length_nil, Nat.zero_add, Nat.le_refl, decide_true, Bool.and_self, Nat.add_zero, cond_true, List.drop_nil, List.append_nil, List.map_cons, List.map_nil, Nat.reduceSub, List.replicate_succ, List.replicate_zero, List.cons_append, List.nil_append, ex_cons, ex_ret, ex_nil, ev_and, ev_isi, ev_loc, List.getElem?_cons_zero, bind_ok, isi_str_str, b2, tst_ok, ev_ch2, ev_cns, cs_int, isInst, Bool.or_false, ev_blt, evK_cons, evK_nil, hb, cmpD, d1, d2, k1, k2, cond_false, ev_gk h1, gkR, lc, ha, stm_ok, stoK, rt_bind, run_rt, Bool.false_and, Bool.true_and]
  all_goals simp [nameS, nameB, fillD, stoK, b2]
end
end Air
/-! Air: plain laws (3): sorts, shows, drawn names. -/
namespace Air
open PySem L2
@[simp] theorem pyeq_int (i j : Int) : D.pyeq (.int i) (.int j) = decide (i = j) := by
  simp [D.pyeq, D.py, PyData.eqv]
  rfl
@[simp] theorem sl_val (d : D) : (Sl.val d).out = some (d, .fro) := id rfl
@[simp] theorem sl_lst (d : List D) : (Sl.lst d).out = some (.lst d, .new) := id rfl
@[simp] theorem frzAll_nil : frzAll [] = some [] := id rfl
@[simp] theorem frzAll_fro (d : D) (ps : List (D × Kd)) : frzAll ((d, .fro) :: ps) = (frzAll ps).map (d :: ·) := by
  cases h : frzAll ps <;> simp [frzAll, frzK, h]
@[simp] theorem frzAll_new (d : D) (ps : List (D × Kd)) : frzAll ((d, .new) :: ps) = (frzAll ps).map (d :: ·) := by
  cases h : frzAll ps <;> simp [frzAll, frzK, h]
@[simp] theorem frzK_fro (d : D) : frzK (d, .fro) = some d := id rfl
@[simp] theorem frzK_new (d : D) : frzK (d, .new) = some d := id rfl
@[simp] theorem stoK_fro (b : Bool) (d : D) : stoK b (d, .fro) = some (.val d) := id rfl
@[simp] theorem stoK_lst (d : List D) : stoK true (.lst d, .new) = some (.lst d) := id rfl
@[simp] theorem stoK_nw (d : D) : stoK false (d, .new) = some (.val d) := id rfl
@[simp] theorem isI_fro : isInst .fro = false := id rfl
@[simp] theorem isI_new : isInst .new = false := id rfl
@[simp] theorem isI_own : isInst .own = false := id rfl
@[simp] theorem isI_cst : isInst .cst = false := id rfl
theorem callD_of {cf : Str → Bool → List D → Is → R Sl} {x : Str} {ps : List (D × Kd)} {ds : List D} {s : Sl} {p : D × Kd} {ro : Bool} {I : Is} (e : frzAll ps = some ds) (h : ∀ ro, cf x ro ds I = .ok s I) (hs : s.out = some p) : callD cf x ro ps I = .ok p I := by
  unfold callD
  rw [e]
  cases ro <;> simp [h, hs]
theorem le_lim {n : Nat} (h : n ≤ 1000000) : n ≤ lim := Nat.le_trans h (by decide)
theorem lim5 : 5 ≤ lim := by decide
def sortS : Sm := (.cons (.ret (.and (.isi (.loc 0) ["str"]) (.cmp .inn (.loc 0) (.gk "SORTS"))))
      .nil)
def sorts3 : List D := [(.str "news"), (.str "talk"), (.str "tune")]
def sortB : D → Bool
  | .str z => inD (.str z) sorts3
  | _ => false
section
variable {Γ : Gm}
theorem sort_run (h : Γ.fn "is_sort" = some ⟨1, 1, [], sortS⟩) (h1 : Γ.cn "SORTS" = some (.tup sorts3)) {d : D} (hd : d.pl = true) (n : Nat) (ro : Bool) (I : Is) :
    callN Γ (n + 1) "is_sort" ro [d] I = .ok (.val (.bl (sortB d))) I := by
  unfold callN
  rw [h]
  cases d <;> first | (cases hd; done) | skip
  case str z =>
    have e : inDD (.str z) (.tup sorts3) = some (inD (.str z) sorts3) := rfl
    simp [sortS, fillD, b2, cmpD, ev_gk h1, e, sortB]
  all_goals simp [sortS, sortB, fillD, b2]
def showS : Sm := (.cons (.iff (.or (.not (.isi (.loc 0) ["tuple"])) (.cmp .ne (.blt .len (.cons (.loc 0) .nil)) (.cns (.int 5)))) (.cons (.ret (.cns (.bl false)))
      .nil) .nil)
      (.cons (.unp [1, 2, 3, 4, 5] (.loc 0))
      (.cons (.iff (.or (.not (.call "is_name" (.cons (.loc 1) .nil))) (.or (.not (.call "is_sort" (.cons (.loc 2) .nil))) (.not (.call "is_number" (.cons (.loc 3) (.cons (.cns (.int 1)) (.cons (.gk "LONGEST") .nil))))))) (.cons (.ret (.cns (.bl false)))
      .nil) .nil)
      (.cons (.ret (.and (.isi (.loc 4) ["bool"]) (.call "is_number" (.cons (.loc 5) (.cons (.cns (.int 0)) (.cons (.gk "MOST_TIMES") .nil))))))
      .nil))))
def D.isB : D → Bool
  | .bl _ => true
  | _ => false
def showB : D → Bool
  | .tup [a, b, c, d, e] => nameB a && (sortB b && (numB c 1 8 && (D.isB d && numB e 0 9)))
  | _ => false
/-- the module's shows -/
structure ShowM (Γ : Gm) : Prop where
  num : Γ.fn "is_number" = some ⟨3, 3, [], numS⟩
  nam : Γ.fn "is_name" = some ⟨1, 2, [], nameS⟩
  srt : Γ.fn "is_sort" = some ⟨1, 1, [], sortS⟩
  shw : Γ.fn "is_show" = some ⟨1, 6, [], showS⟩
  c1 : Γ.cn "LONGEST_NAME" = some (.int 6)
  c2 : Γ.cn "LETTERS" = some (.str L26)
  c3 : Γ.cn "SORTS" = some (.tup sorts3)
  c4 : Γ.cn "LONGEST" = some (.int 8)
  c5 : Γ.cn "MOST_TIMES" = some (.int 9)
def D.okay (d : D) : Bool := d.pl && d.fits
def D.okays : D → Bool
  | .tup xs => xs.all D.okay
  | d => d.pl
theorem show_run (m : ShowM Γ) {d : D} (hd : d.okays = true) (n : Nat) (ro : Bool) (I : Is) :
    callN Γ (n + 2) "is_show" ro [d] I = .ok (.val (.bl (showB d))) I := by
  unfold callN
  rw [m.shw]
  cases d <;> first | (cases hd; done) | skip
  case tup xs =>
    by_cases hx : xs.length = 5
    · match xs, hx with
      | [a, b, c, d, e], _ =>
        simp only [D.okays, D.okay, List.all_cons, List.all_nil, Bool.and_true, Bool.and_eq_true] at hd
        obtain ⟨⟨a1, a2⟩, ⟨b1, b2'⟩, ⟨c1, c2⟩, ⟨d1, d2⟩, e1, e2⟩ := hd
        have ha : ∀ ro, callN Γ (n + 1) "is_name" ro [a] I = _ := fun ro => name_run m.nam m.c1 m.c2 a1 a2 n ro I
        have hb : ∀ ro, callN Γ (n + 1) "is_sort" ro [b] I = _ := fun ro => sort_run m.srt m.c3 b1 n ro I
        have hc : ∀ ro, callN Γ (n + 1) "is_number" ro [c, .int 1, .int 8] I = _ := fun ro => num_run m.num c1 1 8 n ro I
        have he : ∀ ro, callN Γ (n + 1) "is_number" ro [e, .int 0, .int 9] I = _ := fun ro => num_run m.num e1 0 9 n ro I
        have ka : ∀ ro, callD (callN Γ (n + 1)) "is_name" ro [(a, .fro)] I = _ := fun ro => callD_of rfl ha rfl
        have kb : ∀ ro, callD (callN Γ (n + 1)) "is_sort" ro [(b, .fro)] I = _ := fun ro => callD_of rfl hb rfl
        have kc : ∀ ro, callD (callN Γ (n + 1)) "is_number" ro [(c, .fro), (.int 1, .fro), (.int 8, .fro)] I = _ := fun ro => callD_of rfl hc rfl
        have ke : ∀ ro, callD (callN Γ (n + 1)) "is_number" ro [(e, .fro), (.int 0, .fro), (.int 9, .fro)] I = _ := fun ro => callD_of rfl he rfl
        have kd : isiD d "bool" = some (D.isB d) := by cases d <;> first | (cases d1; done) | rfl
        have hlen : biD .len [(.tup [a, b, c, d, e], .fro)] I = .ok (.int 5, .fro) I := rfl
        have hne : cmpD .ne (.int 5) (.int 5) I = .ok (.bl false, .fro) I := rfl
        cases q1 : nameB a <;> cases q2 : sortB b <;> cases q3 : numB c 1 8 <;> cases q4 : D.isB d
        all_goals simp [showS, fillD, hlen, hne, b2, asgT, ka, kb, kc, ke, kd, ev_gk m.c4, ev_gk m.c5, showB, q1, q2, q3, q4]
    · have hlen : biD .len [(.tup xs, .fro)] I = .ok (.int xs.length, .fro) I := rfl
      have hne : cmpD .ne (.int xs.length) (.int 5) I = .ok (.bl true, .fro) I := by
        have : ¬ (xs.length : Int) = 5 := by omega
        simp [cmpD, D.eqc, D.dep, b2, this]
      have hs : showB (.tup xs) = false := by
        unfold showB
        split
        · rename_i e
          injection e with e
          subst e; simp at hx
        · rfl
      simp [showS, fillD, hlen, hne, b2, hs]
  all_goals simp [showS, fillD, b2, showB]

/-! ### drawn names -/
def nmIn : Sm := (.cons (.asg 6 (.bin .add (.loc 6) (.sub (.loc 3) (.call "_law_pick" (.cons (.loc 0) (.cons (.bin .add (.bin .add (.bin .add (.loc 1) (.bin .mul (.cns (.int 7)) (.loc 5))) (.loc 7)) (.cns (.int 1))) (.cons (.cns (.int 26)) .nil)))))))
      .nil)
def nmIt : Tm := .rng1 (.sub (.lst (.cons (.cns (.int 0)) (.cons (.cns (.int 0)) (.cons (.cns (.int 1)) (.cons (.cns (.int 2)) (.cons (.cns (.int 5)) .nil)))))) (.call "_law_pick" (.cons (.loc 0) (.cons (.bin .add (.loc 1) (.bin .mul (.cns (.int 7)) (.loc 5))) (.cons (.cns (.int 5)) .nil)))))
def nmTl : Sm := (.cons (.asg 8 (.sub (.loc 3) (.bin .md (.bin .add (.call "_law_pick" (.cons (.loc 0) (.cons (.bin .add (.loc 1) (.cns (.int 60))) (.cons (.cns (.int 26)) .nil)))) (.loc 5)) (.cns (.int 26)))))
      (.cons (.app 4 (.ite (.cmp .eq (.call "_law_pick" (.cons (.loc 0) (.cons (.bin .add (.loc 1) (.cns (.int 61))) (.cons (.cns (.int 2)) .nil)))) (.cns (.int 0))) (.bin .add (.loc 6) (.loc 8)) (.bin .add (.loc 8) (.loc 6))))
      .nil))
def nmOut : Sm := .cons (.asg 6 (.cns (.str ""))) (.cons (.for (.nm 7) nmIt nmIn) nmTl)
def namesS : Sm := (.cons (.par [(3, false), (4, true)] (.cons (.cns (.str "abcdefghijklmnopqrstuvwxyz")) (.cons (.lst .nil) .nil)))
      (.cons (.for (.nm 5) (.rng1 (.loc 2)) nmOut)
      (.cons (.retOwn 4)
      .nil)))
def restN (ns : List Int) (at_ k : Int) : Nat := ([0, 0, 1, 2, 5] : List Nat).getD (pickF ns (at_ + 7 * k) 5).toNat 0
def restL (ns : List Int) (at_ k : Int) (m : Nat) : List Nat := (List.range m).map fun (j : Nat) => lt (pickF ns (at_ + 7 * k + j + 1) 26)
def markL (ns : List Int) (at_ k : Int) : List Nat := [lt ((pickF ns (at_ + 60) 26 + k) % 26)]
def nmL (ns : List Int) (at_ : Int) (k : Int) : List Nat := if pickF ns (at_ + 61) 2 = 0 then restL ns at_ k (restN ns at_ k) ++ markL ns at_ k else markL ns at_ k ++ restL ns at_ k (restN ns at_ k)
def nmsL (ns : List Int) (at_ : Int) (m : Nat) : List (List Nat) := (List.range m).map fun (k : Nat) => nmL ns at_ k
theorem rngL_get {lo hi : Int} {i : Nat} {x : D} (h : (rngL lo hi)[i]? = some x) : x = .int (lo + i) ∧ lo + i < hi := by
  unfold rngL at h
  rw [List.getElem?_map] at h
  by_cases hi' : i < (hi - lo).toNat
  · rw [List.getElem?_range hi'] at h
    cases h
    exact ⟨rfl, by omega⟩
  · rw [List.getElem?_eq_none (by simpa using hi')] at h
    cases h
theorem restN_le (ns : List Int) (at_ k : Int) : restN ns at_ k ≤ 5 := by
  unfold restN
  obtain ⟨h1, h2⟩ := pickF_in ns (at_ + 7 * k) (m := 5) (by omega)
  generalize (pickF ns (at_ + 7 * k) 5) = r at h1 h2
  have : r = 0 ∨ r = 1 ∨ r = 2 ∨ r = 3 ∨ r = 4 := by omega
  rcases this with rfl | rfl | rfl | rfl | rfl <;> decide
theorem restN_at (ns : List Int) (at_ k : Int) {kd : Kd} {I : Is} : subD (.lst [.int 0, .int 0, .int 1, .int 2, .int 5]) (.int (pickF ns (at_ + 7 * k) 5)) kd I = .ok (.int (restN ns at_ k), .fro) I := by
  unfold restN
  obtain ⟨h1, h2⟩ := pickF_in ns (at_ + 7 * k) (m := 5) (by omega)
  generalize (pickF ns (at_ + 7 * k) 5) = r at h1 h2
  have : r = 0 ∨ r = 1 ∨ r = 2 ∨ r = 3 ∨ r = 4 := by omega
  rcases this with rfl | rfl | rfl | rfl | rfl <;> rfl
/-- a drawing, as a term's call -/
def Pk (cf : Str → Bool → List D → Is → R Sl) (ns : List Int) (I : Is) : Prop := ∀ k q : Int, 0 ≤ k → k < 1000000 → 0 < q → ∀ ro, callD cf "_law_pick" ro [(.scr ns, .fro), (.int k, .fro), (.int q, .fro)] I = .ok (.int (pickF ns k q), .fro) I
section
variable {cn : Str → Option D} {cf : Str → Bool → List D → Is → R Sl} {ns : List Int} {I : Is} {at_ : Int} {ro : Bool}
theorem S_add (a b : List Nat) (h : a.length + b.length ≤ lim) : binD .add (.str (S a)) (.str (S b)) I = .ok (.str (S (a ++ b)), .fro) I := by
  show (bif decide (a.length + b.length ≤ lim) then R.ok (D.str (S a ++ S b), Kd.fro) I else .bad) = _
  rw [decide_eq_true h, S_app]; rfl
theorem small7 : small 7 = true := by decide
theorem restL_succ (k : Int) (j : Nat) : restL ns at_ k (j + 1) = restL ns at_ k j ++ [lt (pickF ns (at_ + 7 * k + j + 1) 26)] := by
  unfold restL
  rw [List.range_succ, List.map_append]; rfl
theorem restL_len (k : Int) (j : Nat) : (restL ns at_ k j).length = j := by simp [restL]
theorem nmIn_run (pk : Pk cf ns I) {k : Nat} {a2 mk b7 b8 : Sl} {r : Nat} (hr : r ≤ 5) (h0 : 0 ≤ at_) (h1 : at_ + 7 * k + 100 < 1000000) :
    ∃ b7', forL (fun fr I => exec cn cf nmIn ro fr I) (.nm 7) (rngL 0 r) [.val (.scr ns), .val (.int at_), a2, .val (.str L26), mk, .val (.int k), .val (.str (S [])), b7, b8] I = .nx [.val (.scr ns), .val (.int at_), a2, .val (.str L26), mk, .val (.int k), .val (.str (S (restL ns at_ k r))), b7', b8] I := by
  obtain ⟨fr', e, b7', he⟩ := forL_ex (body := fun fr I => exec cn cf nmIn ro fr I) (tg := .nm 7) (I := I)
    (fun j fr => ∃ b7, fr = [.val (.scr ns), .val (.int at_), a2, .val (.str L26), mk, .val (.int k), .val (.str (S (restL ns at_ k j))), b7, b8]) (rngL 0 r) 0 _ ⟨b7, rfl⟩ (by
    rintro j x fr hx ⟨b7, rfl⟩
    obtain ⟨rfl, hj⟩ := rngL_get hx
    rw [Int.zero_add] at hj ⊢
    rw [Nat.zero_add]
    refine ⟨[.val (.scr ns), .val (.int at_), a2, .val (.str L26), mk, .val (.int k), .val (.str (S (restL ns at_ k j))), .val (.int j), b8], [.val (.scr ns), .val (.int at_), a2, .val (.str L26), mk, .val (.int k), .val (.str (S (restL ns at_ k (j + 1)))), .val (.int j), b8], rfl, .inl ?_, _, rfl⟩
    have p := pk (at_ + 7 * k + j + 1) 26 (by omega) (by omega) (by omega)
    obtain ⟨q0, q1⟩ := pickF_in ns (at_ + 7 * k + j + 1) (m := 26) (by omega)
    have e1 : binD .mul (.int 7) (.int (k : Int)) I = .ok (.int (7 * k), .fro) I := by simp [binD, small7]
    have e2 : ∀ a b : Int, binD .add (.int a) (.int b) I = .ok (.int (a + b), .fro) I := fun _ _ => rfl
    have e3 := S_add (I := I) (restL ns at_ k j) [lt (pickF ns (at_ + 7 * k + j + 1) 26)] (by rw [restL_len]; exact le_lim (by simp only [List.length_cons, List.length_nil]; omega))
    simp [nmIn, e1, e2, p, sub_L26 q0 q1, e3, restL_succ])
  refine ⟨b7', ?_⟩
  have hl : (rngL 0 (r : Int)).length = r := by simp [rngL]
  rw [Nat.zero_add, hl] at he
  rw [← he]
  exact e
end
end
end Air
/-! Air: plain laws (4): drawn names. -/
namespace Air
open PySem L2
section
variable {cn : Str → Option D} {cf : Str → Bool → List D → Is → R Sl} {ns : List Int} {I : Is} {at_ : Int} {ro : Bool}
theorem big_of {i : Int} (h0 : -1000000 ≤ i) (h1 : i ≤ 1000000) : big62 i = true := by
  unfold big62
  rw [decide_eq_true (Int.le_trans (by decide : (-4611686018427387904 : Int) ≤ -1000000) h0), decide_eq_true (Int.lt_of_le_of_lt h1 (by decide : (1000000 : Int) < 4611686018427387904))]; rfl
@[simp] theorem lim_0 : (0 ≤ lim) = True := eq_true (Nat.zero_le _)
@[simp] theorem lim_1 : (1 ≤ lim) = True := eq_true (by decide)
@[simp] theorem lim_2 : (2 ≤ lim) = True := eq_true (by decide)
@[simp] theorem lim_3 : (3 ≤ lim) = True := eq_true (by decide)
@[simp] theorem lim_4 : (4 ≤ lim) = True := eq_true (by decide)
@[simp] theorem lim_5 : (5 ≤ lim) = True := eq_true (by decide)
@[simp] theorem lim_6 : (6 ≤ lim) = True := eq_true (by decide)
@[simp] theorem lim_7 : (7 ≤ lim) = True := eq_true (by decide)
@[simp] theorem lim_8 : (8 ≤ lim) = True := eq_true (by decide)
@[simp] theorem lim_9 : (9 ≤ lim) = True := eq_true (by decide)
@[simp] theorem lim_10 : (10 ≤ lim) = True := eq_true (by decide)
@[simp] theorem lim_11 : (11 ≤ lim) = True := eq_true (by decide)
@[simp] theorem lim_12 : (12 ≤ lim) = True := eq_true (by decide)
@[simp] theorem lim_13 : (13 ≤ lim) = True := eq_true (by decide)
@[simp] theorem lim_14 : (14 ≤ lim) = True := eq_true (by decide)
@[simp] theorem lim_15 : (15 ≤ lim) = True := eq_true (by decide)
@[simp] theorem lim_16 : (16 ≤ lim) = True := eq_true (by decide)
@[simp] theorem lim_17 : (17 ≤ lim) = True := eq_true (by decide)
@[simp] theorem lim_18 : (18 ≤ lim) = True := eq_true (by decide)
@[simp] theorem lim_19 : (19 ≤ lim) = True := eq_true (by decide)
@[simp] theorem lim_20 : (20 ≤ lim) = True := eq_true (by decide)
@[simp] theorem lim_21 : (21 ≤ lim) = True := eq_true (by decide)
@[simp] theorem lim_22 : (22 ≤ lim) = True := eq_true (by decide)
@[simp] theorem lim_23 : (23 ≤ lim) = True := eq_true (by decide)
@[simp] theorem lim_24 : (24 ≤ lim) = True := eq_true (by decide)
@[simp] theorem lim_25 : (25 ≤ lim) = True := eq_true (by decide)
@[simp] theorem lim_26 : (26 ≤ lim) = True := eq_true (by decide)
@[simp] theorem lim_27 : (27 ≤ lim) = True := eq_true (by decide)
@[simp] theorem lim_28 : (28 ≤ lim) = True := eq_true (by decide)
@[simp] theorem lim_29 : (29 ≤ lim) = True := eq_true (by decide)
@[simp] theorem lim_30 : (30 ≤ lim) = True := eq_true (by decide)
@[simp] theorem lim_31 : (31 ≤ lim) = True := eq_true (by decide)
@[simp] theorem lim_32 : (32 ≤ lim) = True := eq_true (by decide)
@[simp] theorem lim_33 : (33 ≤ lim) = True := eq_true (by decide)
@[simp] theorem lim_34 : (34 ≤ lim) = True := eq_true (by decide)
@[simp] theorem lim_35 : (35 ≤ lim) = True := eq_true (by decide)
@[simp] theorem lim_36 : (36 ≤ lim) = True := eq_true (by decide)
@[simp] theorem lim_37 : (37 ≤ lim) = True := eq_true (by decide)
@[simp] theorem lim_38 : (38 ≤ lim) = True := eq_true (by decide)
@[simp] theorem lim_39 : (39 ≤ lim) = True := eq_true (by decide)
@[simp] theorem lim_40 : (40 ≤ lim) = True := eq_true (by decide)
theorem ev_lst_ok {es : Tm} {fr : Fr} {ps : List (D × Kd)} {ds : List D} (h : evK cn cf es ro fr I = .ok ps I) (e : frzAll ps = some ds) (hl : Nat.ble ds.length 1000000 = true) : ev cn cf (.lst es) ro fr I = .ok (.lst ds, .new) I := by
  rw [ev_lst, h]
  simp only [bind_ok, e]
  rw [decide_eq_true (le_lim (Nat.le_of_ble_eq_true hl))]; rfl
theorem ev_tup_ok {es : Tm} {fr : Fr} {ps : List (D × Kd)} {ds : List D} (h : evK cn cf es ro fr I = .ok ps I) (e : frzAll ps = some ds) (hl : Nat.ble ds.length 1000000 = true) : ev cn cf (.tup es) ro fr I = .ok (.tup ds, .fro) I := by
  rw [ev_tup, h]
  simp only [bind_ok, e]
  rw [decide_eq_true (le_lim (Nat.le_of_ble_eq_true hl))]; rfl
theorem evI_rng1_ok {a : Tm} {n : Int} {k : Kd} {fr : Fr} (h2 : ev cn cf a ro fr I = .ok (.int n, k) I) (h : big62 n = true) : evI cn cf (.rng1 a) ro fr I = .ok (rngL 0 n, .fro) I := by
  rw [evI_rng1, h2, bind_ok]
  simp only [h, cond_true]
theorem nmsL_succ (k : Nat) : nmsL ns at_ (k + 1) = nmsL ns at_ k ++ [nmL ns at_ k] := by
  unfold nmsL
  rw [List.range_succ, List.map_append]; rfl
theorem out_run (pk : Pk cf ns I) {k : Nat} {a2 b6 b7 b8 : Sl} {made : List D} (hm : made.length < lim) (h0 : 0 ≤ at_) (h1 : at_ + 7 * k + 100 < 1000000) :
    ∃ b6' b7' b8', exec cn cf nmOut ro [.val (.scr ns), .val (.int at_), a2, .val (.str L26), .lst made, .val (.int k), b6, b7, b8] I = .nx [.val (.scr ns), .val (.int at_), a2, .val (.str L26), .lst (made ++ [.str (S (nmL ns at_ k))]), .val (.int k), b6', b7', b8'] I := by
  obtain ⟨b7', hin⟩ := nmIn_run (cn := cn) (ro := ro) pk (k := k) (a2 := a2) (mk := .lst made) (b7 := b7) (b8 := b8) (restN_le ns at_ k) h0 h1
  have p5 := pk (at_ + 7 * k) 5 (by omega) (by omega) (by omega)
  have p60 := pk (at_ + 60) 26 (by omega) (by omega) (by omega)
  have p61 := pk (at_ + 61) 2 (by omega) (by omega) (by omega)
  have e1 : binD .mul (.int 7) (.int (k : Int)) I = .ok (.int (7 * k), .fro) I := by simp [binD, small7]
  have e2 : ∀ a b : Int, binD .add (.int a) (.int b) I = .ok (.int (a + b), .fro) I := fun _ _ => rfl
  have e4 : ∀ a : Int, binD .md (.int a) (.int 26) I = .ok (.int (a % 26), .fro) I := fun _ => rfl
  have hrest := restN_le ns at_ k
  have hit : evI cn cf nmIt ro [.val (.scr ns), .val (.int at_), a2, .val (.str L26), .lst made, .val (.int k), .val (.str (S [])), b7, b8] I = .ok (rngL 0 (restN ns at_ k), .fro) I := by
    have hb : big62 ((restN ns at_ k : Nat) : Int) = true := big_of (by omega) (by omega)
    have hls : ∀ fr : Fr, ev cn cf (.lst (.cons (.cns (.int 0)) (.cons (.cns (.int 0)) (.cons (.cns (.int 1)) (.cons (.cns (.int 2)) (.cons (.cns (.int 5)) .nil)))))) ro fr I = .ok (.lst [.int 0, .int 0, .int 1, .int 2, .int 5], .new) I := fun fr => ev_lst_ok rfl rfl rfl
    exact evI_rng1_ok (k := .fro) (by simp only [ev_sub, hls, bind_ok, isI_new, Bool.or_false, ev_call, evK_cons, evK_nil, ev_loc, List.getElem?_cons_zero, List.getElem?_cons_succ, isI_fro, ev_bin, ev_cns, cs_int, e1, e2, p5, restN_at]) hb
  have m0 : 0 ≤ (pickF ns (at_ + 60) 26 + k) % 26 := Int.emod_nonneg _ (by omega)
  have m1 : (pickF ns (at_ + 60) 26 + k) % 26 < 26 := Int.emod_lt_of_pos _ (by omega)
  have hl1 := S_add (I := I) (restL ns at_ k (restN ns at_ k)) (markL ns at_ k) (by rw [restL_len]; exact le_lim (by simp only [markL, List.length_cons, List.length_nil]; omega))
  have hl2 := S_add (I := I) (markL ns at_ k) (restL ns at_ k (restN ns at_ k)) (by rw [restL_len]; exact le_lim (by simp only [markL, List.length_cons, List.length_nil]; omega))
  have hs0 : (Str.ofString "") = S [] := rfl
  refine ⟨.val (.str (S (restL ns at_ k (restN ns at_ k)))), b7', .val (.str (S (markL ns at_ k))), ?_⟩
  have hsub : subD (.str L26) (.int ((pickF ns (at_ + 60) 26 + k) % 26)) .fro I = .ok (.str (S (markL ns at_ k)), .fro) I := sub_L26 m0 m1
  unfold nmOut
  rw [ex_cons, ex_asg, ev_cns, cs_str, stm_ok, frzK_fro]
  simp only [nx_bind, List.set_cons_succ, List.set_cons_zero, hs0]
  rw [ex_cons, ex_for hit (.inl rfl), hin]
  simp only [nx_bind]
  have hc : cmpD .eq (.int (pickF ns (at_ + 61) 2)) (.int 0) I = .ok (.bl (decide (pickF ns (at_ + 61) 2 = 0)), .fro) I := by simp [cmpD, D.eqc, D.dep, b2]
  by_cases hq : pickF ns (at_ + 61) 2 = 0
  · have : nmL ns at_ k = restL ns at_ k (restN ns at_ k) ++ markL ns at_ k := by simp [nmL, hq]
    rw [this]
    rw [decide_eq_true hq] at hc
    simp [nmTl, e2, e4, p60, p61, hsub, hc, hl1, hm]
  · have : nmL ns at_ k = markL ns at_ k ++ restL ns at_ k (restN ns at_ k) := by simp [nmL, hq]
    rw [this]
    rw [decide_eq_false hq] at hc
    simp [nmTl, e2, e4, p60, p61, hsub, hc, hl2, hm]
end
variable {Γ : Gm}
theorem names_run (hp : Γ.fn "_law_pick" = some ⟨3, 7, [], pickS⟩) (h : Γ.fn "_law_names" = some ⟨3, 9, [], namesS⟩) {ns : List Int} {at_ : Int} {m : Nat} (hl : ns.length ≤ 63) (h0 : 0 ≤ at_) (h1 : at_ + 7 * m + 100 < 1000000) (n : Nat) (ro : Bool) (I : Is) :
    callN Γ (n + 2) "_law_names" ro [.scr ns, .int at_, .int m] I = .ok (.lst ((nmsL ns at_ m).map fun l => .str (S l))) I := by
  have pk : Pk (callN Γ (n + 1)) ns I := fun k q k0 k1 q0 ro => callD_of rfl (fun ro => pick_run hp hl k0 k1 q0 n ro I) rfl
  unfold callN
  rw [h]
  have L : (Str.ofString "abcdefghijklmnopqrstuvwxyz") = L26 := rfl
  obtain ⟨fr', e, b5, b6, b7, b8, he⟩ := forL_ex (body := fun fr I => exec Γ.cn (callN Γ (n + 1)) nmOut ro fr I) (tg := .nm 5) (I := I)
    (fun k fr => ∃ b5 b6 b7 b8, fr = [.val (.scr ns), .val (.int at_), .val (.int m), .val (.str L26), .lst ((nmsL ns at_ k).map fun l => .str (S l)), b5, b6, b7, b8]) (rngL 0 m) 0 _ ⟨.no, .no, .no, .no, rfl⟩ (by
    rintro k x fr hx ⟨b5, b6, b7, b8, rfl⟩
    obtain ⟨rfl, hk⟩ := rngL_get hx
    rw [Int.zero_add] at hk ⊢
    rw [Nat.zero_add]
    obtain ⟨b6', b7', b8', ho⟩ := out_run (cn := Γ.cn) (ro := ro) pk (k := k) (a2 := .val (.int m)) (b6 := b6) (b7 := b7) (b8 := b8) (made := (nmsL ns at_ k).map fun l => .str (S l)) (Nat.lt_of_lt_of_le (by simp only [nmsL, List.length_map, List.length_range]; omega) (le_lim (Nat.le_refl 1000000))) h0 (by omega)
    refine ⟨_, _, rfl, .inl ho, .val (.int k), b6', b7', b8', ?_⟩
    rw [nmsL_succ, List.map_append]; rfl)
  have hlen : (rngL 0 (m : Int)).length = m := by simp [rngL]
  rw [Nat.zero_add, hlen] at he
  have hb : big62 (m : Int) = true := big_of (by omega) (by omega)
  have hit : evI Γ.cn (callN Γ (n + 1)) (.rng1 (.loc 2)) ro [.val (.scr ns), .val (.int at_), .val (.int m), .val (.str L26), .lst [], .no, .no, .no, .no] I = .ok (rngL 0 m, .fro) I := evI_rng1_ok (k := .fro) (by simp only [ev_loc, List.getElem?_cons_zero, List.getElem?_cons_succ]) hb
  simp only [fillD, List.length_cons, List.length_nil, show (decide (0 + 1 + 1 + 1 ≤ 3) && decide (3 ≤ 0 + 1 + 1 + 1 + 0)) = true by decide, cond_true, List.drop_nil, List.append_nil, List.map_cons, List.map_nil, Nat.reduceSub, List.replicate_succ, List.replicate_zero, List.cons_append, List.nil_append]
  unfold namesS
  rw [ex_cons]
  have h1 : exec Γ.cn (callN Γ (n + 1)) (.par [(3, false), (4, true)] (.cons (.cns (.str "abcdefghijklmnopqrstuvwxyz")) (.cons (.lst .nil) .nil))) ro [.val (.scr ns), .val (.int at_), .val (.int m), .no, .no, .no, .no, .no, .no] I = .nx [.val (.scr ns), .val (.int at_), .val (.int m), .val (.str L26), .lst [], .no, .no, .no, .no] I := by
    have hk : evK Γ.cn (callN Γ (n + 1)) (.cons (.cns (.str "abcdefghijklmnopqrstuvwxyz")) (.cons (.lst .nil) .nil)) ro [.val (.scr ns), .val (.int at_), .val (.int m), .no, .no, .no, .no, .no, .no] I = .ok [(.str L26, .fro), (.lst [], .new)] I := by
      rw [evK_cons, ev_cns, cs_str, bind_ok, evK_cons, ev_lst_ok (ps := []) (ds := []) evK_nil rfl rfl, bind_ok, evK_nil, bind_ok, bind_ok]; rfl
    rw [ex_par, hk, stm_ok]; rfl
  rw [h1]
  simp only [nx_bind]
  have e0 : nmsL ns at_ 0 = [] := rfl
  simp only [e0, List.map_nil] at e
  rw [ex_cons, ex_for hit (.inl rfl), e, he, nx_bind, ex_cons, ex_retOwn]; rfl
end Air
/-! Air: plain laws (5): a run from the left, what comes later is left alone. -/
namespace Air
open PySem L2
section
variable {α β : Type} {fr fr' : Fr} {I : Is}
@[simp] theorem bind_exc (x : Ex) (f : α → Is → R β) : (R.exc x I).bind f = .exc x I := id rfl
@[simp] theorem stm_exc (x : Ex) (f : α → Is → Xr) : (R.exc x I).stm fr f = .exc x fr I := id rfl
@[simp] theorem tst_exc (x : Ex) (f : Bool → Is → R β) : (R.exc x I).tst f = .exc x I := id rfl
@[simp] theorem xexc_bind (x : Ex) (f : Fr → Is → Xr) : (Xr.exc x fr I).bind f = .exc x fr I := id rfl
@[simp] theorem run_exc (x : Ex) : runB (.exc x fr I) = .exc x I := id rfl
@[simp] theorem reset_exc (x : Ex) : (R.exc x I : R α).reset I = .exc x I := id rfl
variable {cn : Str → Option D} {cf : Str → Bool → List D → Is → R Sl} {ro : Bool}
@[simp] theorem tell_ok (p : D × Kd) : tellR (.ok p I) = .ok p I := id rfl
theorem tell_exc {x : Ex} (h : x.cls ∈ tellN) : tellR (.exc x I) = .ok (.tup [.str "refused", .str x.cls], .fro) I := by
  show (bif decide (x.cls ∈ tellN) then _ else _) = _
  rw [decide_eq_true h]; rfl
@[simp] theorem ex_rais (c : Str) : exec cn cf (.rais c) ro fr I = .exc ⟨c, []⟩ fr I := id rfl
/-! #### what comes later, by names -/
def roK (ro : Bool) (k : Kd) : Bool := ro || isInst k
@[simp] theorem roK_fro : roK ro .fro = ro := Bool.or_false ro
@[simp] theorem roK_new : roK ro .new = ro := Bool.or_false ro
@[simp] theorem roK_own : roK ro .own = ro := Bool.or_false ro
@[simp] theorem roK_cst : roK ro .cst = ro := Bool.or_false ro
@[simp] theorem roK_inst : roK ro .inst = true := Bool.or_true ro
def kBin2 (o : Bo) (a : D) (q : D × Kd) (I : Is) : R (D × Kd) := binD o a q.1 I
def kBin (cn : Str → Option D) (cf : Str → Bool → List D → Is → R Sl) (o : Bo) (b : Tm) (ro : Bool) (fr : Fr) (p : D × Kd) (I : Is) : R (D × Kd) := (ev cn cf b (roK ro p.2) fr I).bind (kBin2 o p.1)
@[simp high] theorem ev_bin' (o : Bo) (a b : Tm) : ev cn cf (.bin o a b) ro fr I = (ev cn cf a ro fr I).bind (kBin cn cf o b ro fr) := id rfl
@[simp] theorem kBin_ok (o : Bo) (b : Tm) (d : D) (k : Kd) : kBin cn cf o b ro fr (d, k) I = (ev cn cf b (roK ro k) fr I).bind (kBin2 o d) := id rfl
@[simp] theorem kBin2_ok (o : Bo) (a d : D) (k : Kd) : kBin2 o a (d, k) I = binD o a d I := id rfl
def kNeg (p : D × Kd) (I : Is) : R (D × Kd) := match p.1 with
    | .int i => .ok (.int (-i), .fro) I
    | _ => .bad
@[simp high] theorem ev_neg' (a : Tm) : ev cn cf (.neg a) ro fr I = (ev cn cf a ro fr I).bind kNeg := id rfl
@[simp] theorem kNeg_ok (i : Int) (k : Kd) : kNeg (.int i, k) I = .ok (.int (-i), .fro) I := id rfl
def kCmp2 (o : Co) (a : D) (q : D × Kd) (I : Is) : R (D × Kd) := cmpD o a q.1 I
def kCmp (cn : Str → Option D) (cf : Str → Bool → List D → Is → R Sl) (o : Co) (b : Tm) (ro : Bool) (fr : Fr) (p : D × Kd) (I : Is) : R (D × Kd) := (ev cn cf b (roK ro p.2) fr I).bind (kCmp2 o p.1)
@[simp high] theorem ev_cmp' (o : Co) (a b : Tm) : ev cn cf (.cmp o a b) ro fr I = (ev cn cf a ro fr I).bind (kCmp cn cf o b ro fr) := id rfl
@[simp] theorem kCmp_ok (o : Co) (b : Tm) (d : D) (k : Kd) : kCmp cn cf o b ro fr (d, k) I = (ev cn cf b (roK ro k) fr I).bind (kCmp2 o d) := id rfl
@[simp] theorem kCmp2_ok (o : Co) (a d : D) (k : Kd) : kCmp2 o a (d, k) I = cmpD o a d I := id rfl
def kIsn (ng : Bool) (p : D × Kd) (I : Is) : R (D × Kd) := match p.1 with
    | .non => b2 (!ng) I
    | _ => b2 ng I
@[simp high] theorem ev_isn' (ng : Bool) (a : Tm) : ev cn cf (.isn ng a) ro fr I = (ev cn cf a ro fr I).bind (kIsn ng) := id rfl
@[simp] theorem kIsn_non (ng : Bool) (k : Kd) : kIsn ng (.non, k) I = .ok (.bl (!ng), .fro) I := id rfl
@[simp] theorem kIsn_bl (ng : Bool) (b : Bool) (k : Kd) : kIsn ng (.bl b, k) I = .ok (.bl ng, .fro) I := id rfl
@[simp] theorem kIsn_int (ng : Bool) (b : Int) (k : Kd) : kIsn ng (.int b, k) I = .ok (.bl ng, .fro) I := id rfl
@[simp] theorem kIsn_str (ng : Bool) (b : Str) (k : Kd) : kIsn ng (.str b, k) I = .ok (.bl ng, .fro) I := id rfl
@[simp] theorem kIsn_tup (ng : Bool) (b : List D) (k : Kd) : kIsn ng (.tup b, k) I = .ok (.bl ng, .fro) I := id rfl
@[simp] theorem kIsn_lst (ng : Bool) (b : List D) (k : Kd) : kIsn ng (.lst b, k) I = .ok (.bl ng, .fro) I := id rfl
def kIsb (ng k : Bool) (p : D × Kd) (I : Is) : R (D × Kd) := match p.1 with
    | .bl b => b2 (xor ng (b == k)) I
    | _ => .bad
@[simp high] theorem ev_isb' (ng k : Bool) (a : Tm) : ev cn cf (.isb ng k a) ro fr I = (ev cn cf a ro fr I).bind (kIsb ng k) := id rfl
@[simp] theorem kIsb_ok (ng k b : Bool) (kd : Kd) : kIsb ng k (.bl b, kd) I = .ok (.bl (xor ng (b == k)), .fro) I := id rfl
def kCh2c (cn : Str → Option D) (cf : Str → Bool → List D → Is → R Sl) (o2 : Co) (c : Tm) (ro : Bool) (fr : Fr) (q : D × Kd) (t : Bool) (I : Is) : R (D × Kd) := bif t then (ev cn cf c (roK ro q.2) fr I).bind (kCmp2 o2 q.1) else b2 false I
def kCh2b (cn : Str → Option D) (cf : Str → Bool → List D → Is → R Sl) (o1 o2 : Co) (c : Tm) (ro : Bool) (fr : Fr) (a : D) (q : D × Kd) (I : Is) : R (D × Kd) := (cmpD o1 a q.1 I).tst (kCh2c cn cf o2 c ro fr q)
def kCh2 (cn : Str → Option D) (cf : Str → Bool → List D → Is → R Sl) (o1 o2 : Co) (b c : Tm) (ro : Bool) (fr : Fr) (p : D × Kd) (I : Is) : R (D × Kd) := (ev cn cf b (roK ro p.2) fr I).bind (kCh2b cn cf o1 o2 c ro fr p.1)
@[simp high] theorem ev_ch2' (o1 o2 : Co) (a b c : Tm) : ev cn cf (.ch2 o1 o2 a b c) ro fr I = (ev cn cf a ro fr I).bind (kCh2 cn cf o1 o2 b c ro fr) := id rfl
@[simp] theorem kCh2_ok (o1 o2 : Co) (b c : Tm) (d : D) (k : Kd) : kCh2 cn cf o1 o2 b c ro fr (d, k) I = (ev cn cf b (roK ro k) fr I).bind (kCh2b cn cf o1 o2 c ro fr d) := id rfl
@[simp] theorem kCh2b_ok (o1 o2 : Co) (c : Tm) (a d : D) (k : Kd) : kCh2b cn cf o1 o2 c ro fr a (d, k) I = (cmpD o1 a d I).tst (kCh2c cn cf o2 c ro fr (d, k)) := id rfl
@[simp] theorem kCh2c_ok (o2 : Co) (c : Tm) (d : D) (k : Kd) (t : Bool) : kCh2c cn cf o2 c ro fr (d, k) t I = bif t then (ev cn cf c (roK ro k) fr I).bind (kCmp2 o2 d) else .ok (.bl false, .fro) I := id rfl
def kCh3d (cn : Str → Option D) (cf : Str → Bool → List D → Is → R Sl) (o3 : Co) (d : Tm) (ro : Bool) (fr : Fr) (r : D × Kd) (t : Bool) (I : Is) : R (D × Kd) := bif t then (ev cn cf d (roK ro r.2) fr I).bind (kCmp2 o3 r.1) else b2 false I
def kCh3c' (cn : Str → Option D) (cf : Str → Bool → List D → Is → R Sl) (o2 o3 : Co) (d : Tm) (ro : Bool) (fr : Fr) (q : D) (r : D × Kd) (I : Is) : R (D × Kd) := (cmpD o2 q r.1 I).tst (kCh3d cn cf o3 d ro fr r)
def kCh3c (cn : Str → Option D) (cf : Str → Bool → List D → Is → R Sl) (o2 o3 : Co) (c d : Tm) (ro : Bool) (fr : Fr) (q : D × Kd) (t : Bool) (I : Is) : R (D × Kd) := bif t then (ev cn cf c (roK ro q.2) fr I).bind (kCh3c' cn cf o2 o3 d ro fr q.1) else b2 false I
def kCh3b (cn : Str → Option D) (cf : Str → Bool → List D → Is → R Sl) (o1 o2 o3 : Co) (c d : Tm) (ro : Bool) (fr : Fr) (a : D) (q : D × Kd) (I : Is) : R (D × Kd) := (cmpD o1 a q.1 I).tst (kCh3c cn cf o2 o3 c d ro fr q)
def kCh3 (cn : Str → Option D) (cf : Str → Bool → List D → Is → R Sl) (o1 o2 o3 : Co) (b c d : Tm) (ro : Bool) (fr : Fr) (p : D × Kd) (I : Is) : R (D × Kd) := (ev cn cf b (roK ro p.2) fr I).bind (kCh3b cn cf o1 o2 o3 c d ro fr p.1)
@[simp high] theorem ev_ch3' (o1 o2 o3 : Co) (a b c d : Tm) : ev cn cf (.ch3 o1 o2 o3 a b c d) ro fr I = (ev cn cf a ro fr I).bind (kCh3 cn cf o1 o2 o3 b c d ro fr) := id rfl
@[simp] theorem kCh3_ok (o1 o2 o3 : Co) (b c e : Tm) (d : D) (k : Kd) : kCh3 cn cf o1 o2 o3 b c e ro fr (d, k) I = (ev cn cf b (roK ro k) fr I).bind (kCh3b cn cf o1 o2 o3 c e ro fr d) := id rfl
@[simp] theorem kCh3b_ok (o1 o2 o3 : Co) (c e : Tm) (a d : D) (k : Kd) : kCh3b cn cf o1 o2 o3 c e ro fr a (d, k) I = (cmpD o1 a d I).tst (kCh3c cn cf o2 o3 c e ro fr (d, k)) := id rfl
@[simp] theorem kCh3c_ok (o2 o3 : Co) (c e : Tm) (d : D) (k : Kd) (t : Bool) : kCh3c cn cf o2 o3 c e ro fr (d, k) t I = bif t then (ev cn cf c (roK ro k) fr I).bind (kCh3c' cn cf o2 o3 e ro fr d) else .ok (.bl false, .fro) I := id rfl
@[simp] theorem kCh3c'_ok (o2 o3 : Co) (e : Tm) (a d : D) (k : Kd) : kCh3c' cn cf o2 o3 e ro fr a (d, k) I = (cmpD o2 a d I).tst (kCh3d cn cf o3 e ro fr (d, k)) := id rfl
@[simp] theorem kCh3d_ok (o3 : Co) (e : Tm) (d : D) (k : Kd) (t : Bool) : kCh3d cn cf o3 e ro fr (d, k) t I = bif t then (ev cn cf e (roK ro k) fr I).bind (kCmp2 o3 d) else .ok (.bl false, .fro) I := id rfl
def kBl (u : Bool) (I : Is) : R (D × Kd) := b2 u I
@[simp] theorem kBl_ok (u : Bool) : kBl u I = .ok (.bl u, .fro) I := id rfl
def kAnd (cn : Str → Option D) (cf : Str → Bool → List D → Is → R Sl) (b : Tm) (ro : Bool) (fr : Fr) (t : Bool) (I : Is) : R (D × Kd) := bif t then (ev cn cf b ro fr I).tst kBl else b2 false I
@[simp high] theorem ev_and' (a b : Tm) : ev cn cf (.and a b) ro fr I = (ev cn cf a ro fr I).tst (kAnd cn cf b ro fr) := id rfl
@[simp] theorem kAnd_ok (b : Tm) (t : Bool) : kAnd cn cf b ro fr t I = bif t then (ev cn cf b ro fr I).tst kBl else .ok (.bl false, .fro) I := id rfl
def kOr (cn : Str → Option D) (cf : Str → Bool → List D → Is → R Sl) (b : Tm) (ro : Bool) (fr : Fr) (t : Bool) (I : Is) : R (D × Kd) := bif t then b2 true I else (ev cn cf b ro fr I).tst kBl
@[simp high] theorem ev_or' (a b : Tm) : ev cn cf (.or a b) ro fr I = (ev cn cf a ro fr I).tst (kOr cn cf b ro fr) := id rfl
@[simp] theorem kOr_ok (b : Tm) (t : Bool) : kOr cn cf b ro fr t I = bif t then .ok (.bl true, .fro) I else (ev cn cf b ro fr I).tst kBl := id rfl
def kNot (t : Bool) (I : Is) : R (D × Kd) := b2 (!t) I
@[simp high] theorem ev_not' (a : Tm) : ev cn cf (.not a) ro fr I = (ev cn cf a ro fr I).tst kNot := id rfl
@[simp] theorem kNot_ok (t : Bool) : kNot t I = .ok (.bl (!t), .fro) I := id rfl
def kIte (cn : Str → Option D) (cf : Str → Bool → List D → Is → R Sl) (a b : Tm) (ro : Bool) (fr : Fr) (t : Bool) (I : Is) : R (D × Kd) := bif t then ev cn cf a ro fr I else ev cn cf b ro fr I
@[simp high] theorem ev_ite' (c a b : Tm) : ev cn cf (.ite c a b) ro fr I = (ev cn cf c ro fr I).tst (kIte cn cf a b ro fr) := id rfl
@[simp] theorem kIte_t (a b : Tm) : kIte cn cf a b ro fr true I = ev cn cf a ro fr I := id rfl
@[simp] theorem kIte_f (a b : Tm) : kIte cn cf a b ro fr false I = ev cn cf b ro fr I := id rfl
theorem kIte_b (a b : Tm) (t : Bool) : kIte cn cf a b ro fr t I = bif t then ev cn cf a ro fr I else ev cn cf b ro fr I := id rfl
def kTup (ps : List (D × Kd)) (I : Is) : R (D × Kd) := match frzAll ps with
    | some ds => bif decide (ds.length ≤ lim) then .ok (.tup ds, .fro) I else .bad
    | none => .bad
def kLst (ps : List (D × Kd)) (I : Is) : R (D × Kd) := match frzAll ps with
    | some ds => bif decide (ds.length ≤ lim) then .ok (.lst ds, .new) I else .bad
    | none => .bad
@[simp high] theorem ev_tup' (es : Tm) : ev cn cf (.tup es) ro fr I = (evK cn cf es ro fr I).bind kTup := id rfl
@[simp high] theorem ev_lst' (es : Tm) : ev cn cf (.lst es) ro fr I = (evK cn cf es ro fr I).bind kLst := id rfl
@[simp] theorem kTup_ok (ps : List (D × Kd)) : kTup ps I = match frzAll ps with
    | some ds => bif decide (ds.length ≤ lim) then .ok (.tup ds, .fro) I else .bad
    | none => .bad := id rfl
@[simp] theorem kLst_ok (ps : List (D × Kd)) : kLst ps I = match frzAll ps with
    | some ds => bif decide (ds.length ≤ lim) then .ok (.lst ds, .new) I else .bad
    | none => .bad := id rfl
def kSub2 (a : D × Kd) (q : D × Kd) (I : Is) : R (D × Kd) := subD a.1 q.1 a.2 I
def kSub (cn : Str → Option D) (cf : Str → Bool → List D → Is → R Sl) (i : Tm) (ro : Bool) (fr : Fr) (p : D × Kd) (I : Is) : R (D × Kd) := (ev cn cf i (roK ro p.2) fr I).bind (kSub2 p)
@[simp high] theorem ev_sub' (a i : Tm) : ev cn cf (.sub a i) ro fr I = (ev cn cf a ro fr I).bind (kSub cn cf i ro fr) := id rfl
@[simp] theorem kSub_ok (i : Tm) (d : D) (k : Kd) : kSub cn cf i ro fr (d, k) I = (ev cn cf i (roK ro k) fr I).bind (kSub2 (d, k)) := id rfl
@[simp] theorem kSub2_ok (a d : D) (k k2 : Kd) : kSub2 (a, k) (d, k2) I = subD a d k I := id rfl
def kSlc3 (a : D × Kd) (l : Option Int) (h : Option Int) (I : Is) : R (D × Kd) := slcD a.1 a.2 l h I
def kSlc2 (cn : Str → Option D) (cf : Str → Bool → List D → Is → R Sl) (hi : Tm) (ro : Bool) (fr : Fr) (p : D × Kd) (l : Option Int) (I : Is) : R (D × Kd) := (evP cn cf hi (roK ro p.2) fr I).bind (kSlc3 p l)
def kSlc (cn : Str → Option D) (cf : Str → Bool → List D → Is → R Sl) (lo hi : Tm) (ro : Bool) (fr : Fr) (p : D × Kd) (I : Is) : R (D × Kd) := (evP cn cf lo (roK ro p.2) fr I).bind (kSlc2 cn cf hi ro fr p)
@[simp high] theorem ev_slc' (a lo hi : Tm) : ev cn cf (.slc a lo hi) ro fr I = (ev cn cf a ro fr I).bind (kSlc cn cf lo hi ro fr) := id rfl
@[simp] theorem kSlc_ok (lo hi : Tm) (d : D) (k : Kd) : kSlc cn cf lo hi ro fr (d, k) I = (evP cn cf lo (roK ro k) fr I).bind (kSlc2 cn cf hi ro fr (d, k)) := id rfl
@[simp] theorem kSlc2_ok (hi : Tm) (d : D) (k : Kd) (l : Option Int) : kSlc2 cn cf hi ro fr (d, k) l I = (evP cn cf hi (roK ro k) fr I).bind (kSlc3 (d, k) l) := id rfl
@[simp] theorem kSlc3_ok (d : D) (k : Kd) (l h : Option Int) : kSlc3 (d, k) l h I = slcD d k l h I := id rfl
def kRev (p : D × Kd) (I : Is) : R (D × Kd) := match p.1 with
    | .lst xs => .ok (.lst xs.reverse, .new) I
    | _ => .bad
@[simp high] theorem ev_rev' (a : Tm) : ev cn cf (.rev a) ro fr I = (ev cn cf a ro fr I).bind kRev := id rfl
@[simp] theorem kRev_ok (xs : List D) (k : Kd) : kRev (.lst xs, k) I = .ok (.lst xs.reverse, .new) I := id rfl
@[simp high] theorem ev_call' (x : Str) (es : Tm) : ev cn cf (.call x es) ro fr I = (evK cn cf es ro fr I).bind (callD cf x ro) := id rfl
@[simp high] theorem ev_blt' (f : Bi) (es : Tm) : ev cn cf (.blt f es) ro fr I = (evK cn cf es ro fr I).bind (biD f) := id rfl
def kIsi (k : Str) (p : D × Kd) (I : Is) : R (D × Kd) := match isiD p.1 k with
      | some b => b2 b I
      | none => .bad
@[simp high] theorem ev_isi' (a : Tm) (k : Str) : ev cn cf (.isi a [k]) ro fr I = (ev cn cf a ro fr I).bind (kIsi k) := id rfl
theorem kIsi_some {k : Str} {d : D} {b : Bool} (h : isiD d k = some b) (kd : Kd) : kIsi k (d, kd) I = .ok (.bl b, .fro) I := by
  show (match isiD d k with | some b => b2 b I | none => .bad) = _
  rw [h]; rfl
@[simp] theorem kIsi_ok (k : Str) (d : D) (kd : Kd) : kIsi k (d, kd) I = match isiD d k with
      | some b => .ok (.bl b, .fro) I
      | none => .bad := id rfl
@[simp high] theorem ev_told' (e : Tm) : ev cn cf (.told e) ro fr I = tellR (ev cn cf e ro fr I) := id rfl
def kCons2 (p : D × Kd) (ps : List (D × Kd)) (I : Is) : R (List (D × Kd)) := .ok (p :: ps) I
def kCons (cn : Str → Option D) (cf : Str → Bool → List D → Is → R Sl) (b : Tm) (ro : Bool) (fr : Fr) (p : D × Kd) (I : Is) : R (List (D × Kd)) := (evK cn cf b (roK ro p.2) fr I).bind (kCons2 p)
@[simp high] theorem evK_cons' (a b : Tm) : evK cn cf (.cons a b) ro fr I = (ev cn cf a ro fr I).bind (kCons cn cf b ro fr) := id rfl
@[simp] theorem kCons_ok (b : Tm) (d : D) (k : Kd) : kCons cn cf b ro fr (d, k) I = (evK cn cf b (roK ro k) fr I).bind (kCons2 (d, k)) := id rfl
@[simp] theorem kCons2_ok (p : D × Kd) (ps : List (D × Kd)) : kCons2 p ps I = .ok (p :: ps) I := id rfl
def kP (p : D × Kd) (I : Is) : R (Option Int) := match p.1 with
    | .int i => .ok (some i) I
    | _ => .bad
@[simp high] theorem evP_cons' (a : Tm) : evP cn cf (.cons a .nil) ro fr I = (ev cn cf a ro fr I).bind kP := id rfl
@[simp] theorem kP_ok (i : Int) (k : Kd) : kP (.int i, k) I = .ok (some i) I := id rfl
def kC (t : Bool) (I : Is) : R Bool := .ok t I
@[simp high] theorem evC_cons' (a : Tm) : evC cn cf (.cons a .nil) ro fr I = (ev cn cf a ro fr I).tst kC := id rfl
@[simp] theorem kC_ok (t : Bool) : kC t I = .ok t I := id rfl
def kRng1 (p : D × Kd) (I : Is) : R (List D × Kd) := match p.1 with
    | .int n => bif big62 n then .ok (rngL 0 n, .fro) I else .bad
    | _ => .bad
@[simp high] theorem evI_rng1' (a : Tm) : evI cn cf (.rng1 a) ro fr I = (ev cn cf a ro fr I).bind kRng1 := id rfl
@[simp] theorem kRng1_ok (n : Int) (k : Kd) : kRng1 (.int n, k) I = bif big62 n then .ok (rngL 0 n, .fro) I else .bad := id rfl
def kRng2b (l : D) (q : D × Kd) (I : Is) : R (List D × Kd) := match l, q.1 with
    | .int l, .int n => bif big62 l && big62 n then .ok (rngL l n, .fro) I else .bad
    | _, _ => .bad
def kRng2 (cn : Str → Option D) (cf : Str → Bool → List D → Is → R Sl) (b : Tm) (ro : Bool) (fr : Fr) (p : D × Kd) (I : Is) : R (List D × Kd) := (ev cn cf b (roK ro p.2) fr I).bind (kRng2b p.1)
@[simp high] theorem evI_rng2' (a b : Tm) : evI cn cf (.rng2 a b) ro fr I = (ev cn cf a ro fr I).bind (kRng2 cn cf b ro fr) := by
  show ((ev cn cf a ro fr I).bind fun p I => (ev cn cf b (ro || isInst p.2) fr I).bind fun q I => _) = _
  congr 1
@[simp] theorem kRng2_ok (b : Tm) (d : D) (k : Kd) : kRng2 cn cf b ro fr (d, k) I = (ev cn cf b (roK ro k) fr I).bind (kRng2b d) := id rfl
@[simp] theorem kRng2b_ok (l n : Int) (k : Kd) : kRng2b (.int l) (.int n, k) I = bif big62 l && big62 n then .ok (rngL l n, .fro) I else .bad := id rfl
def kEnm (p : D × Kd) (I : Is) : R (List D × Kd) := match p.1 with
    | .lst xs => .ok (enmL 0 xs, p.2) I
    | _ => .bad
@[simp high] theorem evI_enm' (a : Tm) : evI cn cf (.enm a) ro fr I = (ev cn cf a ro fr I).bind kEnm := id rfl
@[simp] theorem kEnm_ok (xs : List D) (k : Kd) : kEnm (.lst xs, k) I = .ok (enmL 0 xs, k) I := id rfl
def kIt (p : D × Kd) (I : Is) : R (List D × Kd) := match itD p with
    | some r => .ok r I
    | none => .bad
@[simp high] theorem evI_cons' (a : Tm) : evI cn cf (.cons a .nil) ro fr I = (ev cn cf a ro fr I).bind kIt := id rfl
@[simp] theorem kIt_ok (p : D × Kd) : kIt p I = match itD p with
    | some r => .ok r I
    | none => .bad := id rfl
@[simp] theorem itD_lst (xs : List D) (k : Kd) : itD (.lst xs, k) = some (xs, k) := id rfl
@[simp] theorem itD_tup (xs : List D) : itD (.tup xs, .fro) = some (xs, .fro) := id rfl
def kSeq (cn : Str → Option D) (cf : Str → Bool → List D → Is → R Sl) (r : Sm) (ro : Bool) (fr : Fr) (I : Is) : Xr := exec cn cf r ro fr I
@[simp high] theorem ex_cons' (s r : Sm) : exec cn cf (.cons s r) ro fr I = (exec cn cf s ro fr I).bind (kSeq cn cf r ro) := id rfl
@[simp] theorem kSeq_ok (r : Sm) : kSeq cn cf r ro fr I = exec cn cf r ro fr I := id rfl
def kAsg (i : Nat) (fr : Fr) (p : D × Kd) (I : Is) : Xr := match frzK p with
    | some d => .nx (fr.set i (.val d)) I
    | none => .bad
@[simp high] theorem ex_asg' (i : Nat) (e : Tm) : exec cn cf (.asg i e) ro fr I = (ev cn cf e ro fr I).stm fr (kAsg i fr) := id rfl
@[simp] theorem kAsg_fro (i : Nat) (d : D) : kAsg i fr (d, .fro) I = .nx (fr.set i (.val d)) I := id rfl
@[simp] theorem kAsg_new (i : Nat) (d : D) : kAsg i fr (d, .new) I = .nx (fr.set i (.val d)) I := id rfl
def kOwn (i : Nat) (fr : Fr) (p : D × Kd) (I : Is) : Xr := match stoK true p with
    | some s => .nx (fr.set i s) I
    | none => .bad
@[simp high] theorem ex_own' (i : Nat) (e : Tm) : exec cn cf (.own i e) ro fr I = (ev cn cf e ro fr I).stm fr (kOwn i fr) := id rfl
@[simp] theorem kOwn_fro (i : Nat) (d : D) : kOwn i fr (d, .fro) I = .nx (fr.set i (.val d)) I := id rfl
@[simp] theorem kOwn_lst (i : Nat) (xs : List D) : kOwn i fr (.lst xs, .new) I = .nx (fr.set i (.lst xs)) I := id rfl
def kPar (tg : List (Nat × Bool)) (fr : Fr) (ps : List (D × Kd)) (I : Is) : Xr := match stoAll tg ps fr with
    | some fr => .nx fr I
    | none => .bad
@[simp high] theorem ex_par' (tg : List (Nat × Bool)) (es : Tm) : exec cn cf (.par tg es) ro fr I = (evK cn cf es ro fr I).stm fr (kPar tg fr) := id rfl
@[simp] theorem kPar_ok (tg : List (Nat × Bool)) (ps : List (D × Kd)) : kPar tg fr ps I = match stoAll tg ps fr with
    | some fr => .nx fr I
    | none => .bad := id rfl
@[simp] theorem sto_nil : stoAll [] [] fr = some fr := id rfl
@[simp] theorem sto_fro (i : Nat) (b : Bool) (ts : List (Nat × Bool)) (d : D) (ps : List (D × Kd)) : stoAll ((i, b) :: ts) ((d, .fro) :: ps) fr = stoAll ts ps (fr.set i (.val d)) := id rfl
@[simp] theorem sto_newF (i : Nat) (ts : List (Nat × Bool)) (d : D) (ps : List (D × Kd)) : stoAll ((i, false) :: ts) ((d, .new) :: ps) fr = stoAll ts ps (fr.set i (.val d)) := id rfl
@[simp] theorem sto_newT (i : Nat) (ts : List (Nat × Bool)) (xs : List D) (ps : List (D × Kd)) : stoAll ((i, true) :: ts) ((.lst xs, .new) :: ps) fr = stoAll ts ps (fr.set i (.lst xs)) := id rfl
def kUnp (tg : List Nat) (fr : Fr) (p : D × Kd) (I : Is) : Xr := match frzK p with
    | some d => (match asgT (.tp tg) d fr with
      | some fr => .nx fr I
      | none => .bad)
    | none => .bad
@[simp high] theorem ex_unp' (tg : List Nat) (e : Tm) : exec cn cf (.unp tg e) ro fr I = (ev cn cf e ro fr I).stm fr (kUnp tg fr) := id rfl
@[simp] theorem kUnp_fro (tg : List Nat) (d : D) : kUnp tg fr (d, .fro) I = match asgT (.tp tg) d fr with
      | some fr => .nx fr I
      | none => .bad := id rfl
@[simp] theorem kUnp_new (tg : List Nat) (d : D) : kUnp tg fr (d, .new) I = match asgT (.tp tg) d fr with
      | some fr => .nx fr I
      | none => .bad := id rfl
def kApp (i : Nat) (xs : List D) (fr : Fr) (p : D × Kd) (I : Is) : Xr := match frzK p with
      | some d => bif decide (xs.length < lim) then .nx (fr.set i (.lst (xs ++ [d]))) I else .bad
      | none => .bad
@[simp high] theorem ex_app' (i : Nat) (e : Tm) : exec cn cf (.app i e) ro fr I = (match fr[i]? with
    | some (.lst xs) => (ev cn cf e ro fr I).stm fr (kApp i xs fr)
    | _ => .bad) := id rfl
@[simp] theorem kApp_fro (i : Nat) (xs : List D) (d : D) : kApp i xs fr (d, .fro) I = bif decide (xs.length < lim) then .nx (fr.set i (.lst (xs ++ [d]))) I else .bad := id rfl
@[simp] theorem kApp_new (i : Nat) (xs : List D) (d : D) : kApp i xs fr (d, .new) I = bif decide (xs.length < lim) then .nx (fr.set i (.lst (xs ++ [d]))) I else .bad := id rfl
def kExt (i : Nat) (xs : List D) (fr : Fr) (p : D × Kd) (I : Is) : Xr := match p.1 with
      | .lst ys => bif decide (xs.length + ys.length ≤ lim) then .nx (fr.set i (.lst (xs ++ ys))) I else .bad
      | _ => .bad
@[simp high] theorem ex_ext' (i : Nat) (e : Tm) : exec cn cf (.ext i e) ro fr I = (match fr[i]? with
    | some (.lst xs) => (ev cn cf e ro fr I).stm fr (kExt i xs fr)
    | _ => .bad) := id rfl
@[simp] theorem kExt_ok (i : Nat) (xs ys : List D) (k : Kd) : kExt i xs fr (.lst ys, k) I = bif decide (xs.length + ys.length ≤ lim) then .nx (fr.set i (.lst (xs ++ ys))) I else .bad := id rfl
def kNx {α : Type} (fr : Fr) (_ : α) (I : Is) : Xr := .nx fr I
@[simp high] theorem ex_expr' (e : Tm) : exec cn cf (.expr e) ro fr I = (ev cn cf e ro fr I).stm fr (kNx fr) := id rfl
@[simp] theorem kNx_ok (a : α) : kNx fr a I = .nx fr I := id rfl
def kIf (cn : Str → Option D) (cf : Str → Bool → List D → Is → R Sl) (a b : Sm) (ro : Bool) (fr : Fr) (t : Bool) (I : Is) : Xr := bif t then exec cn cf a ro fr I else exec cn cf b ro fr I
@[simp high] theorem ex_iff' (c : Tm) (a b : Sm) : exec cn cf (.iff c a b) ro fr I = ((ev cn cf c ro fr I).tst kC).stm fr (kIf cn cf a b ro fr) := id rfl
@[simp] theorem kIf_t (a b : Sm) : kIf cn cf a b ro fr true I = exec cn cf a ro fr I := id rfl
@[simp] theorem kIf_f (a b : Sm) : kIf cn cf a b ro fr false I = exec cn cf b ro fr I := id rfl
theorem kIf_b (a b : Sm) (t : Bool) : kIf cn cf a b ro fr t I = bif t then exec cn cf a ro fr I else exec cn cf b ro fr I := id rfl
def kRt (p : D × Kd) (I : Is) : Xr := match stoK true p with
    | some s => .rt s I
    | none => .bad
@[simp high] theorem ex_ret' (e : Tm) : exec cn cf (.ret e) ro fr I = (ev cn cf e ro fr I).stm fr kRt := id rfl
@[simp] theorem kRt_fro (d : D) : kRt (d, .fro) I = .rt (.val d) I := id rfl
@[simp] theorem kRt_lst (xs : List D) : kRt (.lst xs, .new) I = .rt (.lst xs) I := id rfl
@[simp] theorem cond_and (t u : Bool) : (bif t then R.ok (D.bl u, Kd.fro) I else R.ok (D.bl false, Kd.fro) I) = .ok (.bl (t && u), .fro) I := by cases t <;> rfl
@[simp] theorem cond_or (t u : Bool) : (bif t then R.ok (D.bl true, Kd.fro) I else R.ok (D.bl u, Kd.fro) I) = .ok (.bl (t || u), .fro) I := by cases t <;> rfl
def kOut (s : Sl) (I : Is) : R (D × Kd) := match s.out with
    | some p => .ok p I
    | none => .bad
@[simp] theorem kOut_val (d : D) : kOut (.val d) I = .ok (d, .fro) I := id rfl
@[simp] theorem kOut_lst (xs : List D) : kOut (.lst xs) I = .ok (.lst xs, .new) I := id rfl
@[simp] theorem kOut_dK (ks : List Ky) (vs : List D) : kOut (.dK ks vs) I = .ok (.dK ks vs, .new) I := id rfl
@[simp] theorem kOut_dT (ks : List (List Ky)) (vs : List D) : kOut (.dT ks vs) I = .ok (.dT ks vs, .new) I := id rfl
/-- a loop's turn -/
def loopB (cn : Str → Option D) (cf : Str → Bool → List D → Is → R Sl) (body : Sm) (ro : Bool) (fr : Fr) (I : Is) : Xr := exec cn cf body ro fr I
def forR (cn : Str → Option D) (cf : Str → Bool → List D → Is → R Sl) (body : Sm) (ro : Bool) (tg : Tg) (fr : Fr) (p : List D × Kd) (I : Is) : Xr := bif decide (p.2 = .own) then .bad else forL (fun fr I => exec cn cf body (ro || isInst p.2) fr I) tg p.1 fr I
@[simp high] theorem ex_for' (tg : Tg) (it : Tm) (body : Sm) : exec cn cf (.for tg it body) ro fr I = (evI cn cf it ro fr I).stm fr (forR cn cf body ro tg fr) := id rfl
@[simp] theorem forR_fro (tg : Tg) (body : Sm) (xs : List D) : forR cn cf body ro tg fr (xs, .fro) I = forL (loopB cn cf body ro) tg xs fr I := by
  show forL (fun fr I => exec cn cf body (ro || false) fr I) tg xs fr I = _
  rw [Bool.or_false]; rfl
@[simp] theorem forR_new (tg : Tg) (body : Sm) (xs : List D) : forR cn cf body ro tg fr (xs, .new) I = forL (loopB cn cf body ro) tg xs fr I := by
  show forL (fun fr I => exec cn cf body (ro || false) fr I) tg xs fr I = _
  rw [Bool.or_false]; rfl
@[simp] theorem forR_inst (tg : Tg) (body : Sm) (xs : List D) : forR cn cf body ro tg fr (xs, .inst) I = forL (loopB cn cf body true) tg xs fr I := by
  show forL (fun fr I => exec cn cf body (ro || true) fr I) tg xs fr I = _
  rw [Bool.or_true]; rfl
theorem loop_def (body : Sm) : loopB cn cf body ro fr I = exec cn cf body ro fr I := id rfl
theorem loop_all {B : Fr → Is → Xr} {tg : Tg} (P : Fr → Prop) {xs : List D} (h : ∀ x ∈ xs, ∀ fr, P fr → ∃ fr1 fr2, asgT tg x fr = some fr1 ∧ (B fr1 I = .nx fr2 I ∨ B fr1 I = .ct fr2 I) ∧ P fr2) : ∀ {fr : Fr}, P fr → ∃ fr', forL B tg xs fr I = .nx fr' I ∧ P fr' := by
  intro fr hp
  obtain ⟨fr', h1, h2⟩ := forL_ex (body := B) (tg := tg) (I := I) (fun _ fr => P fr) xs 0 fr hp fun i x fr hx hp => h x (List.mem_of_getElem? hx) fr hp
  exact ⟨fr', h1, h2⟩
/-- a call with things that stand still -/
theorem callD_frz {x : Str} {ps : List (D × Kd)} {ds : List D} (e : frzAll ps = some ds) : callD cf x ro ps I = (bif ro then (cf x true ds I).reset I else cf x false ds I).bind kOut := by
  simp only [callD, e] <;> rfl
@[simp] theorem out_val (d : D) : (Sl.val d).out = some (d, .fro) := id rfl
@[simp] theorem out_lst (xs : List D) : (Sl.lst xs).out = some (.lst xs, .new) := id rfl
@[simp] theorem stoK_fro' (b : Bool) (d : D) : stoK b (d, .fro) = some (.val d) := id rfl
mutual
theorem pyeq_self : ∀ d : D, d.eqc = true → PyData.eqv d.py d.py = true
  | .non, _ => rfl
  | .bl b, _ => by cases b <;> rfl
  | .int i, _ => by simp [D.py, PyData.eqv]
  | .str z, _ => by simp [D.py, PyData.eqv]
  | .tup xs, h => by simpa [D.py, PyData.eqv] using pyeqs_self xs (by simpa [D.eqc] using h)
  | .lst xs, h => by simpa [D.py, PyData.eqv] using pyeqs_self xs (by simpa [D.eqc] using h)
  | .scr ns, _ => by
    have : ∀ ns : List Int, PyData.eqvAll (ns.map PyData.int) (ns.map PyData.int) = true := fun ns => by
      induction ns with
      | nil => rfl
      | cons n ns ih => simp [PyData.eqvAll, PyData.eqv, ih]
    simpa [D.py, PyData.eqv] using this ns
theorem pyeqs_self : ∀ ds : List D, D.eqcs ds = true → PyData.eqvAll (D.pys ds) (D.pys ds) = true
  | [], _ => rfl
  | d :: ds, h => by
    have h : (D.eqc d && D.eqcs ds) = true := h
    rw [Bool.and_eq_true] at h
    simp [D.pys, PyData.eqvAll, pyeq_self d h.1, pyeqs_self ds h.2]
end
theorem cmp_eq_self {d : D} (h : d.eqc = true) (h2 : d.dep ≤ 64) : cmpD .eq d d I = .ok (.bl true, .fro) I := by
  show (bif D.eqc d && D.eqc d && decide (min d.dep d.dep ≤ 64) then b2 (D.pyeq d d) I else .bad) = _
  rw [h, Nat.min_self, decide_eq_true h2]
  show b2 (D.pyeq d d) I = _
  unfold D.pyeq
  rw [pyeq_self d h]; rfl
theorem cmp_ne_self {d : D} (h : d.eqc = true) (h2 : d.dep ≤ 64) : cmpD .ne d d I = .ok (.bl false, .fro) I := by
  show (bif D.eqc d && D.eqc d && decide (min d.dep d.dep ≤ 64) then b2 (!D.pyeq d d) I else .bad) = _
  rw [h, Nat.min_self, decide_eq_true h2]
  show b2 (!D.pyeq d d) I = _
  unfold D.pyeq
  rw [pyeq_self d h]; rfl
@[simp] theorem for_nil {body : Fr → Is → Xr} {tg : Tg} : forL body tg [] fr I = .nx fr I := id rfl
/-- a def's body -/
theorem call_body {Γ : Gm} {x : Str} {fd : Fd} (h : Γ.fn x = some fd) {as : List D} (n : Nat) (ro : Bool) (I : Is) : callN Γ (n + 1) x ro as I = (match fillD fd as with
    | some vs => runB (exec Γ.cn (callN Γ n) fd.body ro (vs.map Sl.val ++ List.replicate (fd.nl - fd.np) .no) I)
    | none => .bad) := by
  simp only [callN, h] <;> rfl
theorem body_def {Γ : Gm} {fd : Fd} {n : Nat} {vs : List D} : bodyN Γ n fd ro vs I = runB (exec Γ.cn (callN Γ n) fd.body ro (vs.map Sl.val ++ List.replicate (fd.nl - fd.np) .no) I) := id rfl
@[simp] theorem dep_non : D.dep .non = 1 := id rfl
@[simp] theorem dep_bl (b : Bool) : D.dep (.bl b) = 1 := id rfl
@[simp] theorem dep_int (i : Int) : D.dep (.int i) = 1 := id rfl
@[simp] theorem dep_str (z : Str) : D.dep (.str z) = 1 := id rfl
@[simp] theorem dep_tup (xs : List D) : D.dep (.tup xs) = D.deps xs + 1 := by simp [D.dep]
@[simp] theorem dep_lst (xs : List D) : D.dep (.lst xs) = D.deps xs + 1 := by simp [D.dep]
@[simp] theorem deps_nil : D.deps [] = 0 := by simp [D.deps]
@[simp] theorem deps_cons (x : D) (xs : List D) : D.deps (x :: xs) = max (D.dep x) (D.deps xs) := by simp [D.deps]
@[simp] theorem eqc_non : D.eqc .non = true := id rfl
@[simp] theorem eqc_bl (b : Bool) : D.eqc (.bl b) = true := id rfl
@[simp] theorem eqc_int (i : Int) : D.eqc (.int i) = true := id rfl
@[simp] theorem eqc_str (z : Str) : D.eqc (.str z) = true := id rfl
@[simp] theorem eqc_tup (xs : List D) : D.eqc (.tup xs) = D.eqcs xs := by simp [D.eqc]
@[simp] theorem eqc_lst (xs : List D) : D.eqc (.lst xs) = D.eqcs xs := by simp [D.eqc]
@[simp] theorem eqcs_nil : D.eqcs [] = true := by simp [D.eqcs]
@[simp] theorem eqcs_cons (x : D) (xs : List D) : D.eqcs (x :: xs) = (D.eqc x && D.eqcs xs) := by simp [D.eqcs]
@[simp] theorem ne_int (a b : Int) : cmpD .ne (.int a) (.int b) I = .ok (.bl (!decide (a = b)), .fro) I := by
  show b2 (!D.pyeq (.int a) (.int b)) I = _
  simp [D.pyeq, D.py, PyData.eqv, b2, BEq.beq]
@[simp] theorem eq_int (a b : Int) : cmpD .eq (.int a) (.int b) I = .ok (.bl (decide (a = b)), .fro) I := by
  show b2 (D.pyeq (.int a) (.int b)) I = _
  simp [D.pyeq, D.py, PyData.eqv, b2, BEq.beq]
@[simp] theorem lt_int (a b : Int) : cmpD .lt (.int a) (.int b) I = .ok (.bl (decide (a < b)), .fro) I := id rfl
@[simp] theorem cle_int (a b : Int) : cmpD .le (.int a) (.int b) I = .ok (.bl (decide (a ≤ b)), .fro) I := id rfl
@[simp] theorem gt_int (a b : Int) : cmpD .gt (.int a) (.int b) I = .ok (.bl (decide (b < a)), .fro) I := id rfl
@[simp] theorem ge_int (a b : Int) : cmpD .ge (.int a) (.int b) I = .ok (.bl (decide (b ≤ a)), .fro) I := id rfl
@[simp] theorem add_int (a b : Int) : binD .add (.int a) (.int b) I = .ok (.int (a + b), .fro) I := id rfl
@[simp] theorem sub_int (a b : Int) : binD .sub (.int a) (.int b) I = .ok (.int (a - b), .fro) I := id rfl
@[simp] theorem b2_eq (b : Bool) : b2 b I = .ok (.bl b, .fro) I := id rfl
theorem mulL_int {a : Int} (b : Int) (h : small a = true) : binD .mul (.int a) (.int b) I = .ok (.int (a * b), .fro) I := by
  show (bif small a || small b then _ else _) = _
  rw [h]; rfl
theorem mulR_int (a : Int) {b : Int} (h : small b = true) : binD .mul (.int a) (.int b) I = .ok (.int (a * b), .fro) I := by
  show (bif small a || small b then _ else _) = _
  rw [h, Bool.or_true]; rfl
theorem md_pos {a b : Int} (h : 0 < b) : binD .md (.int a) (.int b) I = .ok (.int (a % b), .fro) I := by
  show (bif decide (0 < b) then _ else _) = _
  rw [decide_eq_true h]; rfl
theorem fdiv_pos {a b : Int} (h : 0 < b) (h2 : small b = true) : binD .fdiv (.int a) (.int b) I = .ok (.int (a / b), .fro) I := by
  show (bif decide (0 < b) && small b then _ else _) = _
  rw [decide_eq_true h, h2]; rfl
end
end Air
/-! Air: plain laws (7): instances. -/
namespace Air
open PySem L2
section
variable {α β : Type} {fr fr' : Fr} {I : Is} {cn : Str → Option D} {cf : Str → Bool → List D → Is → R Sl} {ro : Bool}
def kFld (x : Str) (p : D × Kd) (I : Is) : R (D × Kd) := match p.1 with
    | .ins k => (match fldD I k x with
      | some s => (match s.rd with
        | some q => .ok q I
        | none => .bad)
      | none => .bad)
    | _ => .bad
@[simp high] theorem ev_fld' (a : Tm) (x : Str) : ev cn cf (.fld a x) ro fr I = (ev cn cf a ro fr I).bind (kFld x) := id rfl
theorem kFld_ins {x : Str} {k : Nat} {kd : Kd} {s : Sl} {q : D × Kd} (h : fldD I k x = some s) (h2 : s.rd = some q) : kFld x (.ins k, kd) I = .ok q I := by
  show (match fldD I k x with
      | some s => (match s.rd with
        | some q => R.ok q I
        | none => .bad)
      | none => .bad) = _
  rw [h]
  show (match s.rd with
        | some q => R.ok q I
        | none => .bad) = _
  rw [h2]
def kMeth2 (cf : Str → Bool → List D → Is → R Sl) (x : Str) (ro : Bool) (k : Nat) (ps : List (D × Kd)) (I : Is) : R (D × Kd) := callD cf x ro ((.ins k, .fro) :: ps) I
def kMeth (cn : Str → Option D) (cf : Str → Bool → List D → Is → R Sl) (m x : Str) (es : Tm) (ro : Bool) (fr : Fr) (p : D × Kd) (I : Is) : R (D × Kd) := match p.1 with
    | .ins k => bif noFld I k m then (evK cn cf es ro fr I).bind (kMeth2 cf x ro k) else .bad
    | _ => .bad
@[simp high] theorem ev_meth' (a : Tm) (m x : Str) (es : Tm) : ev cn cf (.meth a m x es) ro fr I = (ev cn cf a ro fr I).bind (kMeth cn cf m x es ro fr) := id rfl
theorem kMeth_ins {m x : Str} {es : Tm} {k : Nat} {kd : Kd} (h : noFld I k m = true) : kMeth cn cf m x es ro fr (.ins k, kd) I = (evK cn cf es ro fr I).bind (kMeth2 cf x ro k) := by
  show (bif noFld I k m then _ else _) = _
  rw [h]; rfl
@[simp] theorem kMeth2_ok {x : Str} {k : Nat} {ps : List (D × Kd)} : kMeth2 cf x ro k ps I = callD cf x ro ((.ins k, .fro) :: ps) I := id rfl
def kPm (cf : Str → Bool → List D → Is → R Sl) (x : Str) (ro : Bool) (pm : List (Sum Nat Cs)) (ps : List (D × Kd)) (I : Is) : R (D × Kd) := match pmD pm ps with
    | some qs => callD cf x ro qs I
    | none => .bad
@[simp high] theorem ev_callK' (x : Str) (n : Nat) (ks : List Str) (pm : List (Sum Nat Cs)) (es : Tm) : ev cn cf (.callK x n ks pm es) ro fr I = (evK cn cf es ro fr I).bind (kPm cf x ro pm) := id rfl
theorem kPm_ok {x : Str} {pm : List (Sum Nat Cs)} {ps qs : List (D × Kd)} (h : pmD pm ps = some qs) : kPm cf x ro pm ps I = callD cf x ro qs I := by
  show (match pmD pm ps with
    | some qs => callD cf x ro qs I
    | none => .bad) = _
  rw [h]
def kPm2 (cf : Str → Bool → List D → Is → R Sl) (x : Str) (ro : Bool) (pm : List (Sum Nat Cs)) (k : Nat) (ps : List (D × Kd)) (I : Is) : R (D × Kd) := kPm cf x ro pm ((.ins k, .fro) :: ps) I
@[simp] theorem kPm2_ok {x : Str} {pm : List (Sum Nat Cs)} {k : Nat} {ps : List (D × Kd)} : kPm2 cf x ro pm k ps I = kPm cf x ro pm ((.ins k, .fro) :: ps) I := id rfl
def kMethK (cn : Str → Option D) (cf : Str → Bool → List D → Is → R Sl) (m x : Str) (pm : List (Sum Nat Cs)) (es : Tm) (ro : Bool) (fr : Fr) (p : D × Kd) (I : Is) : R (D × Kd) := match p.1 with
    | .ins k => bif noFld I k m then (evK cn cf es ro fr I).bind (kPm2 cf x ro pm k) else .bad
    | _ => .bad
@[simp high] theorem ev_methK' (a : Tm) (m x : Str) (n : Nat) (ks : List Str) (pm : List (Sum Nat Cs)) (es : Tm) : ev cn cf (.methK a m x n ks pm es) ro fr I = (ev cn cf a ro fr I).bind (kMethK cn cf m x pm es ro fr) := id rfl
theorem kMethK_ins {m x : Str} {pm : List (Sum Nat Cs)} {es : Tm} {k : Nat} {kd : Kd} (h : noFld I k m = true) : kMethK cn cf m x pm es ro fr (.ins k, kd) I = (evK cn cf es ro fr I).bind (kPm2 cf x ro pm k) := by
  show (bif noFld I k m then _ else _) = _
  rw [h]; rfl
@[simp] theorem pmD_nil (ps : List (D × Kd)) : pmD [] ps = some [] := id rfl
@[simp] theorem pmD_inl (j : Nat) (r : List (Sum Nat Cs)) (ps : List (D × Kd)) : pmD (.inl j :: r) ps = (match ps[j]?, pmD r ps with
    | some p, some qs => some (p :: qs)
    | _, _ => none) := id rfl
@[simp] theorem pmD_inr (c : Cs) (r : List (Sum Nat Cs)) (ps : List (D × Kd)) : pmD (.inr c :: r) ps = (pmD r ps).map ((c.d, Kd.fro) :: ·) := id rfl
@[simp] theorem ev_dnew (t : Bool) : ev cn cf (.dnew t) ro fr I = .ok (bif t then .dT [] [] else .dK [] [], .new) I := id rfl
def kNew (n : Nat) (s : Sl) (I : Is) : R (D × Kd) := match s with
    | .val .non => .ok (.ins n, .fro) I
    | _ => .bad
@[simp high] theorem ev_new' : ev cn cf .new false fr I = ((cf "House.__init__" false [.ins I.length] (I ++ [[]])).quiet).bind (kNew I.length) := id rfl
@[simp] theorem kNew_ok (n : Nat) : kNew n (.val .non) I = .ok (.ins n, .fro) I := id rfl
def kFset (i : Nat) (x : Str) (fr : Fr) (p : D × Kd) (I : Is) : Xr := match stoK true p, fr[i]? with
    | some s, some (.val (.ins k)) => (match setFld I k x s with
      | some I' => .nx fr I'
      | none => .bad)
    | _, _ => .bad
@[simp high] theorem ex_fset' (i : Nat) (x : Str) (e : Tm) : exec cn cf (.fset i x e) false fr I = (ev cn cf e false fr I).stm fr (kFset i x fr) := id rfl
theorem kFset_ok {i k : Nat} {x : Str} {p : D × Kd} {s : Sl} {I' : Is} (h1 : stoK true p = some s) (h2 : fr[i]? = some (.val (.ins k))) (h3 : setFld I k x s = some I') : kFset i x fr p I = .nx fr I' := by
  unfold kFset
  rw [h1, h2]
  simp only [h3]
def kFapp2 (k : Nat) (x : Str) (xs : List D) (fr : Fr) (p : D × Kd) (I : Is) : Xr := match frzK p with
    | some d => bif decide (xs.length < lim) then (match setFld I k x (.lst (xs ++ [d])) with
      | some I' => .nx fr I'
      | none => .bad) else .bad
    | none => .bad
theorem ex_fapp' {i k : Nat} {x : Str} {e : Tm} {xs : List D} (h1 : fr[i]? = some (.val (.ins k))) (h2 : fldD I k x = some (.lst xs)) : exec cn cf (.fapp i x e) false fr I = (ev cn cf e true fr I).stm fr (kFapp2 k x xs fr) := by
  simp only [exec, h1, h2, cond_false] <;> rfl
theorem kFapp2_ok {k : Nat} {x : Str} {xs : List D} {p : D × Kd} {d : D} {I' : Is} (h1 : frzK p = some d) (h2 : xs.length < lim) (h3 : setFld I k x (.lst (xs ++ [d])) = some I') : kFapp2 k x xs fr p I = .nx fr I' := by
  unfold kFapp2
  rw [h1, decide_eq_true h2]
  simp only [h3, cond_true]
def kFput2 (n : Nat) (x : Str) (c : Sl) (d : D) (fr : Fr) (q : D × Kd) (I : Is) : Xr := match putS c q d with
    | some c' => (match setFld I n x c' with
      | some I' => .nx fr I'
      | none => .bad)
    | none => .bad
def kFput (cn : Str → Option D) (cf : Str → Bool → List D → Is → R Sl) (i : Nat) (x : Str) (k : Tm) (fr : Fr) (p : D × Kd) (I : Is) : Xr := match frzK p, fr[i]? with
    | some d, some (.val (.ins n)) => (match fldD I n x with
      | some c => (ev cn cf k true fr I).stm fr (kFput2 n x c d fr)
      | none => .bad)
    | _, _ => .bad
@[simp high] theorem ex_fput' (i : Nat) (x : Str) (k v : Tm) : exec cn cf (.fput i x k v) false fr I = (ev cn cf v false fr I).stm fr (kFput cn cf i x k fr) := id rfl
theorem kFput_ok {i n : Nat} {x : Str} {k : Tm} {p : D × Kd} {d : D} {c : Sl} (h1 : frzK p = some d) (h2 : fr[i]? = some (.val (.ins n))) (h3 : fldD I n x = some c) : kFput cn cf i x k fr p I = (ev cn cf k true fr I).stm fr (kFput2 n x c d fr) := by
  unfold kFput
  rw [h1, h2]
  simp only [h3]
theorem kFput2_ok {n : Nat} {x : Str} {c c' : Sl} {d : D} {q : D × Kd} {I' : Is} (h1 : putS c q d = some c') (h2 : setFld I n x c' = some I') : kFput2 n x c d fr q I = .nx fr I' := by
  unfold kFput2
  rw [h1]
  simp only [h2]
def kPut2 (i : Nat) (c : Sl) (d : D) (fr : Fr) (q : D × Kd) (I : Is) : Xr := match putS c q d with
    | some c' => .nx (fr.set i c') I
    | none => .bad
def kPut (cn : Str → Option D) (cf : Str → Bool → List D → Is → R Sl) (i : Nat) (k : Tm) (ro : Bool) (fr : Fr) (p : D × Kd) (I : Is) : Xr := match frzK p, fr[i]? with
    | some d, some c => bif conS c then (ev cn cf k ro fr I).stm fr (kPut2 i c d fr) else .bad
    | _, _ => .bad
@[simp high] theorem ex_put' (i : Nat) (k v : Tm) : exec cn cf (.put i k v) ro fr I = (ev cn cf v ro fr I).stm fr (kPut cn cf i k ro fr) := id rfl
theorem kPut_ok {i : Nat} {k : Tm} {p : D × Kd} {d : D} {c : Sl} (h1 : frzK p = some d) (h2 : fr[i]? = some c) (h3 : conS c = true) : kPut cn cf i k ro fr p I = (ev cn cf k ro fr I).stm fr (kPut2 i c d fr) := by
  unfold kPut
  rw [h1, h2]
  simp only [h3, cond_true]
theorem kPut2_ok {i : Nat} {c c' : Sl} {d : D} {q : D × Kd} (h1 : putS c q d = some c') : kPut2 i c d fr q I = .nx (fr.set i c') I := by
  unfold kPut2
  rw [h1]
theorem loop_st {B : Fr → Is → Xr} {tg : Tg} (P : Nat → Fr → Is → Prop) : ∀ (xs : List D) (j : Nat) (fr : Fr) (I : Is), P j fr I → (∀ i x fr I, xs[i]? = some x → P (j + i) fr I → ∃ fr1 fr2 I2, asgT tg x fr = some fr1 ∧ (B fr1 I = .nx fr2 I2 ∨ B fr1 I = .ct fr2 I2) ∧ P (j + i + 1) fr2 I2) → ∃ fr' I', forL B tg xs fr I = .nx fr' I' ∧ P (j + xs.length) fr' I'
  | [], j, fr, I, h, _ => ⟨fr, I, rfl, h⟩
  | x :: xs, j, fr, I, h, hs => by
    obtain ⟨fr1, fr2, I2, h1, h2, h3⟩ := hs 0 x fr I rfl h
    obtain ⟨fr', I', h4, h5⟩ := loop_st P xs (j + 1) fr2 I2 (by simpa using h3) fun i y fr I hy hp => by
      obtain ⟨g1, g2, g3, k1, k2, k3⟩ := hs (i + 1) y fr I (by simpa using hy) (by rw [show j + (i + 1) = j + 1 + i by omega]; exact hp)
      exact ⟨g1, g2, g3, k1, k2, by rw [show j + 1 + i + 1 = j + (i + 1) + 1 by omega]; exact k3⟩
    refine ⟨fr', I', ?_, by rw [List.length_cons, show j + (xs.length + 1) = j + 1 + xs.length by omega]; exact h5⟩
    simp only [forL, h1]
    rcases h2 with h2 | h2 <;> simp only [h2, h4]
end
/-! ### a house -/
structure HS where
  ranks : List D
  sk : List Ky
  sv : List D
  kk : List Ky
  kv : List D
  weeks : List D
  pk : List (List Ky)
  pv : List D
  ck : List (List Ky)
  cv : List D
  many : Int
  done : List D
def HS.ob (h : HS) : Ob := [("ranks", .lst h.ranks), ("seats", .dK h.sk h.sv), ("known", .dK h.kk h.kv), ("weeks", .lst h.weeks), ("plans", .dT h.pk h.pv), ("cuts", .dT h.ck h.cv), ("many", .val (.int h.many)), ("done", .lst h.done)]
def HS.new : HS := ⟨[], [], [], [], [], [], [], [], [], [], 0, []⟩
section
variable {I : Is} {k : Nat} {h : HS}
theorem fld_at {ob : Ob} {x : Str} {s : Sl} (hI : I[k]? = some ob) (e : ob.lookup x = some s) : fldD I k x = some s := by
  unfold fldD; rw [hI]; exact e
theorem no_at {ob : Ob} {x : Str} (hI : I[k]? = some ob) (e : ob.lookup x = none) : noFld I k x = true := by
  unfold noFld; rw [hI]; simp only [e]; rfl
theorem set_at {ob : Ob} {x : Str} {s : Sl} (hI : I[k]? = some ob) (e : ob.length < 100) : setFld I k x s = some (I.set k (putOb x s ob)) := by
  unfold setFld; rw [hI]; simp only [decide_eq_true e, cond_true]
theorem f_ranks (hI : I[k]? = some h.ob) : fldD I k "ranks" = some (.lst h.ranks) := fld_at hI rfl
theorem f_seats (hI : I[k]? = some h.ob) : fldD I k "seats" = some (.dK h.sk h.sv) := fld_at hI rfl
theorem f_known (hI : I[k]? = some h.ob) : fldD I k "known" = some (.dK h.kk h.kv) := fld_at hI rfl
theorem f_weeks (hI : I[k]? = some h.ob) : fldD I k "weeks" = some (.lst h.weeks) := fld_at hI rfl
theorem f_plans (hI : I[k]? = some h.ob) : fldD I k "plans" = some (.dT h.pk h.pv) := fld_at hI rfl
theorem f_cuts (hI : I[k]? = some h.ob) : fldD I k "cuts" = some (.dT h.ck h.cv) := fld_at hI rfl
theorem f_many (hI : I[k]? = some h.ob) : fldD I k "many" = some (.val (.int h.many)) := fld_at hI rfl
theorem f_done (hI : I[k]? = some h.ob) : fldD I k "done" = some (.lst h.done) := fld_at hI rfl
theorem w_many (hI : I[k]? = some h.ob) (v : Int) : setFld I k "many" (.val (.int v)) = some (I.set k { h with many := v }.ob) := set_at hI (by show 8 < 100; decide)
theorem w_done (hI : I[k]? = some h.ob) (v : List D) : setFld I k "done" (.lst v) = some (I.set k { h with done := v }.ob) := set_at hI (by show 8 < 100; decide)
theorem w_ranks (hI : I[k]? = some h.ob) (v : List D) : setFld I k "ranks" (.lst v) = some (I.set k { h with ranks := v }.ob) := set_at hI (by show 8 < 100; decide)
theorem w_weeks (hI : I[k]? = some h.ob) (v : List D) : setFld I k "weeks" (.lst v) = some (I.set k { h with weeks := v }.ob) := set_at hI (by show 8 < 100; decide)
theorem w_seats (hI : I[k]? = some h.ob) (ks : List Ky) (v : List D) : setFld I k "seats" (.dK ks v) = some (I.set k { h with sk := ks, sv := v }.ob) := set_at hI (by show 8 < 100; decide)
theorem w_known (hI : I[k]? = some h.ob) (ks : List Ky) (v : List D) : setFld I k "known" (.dK ks v) = some (I.set k { h with kk := ks, kv := v }.ob) := set_at hI (by show 8 < 100; decide)
theorem w_plans (hI : I[k]? = some h.ob) (ks : List (List Ky)) (v : List D) : setFld I k "plans" (.dT ks v) = some (I.set k { h with pk := ks, pv := v }.ob) := set_at hI (by show 8 < 100; decide)
theorem w_cuts (hI : I[k]? = some h.ob) (ks : List (List Ky)) (v : List D) : setFld I k "cuts" (.dT ks v) = some (I.set k { h with ck := ks, cv := v }.ob) := set_at hI (by show 8 < 100; decide)
theorem get_set {ob ob' : Ob} (hI : I[k]? = some ob) : (I.set k ob')[k]? = some ob' := List.getElem?_set_self (List.getElem?_eq_some_iff.mp hI).1
end
end Air
/-! Air: plain laws (8): days, hours, a new house, the hour that comes next. -/
namespace Air
open PySem L2
def dayS : Sm := (.cons (.ret (.call "is_number" (.cons (.loc 0) (.cons (.cns (.int 0)) (.cons (.bin .sub (.gk "DAYS") (.cns (.int 1))) .nil)))))
      .nil)
def lookDayS : Sm := (.cons (.iff (.not (.call "is_day" (.cons (.loc 0) .nil))) (.cons (.rais "NoDay")
      .nil) .nil)
      .nil)
def lookHourS : Sm := (.cons (.iff (.not (.call "is_number" (.cons (.loc 0) (.cons (.cns (.int 0)) (.cons (.bin .sub (.gk "HOURS") (.cns (.int 1))) .nil))))) (.cons (.rais "NoHour")
      .nil) .nil)
      .nil)
def initS : Sm := (.cons (.fset 0 "ranks" (.lst .nil))
      (.cons (.fset 0 "seats" (.dnew false))
      (.cons (.fset 0 "known" (.dnew false))
      (.cons (.fset 0 "weeks" (.lst .nil))
      (.cons (.fset 0 "plans" (.dnew true))
      (.cons (.fset 0 "cuts" (.dnew true))
      (.cons (.fset 0 "many" (.cns (.int 0)))
      (.cons (.fset 0 "done" (.lst .nil))
      .nil))))))))
def tickS : Sm := (.cons (.iff (.not (.call "is_number" (.cons (.loc 1) (.cons (.cns (.int 1)) (.cons (.gk "HOURS") .nil))))) (.cons (.rais "NoMore")
      .nil) .nil)
      (.cons (.iff (.cmp .ge (.bin .add (.fld (.loc 0) "many") (.loc 1)) (.bin .mul (.gk "DAYS") (.gk "HOURS"))) (.cons (.rais "NoDay")
      .nil) .nil)
      (.cons (.fset 0 "many" (.bin .add (.fld (.loc 0) "many") (.loc 1)))
      (.cons (.fapp 0 "done" (.tup (.cons (.cns (.str "tick")) (.cons (.loc 1) .nil))))
      (.cons (.ret (.meth (.loc 0) "now" "House.now" .nil))
      .nil)))))
def nowS : Sm := (.cons (.ret (.blt .divmod (.cons (.fld (.loc 0) "many") (.cons (.gk "HOURS") .nil))))
      .nil)
def goneS : Sm := (.cons (.expr (.call "look_day" (.cons (.loc 1) .nil)))
      (.cons (.expr (.call "look_hour" (.cons (.loc 2) .nil)))
      (.cons (.ret (.cmp .lt (.bin .add (.bin .mul (.loc 1) (.gk "HOURS")) (.loc 2)) (.fld (.loc 0) "many")))
      .nil)))
structure NumM (Γ : Gm) : Prop where
  num : Γ.fn "is_number" = some ⟨3, 3, [], numS⟩
  cH : Γ.cn "HOURS" = some (.int 24)
structure DayM (Γ : Gm) : Prop extends NumM Γ where
  day : Γ.fn "is_day" = some ⟨1, 1, [], dayS⟩
  look : Γ.fn "look_day" = some ⟨1, 1, [], lookDayS⟩
  cD : Γ.cn "DAYS" = some (.int 100)
structure HourM (Γ : Gm) : Prop extends NumM Γ where
  lookH : Γ.fn "look_hour" = some ⟨1, 1, [], lookHourS⟩
structure TickM (Γ : Gm) : Prop extends NumM Γ where
  tick : Γ.fn "House.tick" = some ⟨2, 2, [.int 1], tickS⟩
  now : Γ.fn "House.now" = some ⟨1, 1, [], nowS⟩
  cD : Γ.cn "DAYS" = some (.int 100)
section
variable {Γ : Gm}
theorem day_run (m : DayM Γ) {d : D} (hd : d.pl = true) (n : Nat) (ro : Bool) (I : Is) : callN Γ (n + 2) "is_day" ro [d] I = .ok (.val (.bl (numB d 0 99))) I := by
  rw [call_body m.day]
  have q := fun ro => num_run (n := n) (I := I) m.num hd 0 99 ro
  cases ro <;> simp [dayS, fillD, ev_gk m.cD, binD, callD_frz, q]
theorem look_day_run (m : DayM Γ) {d : D} (hd : d.pl = true) (n : Nat) (ro : Bool) (I : Is) : callN Γ (n + 3) "look_day" ro [d] I = bif numB d 0 99 then .ok (.val .non) I else .exc ⟨"NoDay", []⟩ I := by
  rw [call_body m.look]
  have q := fun ro => day_run (n := n) (I := I) m hd ro
  cases ro <;> cases e : numB d 0 99 <;> simp [lookDayS, fillD, callD_frz, q, e, b2]
theorem look_hour_run (m : HourM Γ) {d : D} (hd : d.pl = true) (n : Nat) (ro : Bool) (I : Is) : callN Γ (n + 2) "look_hour" ro [d] I = bif numB d 0 23 then .ok (.val .non) I else .exc ⟨"NoHour", []⟩ I := by
  rw [call_body m.lookH]
  have q := fun ro => num_run (n := n) (I := I) m.num hd 0 23 ro
  cases ro <;> cases e : numB d 0 23 <;> simp [lookHourS, fillD, callD_frz, q, e, b2, ev_gk m.cH, binD]
/-- a new house -/
theorem set_snoc {J : Is} {ob : Ob} {x : Str} {s : Sl} (h : ob.length < 100) : setFld (J ++ [ob]) J.length x s = some (J ++ [putOb x s ob]) := by
  unfold setFld
  rw [List.getElem?_append_right (Nat.le_refl _), Nat.sub_self]
  simp only [List.getElem?_cons_zero, decide_eq_true h, cond_true]
  rw [List.set_append_right _ _ (Nat.le_refl _), Nat.sub_self]
  rfl
theorem init_run (h : Γ.fn "House.__init__" = some ⟨1, 1, [], initS⟩) (n : Nat) (J : Is) : callN Γ (n + 1) "House.__init__" false [.ins J.length] (J ++ [[]]) = .ok (.val .non) (J ++ [HS.new.ob]) := by
  rw [call_body h]
  have st : ∀ {x : Str} {p : D × Kd} {s : Sl} {ob ob' : Ob} {fr : Fr}, stoK true p = some s → fr[0]? = some (.val (.ins J.length)) → ob.length < 100 → putOb x s ob = ob' → kFset 0 x fr p (J ++ [ob]) = .nx fr (J ++ [ob']) := fun h1 h2 h3 h4 => by
    subst h4
    exact kFset_ok h1 h2 (set_snoc h3)
  have l0 : (0 : Nat) ≤ lim := Nat.zero_le _
  simp only [initS, fillD, ex_cons, ex_fset', ev_lst, ev_dnew, evK_nil, bind_ok, ev_cns, cs_int, frzAll, List.length_nil, List.length_cons, decide_eq_true l0, cond_true, cond_false, stm_ok, List.map_cons, List.map_nil, List.cons_append, List.nil_append]
  simp
  rw [st (s := .lst []) rfl rfl (by decide) rfl, nx_bind, st (s := .dK [] []) rfl rfl (by decide) rfl, nx_bind, st (s := .dK [] []) rfl rfl (by decide) rfl, nx_bind, st (s := .lst []) rfl rfl (by decide) rfl, nx_bind, st (s := .dT [] []) rfl rfl (by decide) rfl, nx_bind, st (s := .dT [] []) rfl rfl (by decide) rfl, nx_bind, st (s := .val (.int 0)) rfl rfl (by decide) rfl, nx_bind, st (s := .lst []) rfl rfl (by decide) rfl]
  rfl
theorem now_run (h : Γ.fn "House.now" = some ⟨1, 1, [], nowS⟩) (cH : Γ.cn "HOURS" = some (.int 24)) {hs : HS} {k : Nat} {I : Is} (hI : I[k]? = some hs.ob) (n : Nat) (ro : Bool) : callN Γ (n + 1) "House.now" ro [.ins k] I = .ok (.val (.tup [.int (hs.many / 24), .int (hs.many % 24)])) I := by
  rw [call_body h]
  have f := fun kd => kFld_ins (kd := kd) (f_many hI) rfl
  simp [nowS, fillD, f, ev_gk cH, biD]
def HS.tick (hs : HS) (e : Int) : HS := { hs with many := hs.many + e, done := hs.done ++ [D.tup [.str "tick", .int e]] }
@[simp] theorem HS.tick_many (hs : HS) (e : Int) : (hs.tick e).many = hs.many + e := id rfl
def tickR (hs : HS) (k : Nat) (I : Is) (d : D) : R Sl := bif numB d 1 24 then (match d with
    | .int e => bif decide (hs.many + e ≥ 2400) then .exc ⟨"NoDay", []⟩ I else .ok (.val (.tup [.int ((hs.many + e) / 24), .int ((hs.many + e) % 24)])) (I.set k (hs.tick e).ob)
    | _ => .bad) else .exc ⟨"NoMore", []⟩ I
theorem tick_run (m : TickM Γ) {hs : HS} {k : Nat} {I : Is} (hI : I[k]? = some hs.ob) (hl : hs.done.length < 1000000) {d : D} (hd : d.pl = true) (n : Nat) : callN Γ (n + 2) "House.tick" false [.ins k, d] I = tickR hs k I d := by
  rw [call_body m.tick]
  unfold tickR
  have q := fun ro => num_run (n := n) (I := I) m.num hd 1 24 ro
  cases e : numB d 1 24 with
  | false => simp [tickS, fillD, q, e, ev_gk m.cH, callD_frz]
  | true =>
    cases d <;> first | (cases e; done) | skip
    rename_i i
    have f := fun kd => kFld_ins (kd := kd) (f_many hI) rfl
    have s24 : small 24 = true := by decide
    by_cases hlt : hs.many + i ≥ 2400
    · simp [tickS, fillD, q, e, ev_gk m.cH, ev_gk m.cD, callD_frz, f, binD, mulL_int, s24, hlt, cmpD, b2]
    · have i1 := get_set (ob' := { hs with many := hs.many + i }.ob) hI
      have i2 := get_set (ob' := (hs.tick i).ob) i1
      have w1 : ∀ (fr : Fr), fr[0]? = some (.val (.ins k)) → kFset 0 "many" fr (.int (hs.many + i), .fro) I = .nx fr (I.set k { hs with many := hs.many + i }.ob) := fun fr h0 => kFset_ok rfl h0 (w_many hI _)
      have f2 : fldD (I.set k { hs with many := hs.many + i }.ob) k "done" = some (.lst hs.done) := f_done (h := { hs with many := hs.many + i }) i1
      have w2 : ∀ (fr : Fr), kFapp2 k "done" hs.done fr (.tup [.str "tick", .int i], .fro) (I.set k { hs with many := hs.many + i }.ob) = .nx fr ((I.set k { hs with many := hs.many + i }.ob).set k (hs.tick i).ob) := fun fr => kFapp2_ok rfl (by have := le_lim (n := hs.done.length + 1) (by omega); omega) (w_done (h := { hs with many := hs.many + i }) i1 _)
      have nw := fun ro => now_run (n := n) m.now m.cH i2 ro
      have no1 : noFld ((I.set k { hs with many := hs.many + i }.ob).set k (hs.tick i).ob) k "now" = true := no_at i2 rfl
      have l2 : (2 : Nat) ≤ lim := by decide
      have nlt : ¬ 2400 ≤ hs.many + i := hlt
      rw [List.set_set] at nw no1 w2
      have fa := fun (fr : Fr) (e : Tm) (h0 : fr[0]? = some (.val (.ins k))) => ex_fapp' (cn := Γ.cn) (cf := callN Γ (n + 1)) (e := e) h0 f2
      simp [tickS, fillD, q, e, ev_gk m.cH, ev_gk m.cD, callD_frz, f, binD, mulL_int, s24, nlt, cmpD, b2, w1, fa, w2, kMeth_ins no1, nw, l2]
theorem gone_run (md : DayM Γ) (mh : HourM Γ) (h : Γ.fn "House.is_gone" = some ⟨3, 3, [], goneS⟩) {hs : HS} {k : Nat} {I : Is} (hI : I[k]? = some hs.ob) {d e : D} (hd : d.pl = true) (he : e.pl = true) (n : Nat) (ro : Bool) : callN Γ (n + 4) "House.is_gone" ro [.ins k, d, e] I =
    (match d, e with
    | .int a, .int b => bif numB (.int a) 0 99 then (bif numB (.int b) 0 23 then .ok (.val (.bl (decide (a * 24 + b < hs.many)))) I else .exc ⟨"NoHour", []⟩ I) else .exc ⟨"NoDay", []⟩ I
    | d, _ => bif numB d 0 99 then .exc ⟨"NoHour", []⟩ I else .exc ⟨"NoDay", []⟩ I) := by
  rw [call_body h]
  have q := fun ro => look_day_run (n := n) (I := I) md hd ro
  have q2 := fun ro => look_hour_run (n := n + 1) (I := I) mh he ro
  have f := fun kd => kFld_ins (kd := kd) (f_many hI) rfl
  have s24 : small 24 = true := by decide
  cases e1 : numB d 0 99
  · cases ro <;> cases d <;> cases e <;> simp [goneS, fillD, callD_frz, q, e1]
  · cases d <;> first | (cases e1; done) | skip
    cases e2 : numB e 0 23
    · cases ro <;> cases e <;> simp [goneS, fillD, callD_frz, q, q2, e1, e2]
    · cases e <;> first | (cases e2; done) | skip
      cases ro <;> simp [goneS, fillD, callD_frz, q, q2, e1, e2, ev_gk mh.cH, binD, mulL_int, s24, f, cmpD, b2]
end
end Air
/-! Air: plain laws (9): stations and shows of a house. -/
namespace Air
open PySem L2
def addS : Sm := (.cons (.iff (.not (.call "is_show" (.cons (.loc 1) .nil))) (.cons (.rais "NoShow")
      .nil) .nil)
      (.cons (.iff (.cmp .inn (.sub (.loc 1) (.cns (.int 0))) (.fld (.loc 0) "known")) (.cons (.rais "Taken")
      .nil) .nil)
      (.cons (.fput 0 "known" (.sub (.loc 1) (.cns (.int 0))) (.loc 1))
      (.cons (.fapp 0 "done" (.bin .add (.tup (.cons (.cns (.str "show")) .nil)) (.loc 1)))
      (.cons (.ret (.blt .len (.cons (.fld (.loc 0) "known") .nil)))
      .nil)))))
def showsS : Sm := (.cons (.ret (.blt .sorted (.cons (.fld (.loc 0) "known") .nil)))
      .nil)
def showHS : Sm := (.cons (.iff (.not (.call "is_name" (.cons (.loc 1) .nil))) (.cons (.rais "NoShow")
      .nil) .nil)
      (.cons (.getOr (.fld (.loc 0) "known") (.loc 1) "NoShow")
      .nil))
def openS : Sm := (.cons (.iff (.not (.call "is_name" (.cons (.loc 1) .nil))) (.cons (.rais "NoName")
      .nil) .nil)
      (.cons (.iff (.cmp .inn (.loc 1) (.fld (.loc 0) "seats")) (.cons (.rais "Taken")
      .nil) .nil)
      (.cons (.iff (.isn true (.loc 2)) (.cons (.expr (.meth (.loc 0) "look_station" "House.look_station" (.cons (.loc 2) .nil)))
      .nil) .nil)
      (.cons (.expr (.call "look_span" (.cons (.loc 3) (.cons (.loc 4) (.cons (.cns (.int 0)) (.cons (.gk "HOURS") .nil))))))
      (.cons (.iff (.or (.not (.isi (.loc 5) ["str"])) (.cmp .nin (.loc 5) (.gk "RULES"))) (.cons (.rais "NoRule")
      .nil) .nil)
      (.cons (.iff (.cmp .eq (.blt .len (.cons (.fld (.loc 0) "ranks") .nil)) (.gk "MOST_STATIONS")) (.cons (.rais "Full")
      .nil) .nil)
      (.cons (.fapp 0 "ranks" (.loc 1))
      (.cons (.fput 0 "seats" (.loc 1) (.tup (.cons (.loc 2) (.cons (.loc 3) (.cons (.loc 4) (.cons (.loc 5) .nil))))))
      (.cons (.fapp 0 "done" (.tup (.cons (.cns (.str "open")) (.cons (.loc 1) (.cons (.loc 2) (.cons (.loc 3) (.cons (.loc 4) (.cons (.loc 5) .nil))))))))
      (.cons (.ret (.blt .len (.cons (.fld (.loc 0) "ranks") .nil)))
      .nil))))))))))
def stationsS : Sm := (.cons (.ret (.blt .list (.cons (.fld (.loc 0) "ranks") .nil)))
      .nil)
def lookStationS : Sm := (.cons (.iff (.or (.not (.call "is_name" (.cons (.loc 1) .nil))) (.cmp .nin (.loc 1) (.fld (.loc 0) "seats"))) (.cons (.rais "NoStation")
      .nil) .nil)
      .nil)
def spanS : Sm := (.cons (.iff (.or (.not (.call "is_number" (.cons (.loc 0) (.cons (.loc 2) (.cons (.loc 3) .nil))))) (.or (.not (.call "is_number" (.cons (.loc 1) (.cons (.loc 2) (.cons (.loc 3) .nil))))) (.cmp .ge (.loc 0) (.loc 1)))) (.cons (.rais "NoHour")
      .nil) .nil)
      .nil)
structure NameM (Γ : Gm) : Prop where
  nam : Γ.fn "is_name" = some ⟨1, 2, [], nameS⟩
  c1 : Γ.cn "LONGEST_NAME" = some (.int 6)
  c2 : Γ.cn "LETTERS" = some (.str L26)
section
variable {Γ : Gm} {hs : HS} {k : Nat} {I : Is}
theorem span_run (m : NumM Γ) (h : Γ.fn "look_span" = some ⟨4, 4, [], spanS⟩) {a b : D} (ha : a.pl = true) (hb : b.pl = true) (lo hi : Int) (n : Nat) (ro : Bool) (I : Is) : callN Γ (n + 2) "look_span" ro [a, b, .int lo, .int hi] I =
    (match a, b with
    | .int x, .int y => bif numB (.int x) lo hi && (numB (.int y) lo hi && decide (x < y)) then .ok (.val .non) I else .exc ⟨"NoHour", []⟩ I
    | _, _ => .exc ⟨"NoHour", []⟩ I) := by
  rw [call_body h]
  have q := fun ro => num_run (n := n) (I := I) m.num ha lo hi ro
  have q2 := fun ro => num_run (n := n) (I := I) m.num hb lo hi ro
  cases e1 : numB a lo hi
  · cases ro <;> cases a <;> cases b <;> simp [spanS, fillD, callD_frz, q, e1]
  · cases a <;> first | (cases e1; done) | skip
    cases e2 : numB b lo hi
    · cases ro <;> cases b <;> simp [spanS, fillD, callD_frz, q, q2, e1, e2]
    · cases b <;> first | (cases e2; done) | skip
      rename_i x y
      by_cases hlt : x < y
      · have : ¬ y ≤ x := by omega
        cases ro <;> simp [spanS, fillD, callD_frz, q, q2, e1, e2, cmpD, b2, hlt, this]
      · have : y ≤ x := by omega
        cases ro <;> simp [spanS, fillD, callD_frz, q, q2, e1, e2, cmpD, b2, hlt, this]
/-- what a dict of texts holds -/
def hasK (ks : List Ky) (d : D) : Bool := match d with
  | .str z => ks.any fun j => decide (j = .inr z)
  | _ => false
theorem getV_isSome {κ : Type} [DecidableEq κ] (j : κ) : ∀ {ks : List κ} {vs : List D}, ks.length = vs.length → (getV ks vs j).isSome = ks.any fun i => decide (i = j)
  | [], [], _ => rfl
  | k :: ks, v :: vs, h => by
    unfold getV
    rw [List.any_cons]
    cases decide (k = j) with
    | true => rfl
    | false => exact getV_isSome j (by simpa using h)
  | [], _ :: _, h => by simp at h
  | _ :: _, [], h => by simp at h
theorem getV_mem {κ : Type} [DecidableEq κ] {j : κ} {v : D} : ∀ {ks : List κ} {vs : List D}, getV ks vs j = some v → v ∈ vs
  | [], [], h => by cases h
  | k :: ks, w :: vs, h => by
    unfold getV at h
    cases q : decide (k = j) with
    | true => rw [q] at h; cases h; exact List.mem_cons_self
    | false => rw [q] at h; exact List.mem_cons_of_mem _ (getV_mem h)
  | [], _ :: _, h => by cases h
  | _ :: _, [], h => by cases h
theorem in_dK {ks : List Ky} {vs : List D} (hl : ks.length = vs.length) (z : Str) : cmpD .inn (.str z) (.dK ks vs) I = .ok (.bl (hasK ks (.str z)), .fro) I := by
  show (match (lookD (.dK ks vs) (.str z)).map (·.isSome) with | some b => b2 b I | none => .bad) = _
  show b2 (getV ks vs (Sum.inr z)).isSome I = _
  rw [getV_isSome _ hl]; rfl
theorem nin_dK {ks : List Ky} {vs : List D} (hl : ks.length = vs.length) (z : Str) : cmpD .nin (.str z) (.dK ks vs) I = .ok (.bl (!hasK ks (.str z)), .fro) I := by
  show (match (lookD (.dK ks vs) (.str z)).map (·.isSome) with | some b => b2 (!b) I | none => .bad) = _
  show b2 (!(getV ks vs (Sum.inr z)).isSome) I = _
  rw [getV_isSome _ hl]; rfl
def stB (hs : HS) (d : D) : Bool := nameB d && hasK hs.sk d
theorem look_station_run (m : NameM Γ) (h : Γ.fn "House.look_station" = some ⟨2, 2, [], lookStationS⟩) (hI : I[k]? = some hs.ob) (hl : hs.sk.length = hs.sv.length) {d : D} (hd : d.pl = true) (hf : d.fits = true) (n : Nat) (ro : Bool) : callN Γ (n + 2) "House.look_station" ro [.ins k, d] I = bif stB hs d then .ok (.val .non) I else .exc ⟨"NoStation", []⟩ I := by
  rw [call_body h]
  have q := fun ro => name_run (n := n) (I := I) m.nam m.c1 m.c2 hd hf ro
  have f := fun kd => kFld_ins (kd := kd) (f_seats hI) rfl
  unfold stB
  cases e : nameB d with
  | false => cases ro <;> simp [lookStationS, fillD, callD_frz, q, e]
  | true =>
    cases d <;> first | (cases e; done) | skip
    rename_i z
    cases e2 : hasK hs.sk (.str z) <;> cases ro <;> simp [lookStationS, fillD, callD_frz, q, e, f, nin_dK hl, e2]
theorem stations_run (h : Γ.fn "House.stations" = some ⟨1, 1, [], stationsS⟩) (hI : I[k]? = some hs.ob) (n : Nat) (ro : Bool) : callN Γ (n + 1) "House.stations" ro [.ins k] I = .ok (.lst hs.ranks) I := by
  rw [call_body h]
  have f := fun kd => kFld_ins (kd := kd) (f_ranks hI) rfl
  have b : biD .list [(.lst hs.ranks, .inst)] I = .ok (.lst hs.ranks, .new) I := rfl
  simp [stationsS, fillD, f, b]
def kGo2 (c : Str) (d : D) (fr : Fr) (q : D × Kd) (I : Is) : Xr := match lookD d q.1 with
    | some (some v) => .rt (.val v) I
    | some none => .exc ⟨c, []⟩ fr I
    | none => .bad
def kGo (cn : Str → Option D) (cf : Str → Bool → List D → Is → R Sl) (k : Tm) (c : Str) (ro : Bool) (fr : Fr) (p : D × Kd) (I : Is) : Xr := (ev cn cf k (roK ro p.2) fr I).stm fr (kGo2 c p.1 fr)
@[simp high] theorem ex_getOr' {cn : Str → Option D} {cf : Str → Bool → List D → Is → R Sl} {ro : Bool} {fr : Fr} (a k : Tm) (c : Str) : exec cn cf (.getOr a k c) ro fr I = (ev cn cf a ro fr I).stm fr (kGo cn cf k c ro fr) := id rfl
@[simp] theorem kGo_ok {cn : Str → Option D} {cf : Str → Bool → List D → Is → R Sl} {ro : Bool} {fr : Fr} {k : Tm} {c : Str} {d : D} {kd : Kd} : kGo cn cf k c ro fr (d, kd) I = (ev cn cf k (roK ro kd) fr I).stm fr (kGo2 c d fr) := id rfl
theorem kGo2_str {fr : Fr} {c : Str} {ks : List Ky} {vs : List D} {z : Str} {kd : Kd} : kGo2 c (.dK ks vs) fr (.str z, kd) I = (match getV ks vs (.inr z) with
    | some v => .rt (.val v) I
    | none => .exc ⟨c, []⟩ fr I) := by
  show (match (some (getV ks vs (Sum.inr z)) : Option (Option D)) with
    | some (some v) => Xr.rt (.val v) I
    | some none => .exc ⟨c, []⟩ fr I
    | none => .bad) = _
  cases getV ks vs (Sum.inr z) <;> rfl
def showMR (hs : HS) (I : Is) (d : D) : R Sl := bif nameB d then (match d with
    | .str z => (match getV hs.kk hs.kv (.inr z) with
      | some v => .ok (.val v) I
      | none => .exc ⟨"NoShow", []⟩ I)
    | _ => .bad) else .exc ⟨"NoShow", []⟩ I
theorem showm_run (m : NameM Γ) (h : Γ.fn "House.show" = some ⟨2, 2, [], showHS⟩) (hI : I[k]? = some hs.ob) {d : D} (hd : d.pl = true) (hf : d.fits = true) (n : Nat) (ro : Bool) : callN Γ (n + 2) "House.show" ro [.ins k, d] I = showMR hs I d := by
  rw [call_body h]
  have q := fun ro => name_run (n := n) (I := I) m.nam m.c1 m.c2 hd hf ro
  have f := fun kd => kFld_ins (kd := kd) (f_known hI) rfl
  unfold showMR
  cases e : nameB d with
  | false => cases ro <;> simp [showHS, fillD, callD_frz, q, e]
  | true =>
    cases d <;> first | (cases e; done) | skip
    rename_i z
    cases e2 : getV hs.kk hs.kv (Sum.inr z) <;> cases ro <;> simp [showHS, fillD, callD_frz, q, e, f, kGo2_str, e2]
def HS.addSh (hs : HS) (nm : Str) (rest : List D) : HS := { hs with kk := hs.kk ++ [.inr nm], kv := hs.kv ++ [D.tup (.str nm :: rest)], done := hs.done ++ [D.tup (.str "show" :: .str nm :: rest)] }
def addR (hs : HS) (k : Nat) (I : Is) (d : D) : R Sl := bif showB d then (match d with
    | .tup (.str nm :: rest) => bif hasK hs.kk (.str nm) then .exc ⟨"Taken", []⟩ I else .ok (.val (.int (hs.kk.length + 1 : Nat))) (I.set k (hs.addSh nm rest).ob)
    | _ => .bad) else .exc ⟨"NoShow", []⟩ I
theorem put_new {ks : List Ky} {vs : List D} {z : Str} {v : D} {kd : Kd} (h : hasK ks (.str z) = false) (hl : ks.length < lim) : putS (.dK ks vs) (.str z, kd) v = some (.dK (ks ++ [.inr z]) (vs ++ [v])) := by
  have h : (ks.any fun j => decide (j = .inr z)) = false := h
  show (bif decide (ks.length < lim) then some (Sl.dK (putKs ks (.inr z)) (putVs ks vs (.inr z) v)) else none) = _
  rw [decide_eq_true hl, cond_true]
  unfold putKs putVs
  rw [h]; rfl
theorem add_run (m : ShowM Γ) (h : Γ.fn "House.add_show" = some ⟨2, 2, [], addS⟩) (hI : I[k]? = some hs.ob) (hl : hs.kk.length = hs.kv.length) (h1 : hs.kk.length < 1000000) (h2 : hs.done.length < 1000000) {d : D} (hd : d.okays = true) (n : Nat) : callN Γ (n + 3) "House.add_show" false [.ins k, d] I = addR hs k I d := by
  rw [call_body h]
  have q := fun ro => show_run (n := n) (I := I) m hd ro
  have f := fun kd => kFld_ins (kd := kd) (f_known hI) rfl
  unfold addR
  cases e : showB d with
  | false => simp [addS, fillD, callD_frz, q, e]
  | true =>
    obtain ⟨a, b, c, d4, d5, rfl⟩ : ∃ a b c d4 d5, d = .tup [a, b, c, d4, d5] := by
      unfold showB at e
      split at e
      · exact ⟨_, _, _, _, _, rfl⟩
      · cases e
    have ea : nameB a = true := by
      simp only [showB, Bool.and_eq_true] at e
      exact e.1
    cases a <;> first | (cases ea; done) | skip
    rename_i z
    have s0 : subD (.tup [.str z, b, c, d4, d5]) (.int 0) .fro I = .ok (.str z, .fro) I := rfl
    cases e2 : hasK hs.kk (.str z) with
    | true => simp [addS, fillD, callD_frz, q, e, f, s0, in_dK hl, e2]
    | false =>
      have l1 := le_lim (n := hs.kk.length + 1) (by omega)
      have l2 := le_lim (n := hs.done.length + 1) (by omega)
      have wk := w_known hI (hs.kk ++ [Sum.inr z]) (hs.kv ++ [.tup [.str z, b, c, d4, d5]])
      have i1 := get_set (ob' := { hs with kk := hs.kk ++ [Sum.inr z], kv := hs.kv ++ [D.tup [.str z, b, c, d4, d5]] }.ob) hI
      have w1 : ∀ (fr : Fr), kFput2 k "known" (.dK hs.kk hs.kv) (.tup [.str z, b, c, d4, d5]) fr (.str z, .fro) I = .nx fr (I.set k { hs with kk := hs.kk ++ [Sum.inr z], kv := hs.kv ++ [D.tup [.str z, b, c, d4, d5]] }.ob) := fun fr => kFput2_ok (put_new e2 (by omega)) wk
      have p1 : ∀ (fr : Fr) (kt : Tm), fr[0]? = some (.val (.ins k)) → kFput Γ.cn (callN Γ (n + 2)) 0 "known" kt fr (.tup [.str z, b, c, d4, d5], .fro) I = (ev Γ.cn (callN Γ (n + 2)) kt true fr I).stm fr (kFput2 k "known" (.dK hs.kk hs.kv) (.tup [.str z, b, c, d4, d5]) fr) := fun fr kt h0 => kFput_ok rfl h0 (f_known hI)
      have f2 : fldD (I.set k { hs with kk := hs.kk ++ [Sum.inr z], kv := hs.kv ++ [D.tup [.str z, b, c, d4, d5]] }.ob) k "done" = some (.lst hs.done) := f_done (h := { hs with kk := hs.kk ++ [Sum.inr z], kv := hs.kv ++ [D.tup [.str z, b, c, d4, d5]] }) i1
      have fa := fun (fr : Fr) (e : Tm) (h0 : fr[0]? = some (.val (.ins k))) => ex_fapp' (cn := Γ.cn) (cf := callN Γ (n + 2)) (e := e) h0 f2
      have w2 : ∀ (fr : Fr), kFapp2 k "done" hs.done fr (.tup [.str "show", .str z, b, c, d4, d5], .fro) (I.set k { hs with kk := hs.kk ++ [Sum.inr z], kv := hs.kv ++ [D.tup [.str z, b, c, d4, d5]] }.ob) = .nx fr ((I.set k { hs with kk := hs.kk ++ [Sum.inr z], kv := hs.kv ++ [D.tup [.str z, b, c, d4, d5]] }.ob).set k (hs.addSh z [b, c, d4, d5]).ob) := fun fr => kFapp2_ok rfl (by omega) (w_done (h := { hs with kk := hs.kk ++ [Sum.inr z], kv := hs.kv ++ [D.tup [.str z, b, c, d4, d5]] }) i1 _)
      have i2 := get_set (ob' := (hs.addSh z [b, c, d4, d5]).ob) i1
      have f3 := fun kd => kFld_ins (kd := kd) (f_known i2) rfl
      rw [List.set_set] at w2 i2 f3
      have l5 : (5 : Nat) ≤ lim := by decide
      have l6 : (6 : Nat) ≤ lim := by decide
      have la : (1 : Nat) ≤ lim := by decide
      have cat : ∀ I, binD .add (.tup [.str "show"]) (.tup [.str z, b, c, d4, d5]) I = .ok (.tup [.str "show", .str z, b, c, d4, d5], .fro) I := fun I => rfl
      have ln : ∀ (kd : Kd) I, biD .len [(.dK (hs.addSh z [b, c, d4, d5]).kk (hs.addSh z [b, c, d4, d5]).kv, kd)] I = .ok (.int (hs.kk.length + 1 : Nat), .fro) I := fun kd I => by
        show R.ok (D.int ((hs.kk ++ [Sum.inr z]).length : Nat), Kd.fro) I = _
        rw [List.length_append]; rfl
      simp [addS, fillD, callD_frz, q, e, f, s0, in_dK hl, e2, p1, w1, fa, cat, w2, f3, ln, la]
theorem shows_run (h : Γ.fn "House.shows" = some ⟨1, 1, [], showsS⟩) (hI : I[k]? = some hs.ob) {zs : List Str} (e : strKs hs.kk = some zs) (hz : zs.length < 64) (n : Nat) (ro : Bool) : callN Γ (n + 1) "House.shows" ro [.ins k] I = .ok (.lst (sortD (zs.map D.str))) I := by
  rw [call_body h]
  have f := fun kd => kFld_ins (kd := kd) (f_known hI) rfl
  have b : biD .sorted [(.dK hs.kk hs.kv, .inst)] I = .ok (.lst (sortD (zs.map D.str)), .new) I := by
    show (match strKs hs.kk with
    | some zs => bif decide (zs.length < 64) then R.ok (D.lst (sortD (zs.map D.str)), Kd.new) I else .bad
    | none => .bad) = _
    rw [e]
    simp only [decide_eq_true hz, cond_true]
  simp [showsS, fillD, f, b]
def rules2 : List D := [.str "join", .str "push"]
def ruleB : D → Bool
  | .str z => inD (.str z) rules2
  | _ => false
def spanB : D → D → Bool
  | .int x, .int y => numB (.int x) 0 24 && (numB (.int y) 0 24 && decide (x < y))
  | _, _ => false
def isNonD : D → Bool
  | .non => true
  | _ => false
/-- what refuses a new station -/
def openE (hs : HS) (d u a b m : D) : Option Str :=
  bif !nameB d then some "NoName" else bif hasK hs.sk d then some "Taken" else bif !(isNonD u || stB hs u) then some "NoStation" else bif !spanB a b then some "NoHour" else bif !ruleB m then some "NoRule" else bif decide (hs.ranks.length = 6) then some "Full" else none
def HS.opn (hs : HS) (d u a b m : D) : HS := match d with
  | .str z => { hs with ranks := hs.ranks ++ [D.str z], sk := hs.sk ++ [Sum.inr z], sv := hs.sv ++ [D.tup [u, a, b, m]], done := hs.done ++ [D.tup [.str "open", .str z, u, a, b, m]] }
  | _ => hs
structure OpenM (Γ : Gm) : Prop extends NumM Γ, NameM Γ where
  span : Γ.fn "look_span" = some ⟨4, 4, [], spanS⟩
  look : Γ.fn "House.look_station" = some ⟨2, 2, [], lookStationS⟩
  opn : Γ.fn "House.open_station" = some ⟨6, 6, [.non, .int 0, .int 24, .str "join"], openS⟩
  cR : Γ.cn "RULES" = some (.tup rules2)
  cM : Γ.cn "MOST_STATIONS" = some (.int 6)
theorem span_run2 (m : OpenM Γ) {a b : D} (ha : a.pl = true) (hb : b.pl = true) (n : Nat) (ro : Bool) (I : Is) : callN Γ (n + 2) "look_span" ro [a, b, .int 0, .int 24] I = bif spanB a b then .ok (.val .non) I else .exc ⟨"NoHour", []⟩ I := by
  rw [span_run m.toNumM m.span ha hb 0 24 n ro I]
  cases a <;> cases b <;> rfl
theorem rule_run {I : Is} {m : D} {kd : Kd} (h : ∃ z, m = .str z) : cmpD .nin m (.tup rules2) I = .ok (.bl (!ruleB m), .fro) I := by
  obtain ⟨z, rfl⟩ := h
  rfl
@[simp] theorem kIsn_scr (ng : Bool) (ns : List Int) (kd : Kd) : kIsn ng (.scr ns, kd) I = .ok (.bl ng, .fro) I := id rfl
theorem open_run (M : OpenM Γ) (hI : I[k]? = some hs.ob) (hl : hs.sk.length = hs.sv.length) (h1 : hs.sk.length < 1000000) (h2 : hs.done.length < 1000000) (h3 : hs.ranks.length < 1000000) {d u a b m : D} (hd : d.pl = true) (df : d.fits = true) (hu : u.pl = true) (uf : u.fits = true) (ha : a.pl = true) (hb : b.pl = true) (hm : m.pl = true) (n : Nat) :
    callN Γ (n + 3) "House.open_station" false [.ins k, d, u, a, b, m] I = (match openE hs d u a b m with
    | some e => .exc ⟨e, []⟩ I
    | none => .ok (.val (.int (hs.ranks.length + 1 : Nat))) (I.set k (hs.opn d u a b m).ob)) := by
  rw [call_body M.opn]
  have q := fun ro => name_run (n := n + 1) (I := I) M.nam M.c1 M.c2 hd df ro
  have fs := fun kd => kFld_ins (kd := kd) (f_seats hI) rfl
  have fr := fun kd => kFld_ins (kd := kd) (f_ranks hI) rfl
  have lk := fun ro => look_station_run M.toNameM M.look hI hl hu uf n ro
  have sp := fun ro => span_run2 M ha hb n ro I
  have nf : noFld I k "look_station" = true := no_at hI rfl
  unfold openE
  cases e1 : nameB d with
  | false => simp [openS, fillD, callD_frz, q, e1]
  | true =>
  cases d <;> first | (cases e1; done) | skip
  rename_i z
  cases e2 : hasK hs.sk (.str z) with
  | true => simp [openS, fillD, callD_frz, q, e1, fs, in_dK hl, e2]
  | false =>
  have ki : kIsn true (u, .fro) I = .ok (.bl (!isNonD u), .fro) I := by cases u <;> first | (cases hu; done) | rfl
  have key : (isNonD u || stB hs u) = false → isNonD u = false ∧ stB hs u = false := fun h => by simpa using h
  cases e3 : isNonD u || stB hs u with
  | false =>
    obtain ⟨k1, k2⟩ := key e3
    rw [k2] at lk
    rw [k1] at ki
    simp [openS, fillD, callD_frz, q, e1, fs, in_dK hl, e2, ki, lk, kMeth_ins nf]
  | true =>
  -- the upper one is passed
  have pass : ∃ R : Bool, isNonD u = R ∧ (R = false → stB hs u = true) := ⟨_, rfl, fun h => by rw [h] at e3; simpa using e3⟩
  obtain ⟨R, r1, r2⟩ := pass
  rw [r1] at ki
  have lk2 : R = false → ∀ ro, callN Γ (n + 2) "House.look_station" ro [.ins k, u] I = .ok (.val .non) I := fun h ro => by rw [lk ro, r2 h]; rfl
  cases e4 : spanB a b with
  | false =>
    rw [e4] at sp
    cases R with
    | true => simp [openS, fillD, callD_frz, q, e1, fs, in_dK hl, e2, ki, sp, ev_gk M.cH]
    | false => simp [openS, fillD, callD_frz, q, e1, fs, in_dK hl, e2, ki, lk2 rfl, kMeth_ins nf, sp, ev_gk M.cH]
  | true =>
  rw [e4] at sp
  have isS : isiD m "str" = some true ∨ (isiD m "str" = some false ∧ ruleB m = false) := by cases m <;> first | (cases hm; done) | exact .inl rfl | exact .inr ⟨rfl, rfl⟩
  cases e5 : ruleB m with
  | false =>
    rcases isS with e6 | ⟨e6, _⟩
    · have rr : cmpD .nin m (.tup rules2) I = .ok (.bl true, .fro) I := by
        rw [rule_run (kd := .fro) (by cases m <;> first | exact ⟨_, rfl⟩ | cases e6), e5]; rfl
      cases R with
      | true => simp [openS, fillD, callD_frz, q, e1, fs, in_dK hl, e2, ki, sp, ev_gk M.cH, ev_gk M.cR, e6, rr]
      | false => simp [openS, fillD, callD_frz, q, e1, fs, in_dK hl, e2, ki, lk2 rfl, kMeth_ins nf, sp, ev_gk M.cH, ev_gk M.cR, e6, rr]
    · cases R with
      | true => simp [openS, fillD, callD_frz, q, e1, fs, in_dK hl, e2, ki, sp, ev_gk M.cH, ev_gk M.cR, e6]
      | false => simp [openS, fillD, callD_frz, q, e1, fs, in_dK hl, e2, ki, lk2 rfl, kMeth_ins nf, sp, ev_gk M.cH, ev_gk M.cR, e6]
  | true =>
  have e6 : isiD m "str" = some true := isS.resolve_right fun h => by rw [h.2] at e5; cases e5
  have rr : cmpD .nin m (.tup rules2) I = .ok (.bl false, .fro) I := by
    rw [rule_run (kd := .fro) (by cases m <;> first | exact ⟨_, rfl⟩ | cases e6), e5]; rfl
  have ln : ∀ (xs : List D) (kd : Kd) (I : Is), biD .len [(.lst xs, kd)] I = .ok (.int xs.length, .fro) I := fun _ _ _ => rfl
  by_cases e7 : hs.ranks.length = 6
  · cases R with
    | true => simp [openS, fillD, callD_frz, q, e1, fs, in_dK hl, e2, ki, sp, ev_gk M.cH, ev_gk M.cR, ev_gk M.cM, e6, rr, fr, e7, ln]
    | false => simp [openS, fillD, callD_frz, q, e1, fs, in_dK hl, e2, ki, lk2 rfl, kMeth_ins nf, sp, ev_gk M.cH, ev_gk M.cR, ev_gk M.cM, e6, rr, fr, e7, ln]
  · have e8 : ¬ ((hs.ranks.length : Int) = 6) := by omega
    have l1 := le_lim (n := hs.sk.length + 1) (by omega)
    have l2 := le_lim (n := hs.done.length + 1) (by omega)
    have l3 := le_lim (n := hs.ranks.length + 1) (by omega)
    let g1 : HS := { hs with ranks := hs.ranks ++ [D.str z] }
    let g2 : HS := { g1 with sk := hs.sk ++ [Sum.inr z], sv := hs.sv ++ [D.tup [u, a, b, m]] }
    have hg1 : g1 = { hs with ranks := hs.ranks ++ [D.str z] } := rfl
    have hg2 : g2 = { g1 with sk := hs.sk ++ [Sum.inr z], sv := hs.sv ++ [D.tup [u, a, b, m]] } := rfl
    have i1 := get_set (ob' := g1.ob) hI
    have i2 := get_set (ob' := g2.ob) i1
    have i3 := get_set (ob' := (hs.opn (.str z) u a b m).ob) i2
    rw [List.set_set] at i2 i3
    have fa1 := fun (fr : Fr) (e : Tm) (h0 : fr[0]? = some (.val (.ins k))) => ex_fapp' (cn := Γ.cn) (cf := callN Γ (n + 2)) (e := e) h0 (f_ranks hI)
    have w1 : ∀ (fr : Fr), kFapp2 k "ranks" hs.ranks fr (.str z, .fro) I = .nx fr (I.set k g1.ob) := fun fr => kFapp2_ok rfl (by omega) (w_ranks hI _)
    have p1 : ∀ (fr : Fr) (kt : Tm), fr[0]? = some (.val (.ins k)) → kFput Γ.cn (callN Γ (n + 2)) 0 "seats" kt fr (.tup [u, a, b, m], .fro) (I.set k g1.ob) = (ev Γ.cn (callN Γ (n + 2)) kt true fr (I.set k g1.ob)).stm fr (kFput2 k "seats" (.dK hs.sk hs.sv) (.tup [u, a, b, m]) fr) := fun fr kt h0 => kFput_ok rfl h0 (f_seats (h := g1) i1)
    have w2 : ∀ (fr : Fr), kFput2 k "seats" (.dK hs.sk hs.sv) (.tup [u, a, b, m]) fr (.str z, .fro) (I.set k g1.ob) = .nx fr (I.set k g2.ob) := fun fr => by
      rw [kFput2_ok (put_new e2 (by omega)) (w_seats (h := g1) i1 _ _), List.set_set]
    have fa2 := fun (fr : Fr) (e : Tm) (h0 : fr[0]? = some (.val (.ins k))) => ex_fapp' (cn := Γ.cn) (cf := callN Γ (n + 2)) (e := e) h0 (f_done (h := g2) i2)
    have w3 : ∀ (fr : Fr), kFapp2 k "done" hs.done fr (.tup [.str "open", .str z, u, a, b, m], .fro) (I.set k g2.ob) = .nx fr (I.set k (hs.opn (.str z) u a b m).ob) := fun fr => by
      rw [kFapp2_ok (d := .tup [.str "open", .str z, u, a, b, m]) rfl (by omega) (w_done (h := g2) i2 _), List.set_set]; rfl
    have dn2 : g2.done = hs.done := rfl
    rw [dn2] at fa2
    rw [List.set_set] at i3
    have fr3 := fun kd => kFld_ins (kd := kd) (f_ranks i3) rfl
    have len3 : (hs.opn (.str z) u a b m).ranks.length = hs.ranks.length + 1 := by show (hs.ranks ++ [_]).length = _; simp
    have la4 : (4 : Nat) ≤ lim := by decide
    have la6 : (6 : Nat) ≤ lim := by decide
    cases R with
    | true => simp [openS, fillD, callD_frz, q, e1, fs, in_dK hl, e2, ki, sp, ev_gk M.cH, ev_gk M.cR, ev_gk M.cM, e6, rr, fr, e7, e8, ln, fa1, w1, p1, w2, fa2, w3, fr3, len3, la4, la6]
    | false => simp [openS, fillD, callD_frz, q, e1, fs, in_dK hl, e2, ki, lk2 rfl, kMeth_ins nf, sp, ev_gk M.cH, ev_gk M.cR, ev_gk M.cM, e6, rr, fr, e7, e8, ln, fa1, w1, p1, w2, fa2, w3, fr3, len3, la4, la6]
end
end Air
/-! Air: plain laws (10): drawn names, rows of texts. -/
namespace Air
open PySem L2
theorem lt_inj {a b : Int} (ha : 0 ≤ a) (hb : 0 ≤ b) (h : lt a = lt b) : a = b := by
  unfold lt at h
  omega
theorem nmL_inj {ns : List Int} {at_ : Int} {j k : Nat} (hj : j < 26) (hk : k < 26) (h : nmL ns at_ j = nmL ns at_ k) : j = k := by
  obtain ⟨p0, p1⟩ := pickF_in ns (at_ + 60) (m := 26) (by omega)
  have key : markL ns at_ j = markL ns at_ k → j = k := fun e => by
    unfold markL at e
    simp only [List.cons.injEq, and_true] at e
    have := lt_inj (by omega) (by omega) e
    omega
  unfold nmL at h
  split at h
  · refine key ?_
    have := congrArg List.reverse h
    unfold markL at this ⊢
    simp only [List.reverse_append, List.reverse_cons, List.reverse_nil, List.nil_append, List.singleton_append, List.cons.injEq] at this
    rw [this.1]
  · refine key ?_
    unfold markL at h ⊢
    simp only [List.singleton_append, List.cons.injEq] at h
    rw [h.1]
theorem restL_L (ns : List Int) (at_ k : Int) (m : Nat) : (restL ns at_ k m).all isL = true := by
  unfold restL
  rw [List.all_map, List.all_eq_true]
  intro j _
  obtain ⟨h1, h2⟩ := pickF_in ns (at_ + 7 * k + j + 1) (m := 26) (by omega)
  exact isL_lt h1 h2
theorem markL_L (ns : List Int) (at_ k : Int) : (markL ns at_ k).all isL = true := by
  unfold markL
  rw [List.all_cons, List.all_nil, Bool.and_true]
  exact isL_lt (Int.emod_nonneg _ (by omega)) (Int.emod_lt_of_pos _ (by omega))
theorem nmL_ok (ns : List Int) (at_ k : Int) : 1 ≤ (nmL ns at_ k).length ∧ (nmL ns at_ k).length ≤ 6 ∧ (nmL ns at_ k).all isL = true := by
  have h1 := restL_len (ns := ns) (at_ := at_) k (restN ns at_ k)
  have h2 := restN_le ns at_ k
  have h3 : (markL ns at_ k).length = 1 := rfl
  unfold nmL
  split <;> rw [List.length_append, List.all_append, restL_L, markL_L, h1, h3] <;> exact ⟨by omega, by omega, rfl⟩
theorem S_inj {a b : List Nat} (h : S a = S b) : a = b := by
  unfold S at h
  injection h with h
  injection h
/-! ### rows of texts -/
theorem strKs_of : ∀ zs : List Str, strKs (zs.map Sum.inr) = some zs
  | [] => rfl
  | z :: zs => by
    show (strKs (zs.map Sum.inr)).map (z :: ·) = _
    rw [strKs_of zs]; rfl
theorem hasK_any {zs : List Str} {z : Str} : ((zs.map Sum.inr : List Ky).any fun j => decide (j = Sum.inr z)) = decide (z ∈ zs) := by
  induction zs with
  | nil => rfl
  | cons y ys ih =>
    rw [List.map_cons, List.any_cons, ih]
    by_cases h : y = z
    · subst h; simp
    · have : ¬ z = y := fun e => h e.symm
      simp [h, this]
theorem hasK_map {zs : List Str} {z : Str} : hasK (zs.map Sum.inr) (.str z) = decide (z ∈ zs) := hasK_any
theorem strs_eqc : ∀ {ds : List D}, (∀ d ∈ ds, ∃ z, d = .str z) → D.eqcs ds = true ∧ D.deps ds ≤ 1
  | [], _ => ⟨rfl, by simp⟩
  | d :: ds, h => by
    obtain ⟨z, rfl⟩ := h d List.mem_cons_self
    obtain ⟨e1, e2⟩ := strs_eqc fun x hx => h x (List.mem_cons_of_mem _ hx)
    refine ⟨by simp [e1], ?_⟩
    rw [deps_cons]
    have : D.dep (.str z) = 1 := by simp
    omega
theorem sortD_strs (zs : List Str) : ∀ d ∈ sortD (zs.map D.str), ∃ z, d = .str z := fun d hd => by
  have := (sortD_perm _).mem_iff.mp hd
  obtain ⟨z, _, rfl⟩ := List.mem_map.mp this
  exact ⟨z, rfl⟩
theorem ne_strs {ds : List D} {I : Is} (h : ∀ d ∈ ds, ∃ z, d = .str z) : cmpD .ne (.lst ds) (.lst ds) I = .ok (.bl false, .fro) I := by
  obtain ⟨e1, e2⟩ := strs_eqc h
  exact cmp_ne_self (by simpa using e1) (by simp; omega)
theorem eq_strs {ds : List D} {I : Is} (h : ∀ d ∈ ds, ∃ z, d = .str z) : cmpD .eq (.lst ds) (.lst ds) I = .ok (.bl true, .fro) I := by
  obtain ⟨e1, e2⟩ := strs_eqc h
  exact cmp_eq_self (by simpa using e1) (by simp; omega)
theorem cutD_last {xs : List D} {x : D} : cutD (xs ++ [x]) none (some (-1)) = xs := by
  unfold cutD
  have h1 : HT.sIx (xs ++ [x]).length 0 none = 0 := rfl
  have h2 : HT.sIx (xs ++ [x]).length (xs ++ [x]).length (some (-1)) = xs.length := by
    show (if (-1 : Int) < 0 then ((-1 : Int) + ((xs ++ [x]).length : Int)).toNat else min (-1 : Int).toNat (xs ++ [x]).length) = _
    rw [if_pos (by decide), List.length_append]
    simp only [List.length_cons, List.length_nil]
    omega
  rw [h1, h2, List.drop_zero, Nat.sub_zero, List.take_left]
/-! ### what stations tell -/
def stationS : Sm := (.cons (.expr (.meth (.loc 0) "look_station" "House.look_station" (.cons (.loc 1) .nil)))
      (.cons (.ret (.sub (.fld (.loc 0) "seats") (.loc 1)))
      .nil))
def deedsS : Sm := (.cons (.ret (.blt .list (.cons (.fld (.loc 0) "done") .nil)))
      .nil)
section
variable {Γ : Gm} {hs : HS} {k : Nat} {I : Is}
theorem deeds_run (h : Γ.fn "House.deeds" = some ⟨1, 1, [], deedsS⟩) (hI : I[k]? = some hs.ob) (n : Nat) (ro : Bool) : callN Γ (n + 1) "House.deeds" ro [.ins k] I = .ok (.lst hs.done) I := by
  rw [call_body h]
  have f := fun kd => kFld_ins (kd := kd) (f_done hI) rfl
  have b : biD .list [(.lst hs.done, .inst)] I = .ok (.lst hs.done, .new) I := rfl
  simp [deedsS, fillD, f, b]
def stationR (hs : HS) (I : Is) (d : D) : R Sl := bif stB hs d then (match d with
    | .str z => (match getV hs.sk hs.sv (.inr z) with
      | some v => .ok (.val v) I
      | none => .bad)
    | _ => .bad) else .exc ⟨"NoStation", []⟩ I
theorem station_run (m : NameM Γ) (hl : Γ.fn "House.look_station" = some ⟨2, 2, [], lookStationS⟩) (h : Γ.fn "House.station" = some ⟨2, 2, [], stationS⟩) (hI : I[k]? = some hs.ob) (hlen : hs.sk.length = hs.sv.length) {d : D} (hd : d.pl = true) (hf : d.fits = true) (n : Nat) (ro : Bool) : callN Γ (n + 3) "House.station" ro [.ins k, d] I = stationR hs I d := by
  rw [call_body h]
  have q := fun ro => look_station_run m hl hI hlen hd hf n ro
  have f := fun kd => kFld_ins (kd := kd) (f_seats hI) rfl
  have nf : noFld I k "look_station" = true := no_at hI rfl
  unfold stationR
  cases e : stB hs d with
  | false =>
    rw [e] at q
    cases ro <;> simp [stationS, fillD, callD_frz, kMeth_ins nf, q]
  | true =>
    rw [e] at q
    have nb : nameB d = true := by unfold stB at e; rw [Bool.and_eq_true] at e; exact e.1
    cases d <;> first | (cases nb; done) | skip
    rename_i z
    have hk : hasK hs.sk (.str z) = true := by unfold stB at e; rw [Bool.and_eq_true] at e; exact e.2
    have gs : (getV hs.sk hs.sv (Sum.inr z)).isSome = true := by rw [getV_isSome _ hlen]; exact hk
    cases e2 : getV hs.sk hs.sv (Sum.inr z) with
    | none => rw [e2] at gs; cases gs
    | some v =>
      have sb : ∀ kd, subD (.dK hs.sk hs.sv) (.str z) kd I = .ok (v, .fro) I := fun kd => by
        show (match (some (getV hs.sk hs.sv (Sum.inr z)) : Option (Option D)) with | some (some d) => R.ok (d, Kd.fro) I | _ => .bad) = _
        rw [e2]
      cases ro <;> simp [stationS, fillD, callD_frz, kMeth_ins nf, q, f, sb, e2]
/-- a method that looks at its station first -/
theorem look_first (m : NameM Γ) (hl : Γ.fn "House.look_station" = some ⟨2, 2, [], lookStationS⟩) {x : Str} {np nl : Nat} {r : Sm} (h : Γ.fn x = some ⟨2, nl, [], .cons (.expr (.meth (.loc 0) "look_station" "House.look_station" (.cons (.loc 1) .nil))) r⟩) (hI : I[k]? = some hs.ob) (hlen : hs.sk.length = hs.sv.length) {d : D} (hd : d.pl = true) (hf : d.fits = true) (hb : stB hs d = false) (n : Nat) (ro : Bool) : callN Γ (n + 3) x ro [.ins k, d] I = .exc ⟨"NoStation", []⟩ I := by
  rw [call_body h]
  have q := fun ro => look_station_run m hl hI hlen hd hf n ro
  rw [hb] at q
  have nf : noFld I k "look_station" = true := no_at hI rfl
  cases ro <;> simp [fillD, callD_frz, kMeth_ins nf, q]
end
end Air
namespace K11
open PySem PySem.Spec PyProof.Rows L2 Air
/-! ### the defs as terms (printed) -/
def b0_law : Air.Sm := (.cons (.iff (.cmp .ne (.told (.meth (.loc 4) "open_station" "House.open_station" (.cons (.loc 5) (.cons (.loc 5) (.cons (.cns (.int 9)) (.cons (.cns (.int 3)) (.cons (.loc 5) .nil))))))) (.tup (.cons (.cns (.str "refused")) (.cons (.cns (.str "NoName")) .nil)))) (.cons (.ret (.cns (.bl false)))
      .nil) .nil)
      (.cons (.asg 6 (.told (.meth (.loc 4) "open_station" "House.open_station" (.cons (.loc 3) (.cons (.loc 5) (.cons (.cns (.int 9)) (.cons (.cns (.int 3)) .nil)))))))
      (.cons (.iff (.and (.isn true (.loc 5)) (.cmp .ne (.loc 6) (.tup (.cons (.cns (.str "refused")) (.cons (.cns (.str "NoStation")) .nil))))) (.cons (.ret (.cns (.bl false)))
      .nil) .nil)
      (.cons (.iff (.cmp .ne (.told (.meth (.loc 4) "station" "House.station" (.cons (.loc 5) .nil))) (.tup (.cons (.cns (.str "refused")) (.cons (.cns (.str "NoStation")) .nil)))) (.cons (.ret (.cns (.bl false)))
      .nil) .nil)
      (.cons (.iff (.cmp .ne (.told (.meth (.loc 4) "line" "House.line" (.cons (.loc 5) .nil))) (.tup (.cons (.cns (.str "refused")) (.cons (.cns (.str "NoStation")) .nil)))) (.cons (.ret (.cns (.bl false)))
      .nil) .nil)
      (.cons (.iff (.cmp .ne (.told (.meth (.loc 4) "beneath" "House.beneath" (.cons (.loc 5) .nil))) (.tup (.cons (.cns (.str "refused")) (.cons (.cns (.str "NoStation")) .nil)))) (.cons (.ret (.cns (.bl false)))
      .nil) .nil)
      (.cons (.iff (.cmp .ne (.told (.methK (.loc 4) "open_station" "House.open_station" 3 ["manner"] [.inl 0, .inl 1, .inl 2, .inr (.int 0), .inr (.int 24), .inl 3] (.cons (.loc 3) (.cons (.loc 1) (.cons (.loc 5) .nil))))) (.tup (.cons (.cns (.str "refused")) (.cons (.cns (.str "NoRule")) .nil)))) (.cons (.ret (.cns (.bl false)))
      .nil) .nil)
      .nil)))))))
def b1_law : Air.Sm := (.cons (.iff (.cmp .ne (.told (.meth (.loc 4) "open_station" "House.open_station" (.cons (.loc 3) (.cons (.cns .non) (.cons (.loc 5) (.cons (.cns (.int 24)) (.cons (.cns (.str "x")) .nil))))))) (.tup (.cons (.cns (.str "refused")) (.cons (.cns (.str "NoHour")) .nil)))) (.cons (.ret (.cns (.bl false)))
      .nil) .nil)
      .nil)
def b2_law : Air.Sm := (.cons (.iff (.cmp .ne (.told (.methK (.loc 4) "open_station" "House.open_station" 2 ["closing"] [.inl 0, .inl 1, .inr .non, .inr (.int 0), .inl 2, .inr (.str "join")] (.cons (.loc 3) (.cons (.loc 5) .nil)))) (.tup (.cons (.cns (.str "refused")) (.cons (.cns (.str "NoHour")) .nil)))) (.cons (.ret (.cns (.bl false)))
      .nil) .nil)
      .nil)
def m_law : Sm := (.cons (.unp [1, 2, 3] (.call "_law_names" (.cons (.loc 0) (.cons (.cns (.int 0)) (.cons (.cns (.int 3)) .nil)))))
      (.cons (.asg 4 .new)
      (.cons (.iff (.or (.cmp .ne (.meth (.loc 4) "open_station" "House.open_station" (.cons (.loc 1) .nil)) (.cns (.int 1))) (.cmp .ne (.meth (.loc 4) "station" "House.station" (.cons (.loc 1) .nil)) (.tup (.cons (.cns .non) (.cons (.cns (.int 0)) (.cons (.cns (.int 24)) (.cons (.cns (.str "join")) .nil))))))) (.cons (.ret (.cns (.bl false)))
      .nil) .nil)
      (.cons (.iff (.or (.cmp .ne (.methK (.loc 4) "open_station" "House.open_station" 2 ["upper", "manner"] [.inl 0, .inl 1, .inl 2, .inr (.int 0), .inr (.int 24), .inl 3] (.cons (.loc 2) (.cons (.loc 1) (.cons (.cns (.str "push")) .nil)))) (.cns (.int 2))) (.cmp .ne (.meth (.loc 4) "station" "House.station" (.cons (.loc 2) .nil)) (.tup (.cons (.loc 1) (.cons (.cns (.int 0)) (.cons (.cns (.int 24)) (.cons (.cns (.str "push")) .nil))))))) (.cons (.ret (.cns (.bl false)))
      .nil) .nil)
      (.cons (.for (.nm 5) (.cons (.call "_law_no_names" .nil) .nil) b0_law)
      (.cons (.for (.nm 5) (.cons (.lst (.cons (.neg (.cns (.int 1))) (.cons (.cns (.int 25)) (.cons (.cns .non) (.cons (.cns (.bl true)) (.cons (.cns (.str "0")) (.cons (.lst (.cons (.cns (.int 0)) .nil)) (.cons (.tup (.cons (.cns (.int 0)) .nil)) (.cons (.cns (.int 24)) .nil))))))))) .nil) b1_law)
      (.cons (.for (.nm 5) (.cons (.lst (.cons (.cns (.int 0)) (.cons (.cns (.int 25)) (.cons (.cns .non) (.cons (.cns (.bl true)) (.cons (.cns (.str "24")) (.cons (.lst (.cons (.cns (.int 24)) .nil)) .nil))))))) .nil) b2_law)
      (.cons (.iff (.cmp .ne (.told (.meth (.loc 4) "open_station" "House.open_station" (.cons (.loc 2) (.cons (.loc 3) (.cons (.cns (.int 9)) (.cons (.cns (.int 3)) .nil)))))) (.tup (.cons (.cns (.str "refused")) (.cons (.cns (.str "Taken")) .nil)))) (.cons (.ret (.cns (.bl false)))
      .nil) .nil)
      (.cons (.iff (.cmp .ne (.told (.meth (.loc 4) "open_station" "House.open_station" (.cons (.loc 3) (.cons (.loc 3) (.cons (.cns (.int 9)) (.cons (.cns (.int 3)) .nil)))))) (.tup (.cons (.cns (.str "refused")) (.cons (.cns (.str "NoStation")) .nil)))) (.cons (.ret (.cns (.bl false)))
      .nil) .nil)
      (.cons (.iff (.or (.cmp .ne (.told (.meth (.loc 4) "beneath" "House.beneath" (.cons (.loc 3) .nil))) (.tup (.cons (.cns (.str "refused")) (.cons (.cns (.str "NoStation")) .nil)))) (.cmp .eq (.slc (.meth (.loc 4) "deeds" "House.deeds" .nil) (.cons (.cns (.int 1)) .nil) .nil) (.lst .nil))) (.cons (.ret (.cns (.bl false)))
      .nil) .nil)
      (.cons (.ret (.and (.cmp .eq (.meth (.loc 4) "stations" "House.stations" .nil) (.lst (.cons (.loc 1) (.cons (.loc 2) .nil)))) (.and (.cmp .eq (.blt .len (.cons (.meth (.loc 4) "deeds" "House.deeds" .nil) .nil)) (.cns (.int 2))) (.cmp .eq (.meth (.loc 4) "open_station" "House.open_station" (.cons (.loc 3) (.cons (.loc 2) (.cons (.cns (.int 3)) (.cons (.cns (.int 4)) .nil))))) (.cns (.int 3))))))
      .nil)))))))))))
def d_law : Fd := ⟨1, 7, [], m_law⟩
def b0__law_names : Air.Sm := (.cons (.asg 6 (.bin .add (.loc 6) (.sub (.loc 3) (.call "_law_pick" (.cons (.loc 0) (.cons (.bin .add (.bin .add (.bin .add (.loc 1) (.bin .mul (.cns (.int 7)) (.loc 5))) (.loc 7)) (.cns (.int 1))) (.cons (.cns (.int 26)) .nil)))))))
      .nil)
def b1__law_names : Air.Sm := (.cons (.asg 6 (.cns (.str "")))
      (.cons (.for (.nm 7) (.rng1 (.sub (.lst (.cons (.cns (.int 0)) (.cons (.cns (.int 0)) (.cons (.cns (.int 1)) (.cons (.cns (.int 2)) (.cons (.cns (.int 5)) .nil)))))) (.call "_law_pick" (.cons (.loc 0) (.cons (.bin .add (.loc 1) (.bin .mul (.cns (.int 7)) (.loc 5))) (.cons (.cns (.int 5)) .nil)))))) b0__law_names)
      (.cons (.asg 8 (.sub (.loc 3) (.bin .md (.bin .add (.call "_law_pick" (.cons (.loc 0) (.cons (.bin .add (.loc 1) (.cns (.int 60))) (.cons (.cns (.int 26)) .nil)))) (.loc 5)) (.cns (.int 26)))))
      (.cons (.app 4 (.ite (.cmp .eq (.call "_law_pick" (.cons (.loc 0) (.cons (.bin .add (.loc 1) (.cns (.int 61))) (.cons (.cns (.int 2)) .nil)))) (.cns (.int 0))) (.bin .add (.loc 6) (.loc 8)) (.bin .add (.loc 8) (.loc 6))))
      .nil))))
def m__law_names : Sm := (.cons (.par [(3, false), (4, true)] (.cons (.cns (.str "abcdefghijklmnopqrstuvwxyz")) (.cons (.lst .nil) .nil)))
      (.cons (.for (.nm 5) (.rng1 (.loc 2)) b1__law_names)
      (.cons (.retOwn 4)
      .nil)))
def d__law_names : Fd := ⟨3, 9, [], m__law_names⟩
def m_House___init__ : Sm := (.cons (.fset 0 "ranks" (.lst .nil))
      (.cons (.fset 0 "seats" (.dnew false))
      (.cons (.fset 0 "known" (.dnew false))
      (.cons (.fset 0 "weeks" (.lst .nil))
      (.cons (.fset 0 "plans" (.dnew true))
      (.cons (.fset 0 "cuts" (.dnew true))
      (.cons (.fset 0 "many" (.cns (.int 0)))
      (.cons (.fset 0 "done" (.lst .nil))
      .nil))))))))
def d_House___init__ : Fd := ⟨1, 1, [], m_House___init__⟩
def m_House_open_station : Sm := (.cons (.iff (.not (.call "is_name" (.cons (.loc 1) .nil))) (.cons (.rais "NoName")
      .nil) .nil)
      (.cons (.iff (.cmp .inn (.loc 1) (.fld (.loc 0) "seats")) (.cons (.rais "Taken")
      .nil) .nil)
      (.cons (.iff (.isn true (.loc 2)) (.cons (.expr (.meth (.loc 0) "look_station" "House.look_station" (.cons (.loc 2) .nil)))
      .nil) .nil)
      (.cons (.expr (.call "look_span" (.cons (.loc 3) (.cons (.loc 4) (.cons (.cns (.int 0)) (.cons (.gk "HOURS") .nil))))))
      (.cons (.iff (.or (.not (.isi (.loc 5) ["str"])) (.cmp .nin (.loc 5) (.gk "RULES"))) (.cons (.rais "NoRule")
      .nil) .nil)
      (.cons (.iff (.cmp .eq (.blt .len (.cons (.fld (.loc 0) "ranks") .nil)) (.gk "MOST_STATIONS")) (.cons (.rais "Full")
      .nil) .nil)
      (.cons (.fapp 0 "ranks" (.loc 1))
      (.cons (.fput 0 "seats" (.loc 1) (.tup (.cons (.loc 2) (.cons (.loc 3) (.cons (.loc 4) (.cons (.loc 5) .nil))))))
      (.cons (.fapp 0 "done" (.tup (.cons (.cns (.str "open")) (.cons (.loc 1) (.cons (.loc 2) (.cons (.loc 3) (.cons (.loc 4) (.cons (.loc 5) .nil))))))))
      (.cons (.ret (.blt .len (.cons (.fld (.loc 0) "ranks") .nil)))
      .nil))))))))))
def d_House_open_station : Fd := ⟨6, 6, [.non, (.int 0), (.int 24), (.str "join")], m_House_open_station⟩
def m_House_station : Sm := (.cons (.expr (.meth (.loc 0) "look_station" "House.look_station" (.cons (.loc 1) .nil)))
      (.cons (.ret (.sub (.fld (.loc 0) "seats") (.loc 1)))
      .nil))
def d_House_station : Fd := ⟨2, 2, [], m_House_station⟩
def m__law_no_names : Sm := (.cons (.ret (.lst (.cons (.cns (.str "")) (.cons (.cns (.str "abcdefg")) (.cons (.cns (.str "A")) (.cons (.cns (.str "a b")) (.cons (.cns (.str "a1")) (.cons (.cns .non) (.cons (.cns (.int 0)) (.cons (.cns (.bl true)) (.cons (.lst (.cons (.cns (.str "a")) .nil)) (.cons (.tup (.cons (.cns (.str "a")) .nil)) (.cons (.tup .nil) (.cons (.cns (.str "a\n")) (.cons (.lst (.cons (.lst (.cons (.lst (.cons (.cns (.str "a")) .nil)) .nil)) .nil)) .nil)))))))))))))))
      .nil)
def d__law_no_names : Fd := ⟨0, 0, [], m__law_no_names⟩
def t0_House_line : Air.Tm := (.isn true (.sub (.sub (.fld (.loc 0) "seats") (.sub (.loc 2) (.neg (.cns (.int 1))))) (.cns (.int 0))))
def b0_House_line : Air.Sm := (.cons (.app 2 (.sub (.sub (.fld (.loc 0) "seats") (.sub (.loc 2) (.neg (.cns (.int 1))))) (.cns (.int 0))))
      .nil)
def m_House_line : Sm := (.cons (.expr (.meth (.loc 0) "look_station" "House.look_station" (.cons (.loc 1) .nil)))
      (.cons (.own 2 (.lst (.cons (.loc 1) .nil)))
      (.cons (.whl 1000000 t0_House_line b0_House_line)
      (.cons (.retOwn 2)
      .nil))))
def d_House_line : Fd := ⟨2, 3, [], m_House_line⟩
def t0_House_beneath : Air.Tm := (.lc [("one", 2)] (.loc 2) (.nm 2) (.cons (.fld (.loc 0) "ranks") .nil) (.cons (.and (.cmp .ne (.loc 2) (.loc 1)) (.cmp .inn (.loc 1) (.meth (.loc 0) "line" "House.line" (.cons (.loc 2) .nil)))) .nil))
def m_House_beneath : Sm := (.cons (.expr (.meth (.loc 0) "look_station" "House.look_station" (.cons (.loc 1) .nil)))
      (.cons (.ret t0_House_beneath)
      .nil))
def d_House_beneath : Fd := ⟨2, 3, [], m_House_beneath⟩
def m_House_deeds : Sm := (.cons (.ret (.blt .list (.cons (.fld (.loc 0) "done") .nil)))
      .nil)
def d_House_deeds : Fd := ⟨1, 1, [], m_House_deeds⟩
def m_House_stations : Sm := (.cons (.ret (.blt .list (.cons (.fld (.loc 0) "ranks") .nil)))
      .nil)
def d_House_stations : Fd := ⟨1, 1, [], m_House_stations⟩
def m__law_pick : Sm := (.cons (.asg 3 (.ite (.cmp .ne (.loc 0) (.lst .nil)) (.sub (.loc 0) (.bin .md (.loc 1) (.blt .len (.cons (.loc 0) .nil)))) (.cns (.int 0))))
      (.cons (.par [(4, false), (5, false)] (.cons (.bin .fdiv (.loc 3) (.bin .pow (.cns (.int 10)) (.cns (.int 18)))) (.cons (.bin .fdiv (.loc 1) (.blt .max2 (.cons (.blt .len (.cons (.loc 0) .nil)) (.cons (.cns (.int 1)) .nil)))) .nil)))
      (.cons (.whl 1000000 (.and (.cmp .gt (.loc 4) (.cns (.int 0))) (.cmp .gt (.loc 5) (.cns (.int 0)))) (.cons (.par [(4, false), (5, false)] (.cons (.bin .fdiv (.loc 4) (.cns (.int 840))) (.cons (.bin .sub (.loc 5) (.cns (.int 1))) .nil)))
      .nil))
      (.cons (.iff (.cmp .gt (.loc 4) (.cns (.int 0))) (.cons (.ret (.bin .md (.bin .md (.loc 4) (.cns (.int 840))) (.loc 2)))
      .nil) .nil)
      (.cons (.asg 6 (.bin .md (.bin .mul (.bin .add (.bin .mul (.loc 3) (.cns (.int 31))) (.bin .mul (.cns (.int 6151)) (.bin .add (.loc 1) (.cns (.int 1))))) (.cns (.int 40692))) (.cns (.int 2147483399))))
      (.cons (.ret (.bin .md (.bin .md (.bin .add (.bin .mul (.loc 6) (.loc 6)) (.bin .fdiv (.loc 6) (.cns (.int 31)))) (.cns (.int 2147483629))) (.loc 2)))
      .nil))))))
def d__law_pick : Fd := ⟨3, 7, [], m__law_pick⟩
def t0_is_name : Air.Tm := (.lc [("sign", 1)] (.cmp .inn (.loc 1) (.gk "LETTERS")) (.nm 1) (.cons (.loc 0) .nil) .nil)
def m_is_name : Sm := (.cons (.ret (.and (.isi (.loc 0) ["str"]) (.and (.ch2 .le .le (.cns (.int 1)) (.blt .len (.cons (.loc 0) .nil)) (.gk "LONGEST_NAME")) (.blt .all (.cons t0_is_name .nil)))))
      .nil)
def d_is_name : Fd := ⟨1, 2, [], m_is_name⟩
def m_House_look_station : Sm := (.cons (.iff (.or (.not (.call "is_name" (.cons (.loc 1) .nil))) (.cmp .nin (.loc 1) (.fld (.loc 0) "seats"))) (.cons (.rais "NoStation")
      .nil) .nil)
      .nil)
def d_House_look_station : Fd := ⟨2, 2, [], m_House_look_station⟩
def m_look_span : Sm := (.cons (.iff (.or (.not (.call "is_number" (.cons (.loc 0) (.cons (.loc 2) (.cons (.loc 3) .nil))))) (.or (.not (.call "is_number" (.cons (.loc 1) (.cons (.loc 2) (.cons (.loc 3) .nil))))) (.cmp .ge (.loc 0) (.loc 1)))) (.cons (.rais "NoHour")
      .nil) .nil)
      .nil)
def d_look_span : Fd := ⟨4, 4, [], m_look_span⟩
def m_is_number : Sm := (.cons (.ret (.and (.isi (.loc 0) ["int"]) (.and (.not (.isi (.loc 0) ["bool"])) (.ch2 .le .le (.loc 1) (.loc 0) (.loc 2)))))
      .nil)
def d_is_number : Fd := ⟨3, 3, [], m_is_number⟩
def cnT : List (Str × D) := [("HOURS", (.int 24)), ("LETTERS", (.str "abcdefghijklmnopqrstuvwxyz")), ("LONGEST_NAME", (.int 6)), ("MOST_STATIONS", (.int 6)), ("RULES", (.tup [(.str "join"), (.str "push")]))]
def fnT : List (Str × Fd) := [("law", d_law), ("_law_names", d__law_names), ("House.__init__", d_House___init__), ("House.open_station", d_House_open_station), ("House.station", d_House_station), ("_law_no_names", d__law_no_names), ("House.line", d_House_line), ("House.beneath", d_House_beneath), ("House.deeds", d_House_deeds), ("House.stations", d_House_stations), ("_law_pick", d__law_pick), ("is_name", d_is_name), ("House.look_station", d_House_look_station), ("look_span", d_look_span), ("is_number", d_is_number)]
def knT : List (Str × (Nat × Nat)) := ("law", (1, 0)) :: ("_law_names", (3, 0)) :: ("House.__init__", (1, 0)) :: ("House.open_station", (6, 4)) :: ("House.station", (2, 0)) :: ("_law_no_names", (0, 0)) :: ("House.line", (2, 0)) :: ("House.beneath", (2, 0)) :: ("House.deeds", (1, 0)) :: ("House.stations", (1, 0)) :: ("_law_pick", (3, 0)) :: ("is_name", (1, 0)) :: ("House.look_station", (2, 0)) :: ("look_span", (4, 0)) :: ("is_number", (3, 0)) :: ("HOURS", (0, 1)) :: ("LETTERS", (0, 1)) :: ("LONGEST_NAME", (0, 1)) :: ("MOST_STATIONS", (0, 1)) :: ("RULES", (0, 1)) :: ("NoName", (0, 3)) :: ("NoHour", (0, 3)) :: ("NoStation", (0, 3)) :: ("NoRule", (0, 3)) :: ("Full", (0, 3)) :: ("Taken", (0, 3)) :: ("_law_told", (0, 2)) :: ("<lambda>", (0, 2)) :: ("House", (0, 4)) :: ("House:cuts", (0, 5)) :: ("House:done", (0, 5)) :: ("House:known", (0, 5)) :: ("House:many", (0, 5)) :: ("House:plans", (0, 5)) :: ("House:ranks", (0, 5)) :: ("House:seats", (0, 5)) :: ("House:weeks", (0, 5)) :: []
def Γ : Gm := ⟨fun x => cnT.lookup x, fun x => fnT.lookup x⟩
def kn (x : Str) : Option (Nat × Nat) := knT.lookup x
def kw_House_open_station : List ((Nat × List Str) × List (Sum Nat Cs)) := [((2, ["upper", "manner"]), [.inl 0, .inl 1, .inl 2, .inr (.int 0), .inr (.int 24), .inl 3]), ((3, ["manner"]), [.inl 0, .inl 1, .inl 2, .inr (.int 0), .inr (.int 24), .inl 3]), ((2, ["closing"]), [.inl 0, .inl 1, .inr .non, .inr (.int 0), .inl 2, .inr (.str "join")])]
def kwT : List (Str × List ((Nat × List Str) × List (Sum Nat Cs))) := [("House.open_station", kw_House_open_station)]
def kw (x : Str) (n : Nat) (ks : List Str) : Option (List (Sum Nat Cs)) := match kwT.lookup x with
  | some t => kwL t n ks
  | none => none
end K11
namespace K11
open PySem L2 Air
theorem pickG : Γ.fn "_law_pick" = some ⟨3, 7, [], pickS⟩ := rfl
theorem namesG : Γ.fn "_law_names" = some ⟨3, 9, [], namesS⟩ := rfl
theorem mN : NumM Γ := ⟨rfl, rfl⟩
theorem mNm : NameM Γ := ⟨rfl, rfl, rfl⟩
theorem mO : OpenM Γ := ⟨mN, mNm, rfl, rfl, rfl, rfl, rfl⟩
theorem stationG : Γ.fn "House.station" = some ⟨2, 2, [], stationS⟩ := rfl
theorem stationsG : Γ.fn "House.stations" = some ⟨1, 1, [], stationsS⟩ := rfl
theorem deedsG : Γ.fn "House.deeds" = some ⟨1, 1, [], deedsS⟩ := rfl
theorem ob0 (h : HS) : ([h.ob] : Is)[0]? = some h.ob := rfl
theorem tl1 : ("NoName" : Str) ∈ tellN := by decide +kernel
theorem tl2 : ("NoStation" : Str) ∈ tellN := by decide +kernel
theorem tl3 : ("NoRule" : Str) ∈ tellN := by decide +kernel
theorem tl4 : ("NoHour" : Str) ∈ tellN := by decide +kernel
theorem tl5 : ("Taken" : Str) ∈ tellN := by decide +kernel
theorem nm_ok {l : List Nat} (h : 1 ≤ l.length ∧ l.length ≤ 6 ∧ l.all isL = true) : nameB (.str (S l)) = true ∧ D.fits (.str (S l)) = true := by
  refine ⟨?_, decide_eq_true (show (S l).length ≤ lim from le_lim (by rw [S_len]; omega))⟩
  show nameL l = true
  unfold nameL
  rw [decide_eq_true h.1, decide_eq_true h.2.1, h.2.2]; rfl
/-- three names -/
structure Nm (z0 z1 z2 : Str) : Prop where
  n0 : nameB (.str z0) = true ∧ D.fits (.str z0) = true
  n1 : nameB (.str z1) = true ∧ D.fits (.str z1) = true
  n2 : nameB (.str z2) = true ∧ D.fits (.str z2) = true
  e10 : z1 ≠ z0
  e20 : z2 ≠ z0
  e21 : z2 ≠ z1
def h1 (z0 : Str) : HS := HS.new.opn (.str z0) .non (.int 0) (.int 24) (.str "join")
def h2 (z0 z1 : Str) : HS := (h1 z0).opn (.str z1) (.str z0) (.int 0) (.int 24) (.str "push")
theorem r_join : ruleB (.str "join") = true := by decide +kernel
theorem r_push : ruleB (.str "push") = true := by decide +kernel
theorem r_x : ruleB (.str "x") = false := by decide +kernel
theorem sp24 : spanB (.int 0) (.int 24) = true := by decide
section
variable {z0 z1 z2 : Str}
theorem hk2 (z : Str) : hasK (h2 z0 z1).sk (.str z) = decide (z ∈ [z0, z1]) := hasK_map (zs := [z0, z1])
theorem hk1 (z : Str) : hasK (h1 z0).sk (.str z) = decide (z ∈ [z0]) := hasK_map (zs := [z0])
def oR (h : HS) (d u a b m : D) : Option Str → R Sl
  | some e => .exc ⟨e, []⟩ [h.ob]
  | none => .ok (.val (.int (h.ranks.length + 1 : Nat))) [(h.opn d u a b m).ob]
@[simp] theorem oR_some (h : HS) (d u a b m : D) (e : Str) : oR h d u a b m (some e) = .exc ⟨e, []⟩ [h.ob] := id rfl
@[simp] theorem oR_none (h : HS) (d u a b m : D) : oR h d u a b m none = .ok (.val (.int (h.ranks.length + 1 : Nat))) [(h.opn d u a b m).ob] := id rfl
theorem op {h : HS} (hl : h.sk.length = h.sv.length) (hs : h.sk.length < 10) (hd : h.done.length < 10) (hr : h.ranks.length < 10) {d u a b m : D} (dp : d.pl = true) (df : d.fits = true) (up : u.pl = true) (uf : u.fits = true) (ap : a.pl = true) (bp : b.pl = true) (mp : m.pl = true) {o : Option Str} (e : openE h d u a b m = o) :
    callN Γ 24 "House.open_station" false [.ins 0, d, u, a, b, m] [h.ob] = oR h d u a b m o := by
  rw [open_run mO (ob0 h) hl (by omega) (by omega) (by omega) dp df up uf ap bp mp 21, e]
  cases o <;> rfl
/-- the defaults -/
theorem o2 (I : Is) (d : D) : callN Γ 24 "House.open_station" false [.ins 0, d] I = callN Γ 24 "House.open_station" false [.ins 0, d, .non, .int 0, .int 24, .str "join"] I := by
  rw [call_body mO.opn, call_body mO.opn]; rfl
theorem o5 (I : Is) (d u a b : D) : callN Γ 24 "House.open_station" false [.ins 0, d, u, a, b] I = callN Γ 24 "House.open_station" false [.ins 0, d, u, a, b, .str "join"] I := by
  rw [call_body mO.opn, call_body mO.opn]; rfl
/-- what no name is -/
structure No (x : D) : Prop where
  hp : x.pl = true
  hf : x.fits = true
  hb : nameB x = false
  hr : ruleB x = false
theorem noF (x : D) (h : No x) : stB (h2 z0 z1) x = false := by unfold stB; rw [h.hb]; rfl
theorem body0 {sc : D} (N : Nm z0 z1 z2) {s6 : Sl} {x : D} (hx : No x) : ∃ v, loopB Γ.cn (callN Γ 24) b0_law false [.val sc, .val (.str z0), .val (.str z1), .val (.str z2), .val (.ins 0), .val x, s6] [(h2 z0 z1).ob] = .nx [.val sc, .val (.str z0), .val (.str z1), .val (.str z2), .val (.ins 0), .val x, v] [(h2 z0 z1).ob] := by
  obtain ⟨hp, hf, hb, hr⟩ := hx
  have nfO : noFld [(h2 z0 z1).ob] 0 "open_station" = true := no_at (ob0 _) rfl
  have nfS : noFld [(h2 z0 z1).ob] 0 "station" = true := no_at (ob0 _) rfl
  have nfL : noFld [(h2 z0 z1).ob] 0 "line" = true := no_at (ob0 _) rfl
  have nfB : noFld [(h2 z0 z1).ob] 0 "beneath" = true := no_at (ob0 _) rfl
  have la : (2 : Nat) ≤ lim := by decide
  have stb : stB (h2 z0 z1) x = false := by unfold stB; rw [hb]; rfl
  have k2 : hasK (h2 z0 z1).sk (.str z2) = false := by rw [hk2]; simp [N.e20, N.e21]
  have st0 : stB (h2 z0 z1) (.str z0) = true := by unfold stB; rw [N.n0.1, hk2]; simp
  have sp93 : spanB (.int 9) (.int 3) = false := by decide
  have a1 := op (h := h2 z0 z1) rfl (by show 2 < 10; decide) (by show 2 < 10; decide) (by show 2 < 10; decide) (d := x) (u := x) (a := .int 9) (b := .int 3) (m := x) hp hf hp hf rfl rfl hp (o := some "NoName") (by simp [openE, hb])
  have a3 := op (h := h2 z0 z1) rfl (by show 2 < 10; decide) (by show 2 < 10; decide) (by show 2 < 10; decide) (d := .str z2) (u := .str z0) (a := .int 0) (b := .int 24) (m := x) rfl N.n2.2 rfl N.n0.2 rfl rfl hp (o := some "NoRule") (by simp [openE, N.n2.1, k2, st0, sp24, hr])
  have a4 := fun ro => station_run mNm mO.look stationG (ob0 (h2 z0 z1)) rfl hp hf 21 ro
  have sR : stationR (h2 z0 z1) [(h2 z0 z1).ob] x = .exc ⟨"NoStation", []⟩ [(h2 z0 z1).ob] := by unfold stationR; rw [stb]; rfl
  rw [sR] at a4
  have a5 : ∀ ro, callN Γ 24 "House.line" ro [.ins 0, x] [(h2 z0 z1).ob] = _ := fun ro => look_first (np := 0) mNm mO.look (Γ := Γ) (x := "House.line") rfl (ob0 (h2 z0 z1)) rfl hp hf stb 21 ro
  have a6 : ∀ ro, callN Γ 24 "House.beneath" ro [.ins 0, x] [(h2 z0 z1).ob] = _ := fun ro => look_first (np := 0) mNm mO.look (Γ := Γ) (x := "House.beneath") rfl (ob0 (h2 z0 z1)) rfl hp hf stb 21 ro
  have ki : ∀ I, kIsn true (x, .fro) I = .ok (.bl (!isNonD x), .fro) I := fun I => by cases x <;> first | (cases hp; done) | rfl
  rw [loop_def]
  cases e : isNonD x with
  | true =>
    have a2 := op (h := h2 z0 z1) rfl (by show 2 < 10; decide) (by show 2 < 10; decide) (by show 2 < 10; decide) (d := .str z2) (u := x) (a := .int 9) (b := .int 3) (m := .str "join") rfl N.n2.2 hp hf rfl rfl rfl (o := some "NoHour") (by simp [openE, N.n2.1, k2, e, sp93])
    have a2' := o5 [(h2 z0 z1).ob] (.str z2) x (.int 9) (.int 3)
    rw [a2] at a2'
    exact ⟨.val (.tup [.str "refused", .str "NoHour"]), by simp [b0_law, callD_frz, kMeth_ins nfO, kMeth_ins nfS, kMeth_ins nfL, kMeth_ins nfB, kMethK_ins nfO, kPm_ok, a1, a2', a3, a4, a5, a6, ki, e, la, tell_exc, tl1, tl2, tl3, tl4, cmp_ne_self]⟩
  | false =>
    have a2 := op (h := h2 z0 z1) rfl (by show 2 < 10; decide) (by show 2 < 10; decide) (by show 2 < 10; decide) (d := .str z2) (u := x) (a := .int 9) (b := .int 3) (m := .str "join") rfl N.n2.2 hp hf rfl rfl rfl (o := some "NoStation") (by simp [openE, N.n2.1, k2, e, stb])
    have a2' := o5 [(h2 z0 z1).ob] (.str z2) x (.int 9) (.int 3)
    rw [a2] at a2'
    exact ⟨.val (.tup [.str "refused", .str "NoStation"]), by simp [b0_law, callD_frz, kMeth_ins nfO, kMeth_ins nfS, kMeth_ins nfL, kMeth_ins nfB, kMethK_ins nfO, kPm_ok, a1, a2', a3, a4, a5, a6, ki, e, la, tell_exc, tl1, tl2, tl3, tl4, cmp_ne_self]⟩
theorem body1 {sc : D} (N : Nm z0 z1 z2) {s6 : Sl} {x : D} (hp : x.pl = true) (hs : spanB x (.int 24) = false) : loopB Γ.cn (callN Γ 24) b1_law false [.val sc, .val (.str z0), .val (.str z1), .val (.str z2), .val (.ins 0), .val x, s6] [(h2 z0 z1).ob] = .nx [.val sc, .val (.str z0), .val (.str z1), .val (.str z2), .val (.ins 0), .val x, s6] [(h2 z0 z1).ob] := by
  have nfO : noFld [(h2 z0 z1).ob] 0 "open_station" = true := no_at (ob0 _) rfl
  have la : (2 : Nat) ≤ lim := by decide
  have k2 : hasK (h2 z0 z1).sk (.str z2) = false := by rw [hk2]; simp [N.e20, N.e21]
  have a1 := op (h := h2 z0 z1) rfl (by show 2 < 10; decide) (by show 2 < 10; decide) (by show 2 < 10; decide) (d := .str z2) (u := .non) (a := x) (b := .int 24) (m := .str "x") rfl N.n2.2 rfl rfl hp rfl rfl (o := some "NoHour") (by simp [openE, N.n2.1, k2, isNonD, hs])
  rw [loop_def]
  simp [b1_law, callD_frz, kMeth_ins nfO, a1, la, tell_exc, tl4, cmp_ne_self]
theorem body2 {sc : D} (N : Nm z0 z1 z2) {s6 : Sl} {x : D} (hp : x.pl = true) (hs : spanB (.int 0) x = false) : loopB Γ.cn (callN Γ 24) b2_law false [.val sc, .val (.str z0), .val (.str z1), .val (.str z2), .val (.ins 0), .val x, s6] [(h2 z0 z1).ob] = .nx [.val sc, .val (.str z0), .val (.str z1), .val (.str z2), .val (.ins 0), .val x, s6] [(h2 z0 z1).ob] := by
  have nfO : noFld [(h2 z0 z1).ob] 0 "open_station" = true := no_at (ob0 _) rfl
  have la : (2 : Nat) ≤ lim := by decide
  have k2 : hasK (h2 z0 z1).sk (.str z2) = false := by rw [hk2]; simp [N.e20, N.e21]
  have a1 := op (h := h2 z0 z1) rfl (by show 2 < 10; decide) (by show 2 < 10; decide) (by show 2 < 10; decide) (d := .str z2) (u := .non) (a := .int 0) (b := x) (m := .str "join") rfl N.n2.2 rfl rfl rfl hp rfl (o := some "NoHour") (by simp [openE, N.n2.1, k2, isNonD, hs])
  rw [loop_def]
  simp [b2_law, callD_frz, kMethK_ins nfO, kPm_ok, a1, la, tell_exc, tl4, cmp_ne_self]
def Pf (sc : D) (z0 z1 z2 : Str) (fr : Fr) : Prop := ∃ (s5 s6 : Sl), fr = [.val sc, .val (.str z0), .val (.str z1), .val (.str z2), .val (.ins 0), s5, s6]
theorem loop0 {sc : D} (N : Nm z0 z1 z2) {xs : List D} (hx : ∀ x ∈ xs, No x) {fr : Fr} (hp : Pf sc z0 z1 z2 fr) : ∃ fr', forL (loopB Γ.cn (callN Γ 24) b0_law false) (.nm 5) xs fr [(h2 z0 z1).ob] = .nx fr' [(h2 z0 z1).ob] ∧ Pf sc z0 z1 z2 fr' := by
  refine loop_all (Pf sc z0 z1 z2) (fun x hm fr hp => ?_) hp
  obtain ⟨s5, s6, rfl⟩ := hp
  obtain ⟨v, hv⟩ := body0 (sc := sc) N (s6 := s6) (hx x hm)
  exact ⟨_, _, rfl, .inl hv, ⟨_, _, rfl⟩⟩
theorem loop1 {sc : D} (N : Nm z0 z1 z2) {xs : List D} (hx : ∀ x ∈ xs, x.pl = true ∧ spanB x (.int 24) = false) {fr : Fr} (hp : Pf sc z0 z1 z2 fr) : ∃ fr', forL (loopB Γ.cn (callN Γ 24) b1_law false) (.nm 5) xs fr [(h2 z0 z1).ob] = .nx fr' [(h2 z0 z1).ob] ∧ Pf sc z0 z1 z2 fr' := by
  refine loop_all (Pf sc z0 z1 z2) (fun x hm fr hp => ?_) hp
  obtain ⟨s5, s6, rfl⟩ := hp
  exact ⟨_, _, rfl, .inl (body1 N (hx x hm).1 (hx x hm).2), ⟨_, _, rfl⟩⟩
theorem loop2 {sc : D} (N : Nm z0 z1 z2) {xs : List D} (hx : ∀ x ∈ xs, x.pl = true ∧ spanB (.int 0) x = false) {fr : Fr} (hp : Pf sc z0 z1 z2 fr) : ∃ fr', forL (loopB Γ.cn (callN Γ 24) b2_law false) (.nm 5) xs fr [(h2 z0 z1).ob] = .nx fr' [(h2 z0 z1).ob] ∧ Pf sc z0 z1 z2 fr' := by
  refine loop_all (Pf sc z0 z1 z2) (fun x hm fr hp => ?_) hp
  obtain ⟨s5, s6, rfl⟩ := hp
  exact ⟨_, _, rfl, .inl (body2 N (hx x hm).1 (hx x hm).2), ⟨_, _, rfl⟩⟩
def W0 : List D := [.str "", .str "abcdefg", .str "A", .str "a b", .str "a1", .non, .int 0, .bl true, .lst [.str "a"], .tup [.str "a"], .tup [], .str "a\n", .lst [.lst [.lst [.str "a"]]]]
def W1 : List D := [.int (-1), .int 25, .non, .bl true, .str "0", .lst [.int 0], .tup [.int 0], .int 24]
def W2 : List D := [.int 0, .int 25, .non, .bl true, .str "24", .lst [.int 24]]
theorem w0 : ∀ x ∈ W0, No x := by
  intro x hx
  simp only [W0, List.mem_cons, List.not_mem_nil, or_false] at hx
  rcases hx with rfl | rfl | rfl | rfl | rfl | rfl | rfl | rfl | rfl | rfl | rfl | rfl | rfl <;> exact ⟨by decide +kernel, by decide +kernel, by decide +kernel, by decide +kernel⟩
theorem w1 : ∀ x ∈ W1, x.pl = true ∧ spanB x (.int 24) = false := by
  intro x hx
  simp only [W1, List.mem_cons, List.not_mem_nil, or_false] at hx
  rcases hx with rfl | rfl | rfl | rfl | rfl | rfl | rfl | rfl <;> exact ⟨by decide +kernel, by decide +kernel⟩
theorem w2 : ∀ x ∈ W2, x.pl = true ∧ spanB (.int 0) x = false := by
  intro x hx
  simp only [W2, List.mem_cons, List.not_mem_nil, or_false] at hx
  rcases hx with rfl | rfl | rfl | rfl | rfl | rfl <;> exact ⟨by decide +kernel, by decide +kernel⟩
end
theorem plain (ns : List Int) (hl : ns.length ≤ 63) : ∃ J, bodyN Γ 24 d_law false [.scr ns] [] = .ok (.val (.bl true)) J := by
  have k0 := nmL_ok ns 0 (0 : Nat)
  have k1 := nmL_ok ns 0 (1 : Nat)
  have k2 := nmL_ok ns 0 (2 : Nat)
  have ne : ∀ {i j : Nat}, i < 26 → j < 26 → i ≠ j → S (nmL ns 0 i) ≠ S (nmL ns 0 j) := fun hi hj h e => h (nmL_inj hi hj (S_inj e))
  have hW : nmsL ns 0 3 = [nmL ns 0 (0 : Nat), nmL ns 0 (1 : Nat), nmL ns 0 (2 : Nat)] := rfl
  have hN0 := fun ro I => names_run pickG namesG (ns := ns) (at_ := 0) (m := 3) hl (by omega) (by omega) 22 ro I
  rw [hW] at hN0
  have N : Nm (S (nmL ns 0 (0 : Nat))) (S (nmL ns 0 (1 : Nat))) (S (nmL ns 0 (2 : Nat))) := ⟨nm_ok k0, nm_ok k1, nm_ok k2, ne (by decide) (by decide) (by decide), ne (by decide) (by decide) (by decide), ne (by decide) (by decide) (by decide)⟩
  simp only [List.map_cons, List.map_nil] at hN0
  generalize S (nmL ns 0 (0 : Nat)) = z0 at *
  generalize S (nmL ns 0 (1 : Nat)) = z1 at *
  generalize S (nmL ns 0 (2 : Nat)) = z2 at *
  have hN1 : ∀ ro I, callN Γ 24 "_law_names" ro [.scr ns, .int 0, .int 3] I = .ok (.lst [.str z0, .str z1, .str z2]) I := hN0
  have la1 : (1 : Nat) ≤ lim := by decide
  have la2 : (2 : Nat) ≤ lim := by decide
  have la4 : (4 : Nat) ≤ lim := by decide
  have nn : HS.new.ranks.length = 0 := rfl
  -- the first station
  have o1 := op (h := HS.new) rfl (by show 0 < 10; decide) (by show 0 < 10; decide) (by show 0 < 10; decide) (d := .str z0) (u := .non) (a := .int 0) (b := .int 24) (m := .str "join") rfl N.n0.2 rfl rfl rfl rfl rfl (o := none) (by
    have hk : hasK HS.new.sk (.str z0) = false := rfl
    simp [openE, N.n0.1, r_join, sp24, hk, isNonD, nn])
  have o1' : callN Γ 24 "House.open_station" false [.ins 0, .str z0] [HS.new.ob] = .ok (.val (.int 1)) [(h1 z0).ob] := by rw [o2, o1]; rfl
  have s1 := fun ro => station_run mNm mO.look stationG (ob0 (h1 z0)) rfl (d := .str z0) rfl N.n0.2 21 ro
  have s1r : stationR (h1 z0) [(h1 z0).ob] (.str z0) = .ok (.val (.tup [.non, .int 0, .int 24, .str "join"])) [(h1 z0).ob] := by
    have st : stB (h1 z0) (.str z0) = true := by unfold stB; rw [N.n0.1, hk1]; simp
    have g : getV (h1 z0).sk (h1 z0).sv (Sum.inr z0) = some (.tup [.non, .int 0, .int 24, .str "join"]) := by
      show (bif decide ((Sum.inr z0 : Ky) = Sum.inr z0) then some (D.tup [.non, .int 0, .int 24, .str "join"]) else _) = _
      rw [decide_eq_true rfl]; rfl
    unfold stationR
    rw [st]
    simp only [cond_true, g]
  rw [s1r] at s1
  -- the second
  have o3 := op (h := h1 z0) rfl (by show 1 < 10; decide) (by show 1 < 10; decide) (by show 1 < 10; decide) (d := .str z1) (u := .str z0) (a := .int 0) (b := .int 24) (m := .str "push") rfl N.n1.2 rfl N.n0.2 rfl rfl rfl (o := none) (by
    have hk : hasK (h1 z0).sk (.str z1) = false := by rw [hk1]; simp [N.e10]
    have st : stB (h1 z0) (.str z0) = true := by unfold stB; rw [N.n0.1, hk1]; simp
    have n1 : (h1 z0).ranks.length = 1 := rfl
    simp [openE, N.n1.1, r_push, sp24, hk, isNonD, st, n1])
  have o3' : callN Γ 24 "House.open_station" false [.ins 0, .str z1, .str z0, .int 0, .int 24, .str "push"] [(h1 z0).ob] = .ok (.val (.int 2)) [(h2 z0 z1).ob] := by rw [o3]; rfl
  have s2 := fun ro => station_run mNm mO.look stationG (ob0 (h2 z0 z1)) rfl (d := .str z1) rfl N.n1.2 21 ro
  have s2r : stationR (h2 z0 z1) [(h2 z0 z1).ob] (.str z1) = .ok (.val (.tup [.str z0, .int 0, .int 24, .str "push"])) [(h2 z0 z1).ob] := by
    have st : stB (h2 z0 z1) (.str z1) = true := by unfold stB; rw [N.n1.1, hk2]; simp
    have g : getV (h2 z0 z1).sk (h2 z0 z1).sv (Sum.inr z1) = some (.tup [.str z0, .int 0, .int 24, .str "push"]) := by
      show (bif decide ((Sum.inr z0 : Ky) = Sum.inr z1) then _ else bif decide ((Sum.inr z1 : Ky) = Sum.inr z1) then some (D.tup [.str z0, .int 0, .int 24, .str "push"]) else _) = _
      rw [decide_eq_false (fun e => N.e10 (Sum.inr.inj e).symm), decide_eq_true rfl]; rfl
    unfold stationR
    rw [st]
    simp only [cond_true, g]
  rw [s2r] at s2
  -- the walks
  obtain ⟨f0, L0, P0⟩ := loop0 (sc := .scr ns) N w0 (fr := [.val (.scr ns), .val (.str z0), .val (.str z1), .val (.str z2), .val (.ins 0), .no, .no]) ⟨_, _, rfl⟩
  obtain ⟨f1, L1, P1⟩ := loop1 (sc := .scr ns) N w1 P0
  obtain ⟨f2, L2, P2⟩ := loop2 (sc := .scr ns) N w2 P1
  obtain ⟨t5, t6, rfl⟩ := P2
  unfold W0 at L0
  unfold W1 at L1
  unfold W2 at L2
  have q0 : ∀ ro I, callN Γ 24 "_law_no_names" ro [] I = .ok (.lst W0) I := fun ro I => by
    rw [call_body (fd := d__law_no_names) rfl]
    have la0 : (0 : Nat) ≤ lim := Nat.zero_le _
    have la13 : (13 : Nat) ≤ lim := by decide
    simp [d__law_no_names, m__law_no_names, fillD, la0, la1, la13]
    rfl
  unfold W0 at q0
  -- what comes then
  have kz1 : hasK (h2 z0 z1).sk (.str z1) = true := by rw [hk2]; simp
  have kz2 : hasK (h2 z0 z1).sk (.str z2) = false := by rw [hk2]; simp [N.e20, N.e21]
  have st2 : stB (h2 z0 z1) (.str z2) = false := by unfold stB; rw [N.n2.1, kz2]; rfl
  have st1 : stB (h2 z0 z1) (.str z1) = true := by unfold stB; rw [N.n1.1, kz1]; rfl
  have n2 : (h2 z0 z1).ranks.length = 2 := rfl
  have sp34 : spanB (.int 3) (.int 4) = true := by decide
  have a1 := op (h := h2 z0 z1) rfl (by show 2 < 10; decide) (by show 2 < 10; decide) (by show 2 < 10; decide) (d := .str z1) (u := .str z2) (a := .int 9) (b := .int 3) (m := .str "join") rfl N.n1.2 rfl N.n2.2 rfl rfl rfl (o := some "Taken") (by simp [openE, N.n1.1, kz1])
  have a1' := o5 [(h2 z0 z1).ob] (.str z1) (.str z2) (.int 9) (.int 3)
  rw [a1] at a1'
  have a2 := op (h := h2 z0 z1) rfl (by show 2 < 10; decide) (by show 2 < 10; decide) (by show 2 < 10; decide) (d := .str z2) (u := .str z2) (a := .int 9) (b := .int 3) (m := .str "join") rfl N.n2.2 rfl N.n2.2 rfl rfl rfl (o := some "NoStation") (by simp [openE, N.n2.1, kz2, st2, isNonD])
  have a2' := o5 [(h2 z0 z1).ob] (.str z2) (.str z2) (.int 9) (.int 3)
  rw [a2] at a2'
  have a3 := op (h := h2 z0 z1) rfl (by show 2 < 10; decide) (by show 2 < 10; decide) (by show 2 < 10; decide) (d := .str z2) (u := .str z1) (a := .int 3) (b := .int 4) (m := .str "join") rfl N.n2.2 rfl N.n1.2 rfl rfl rfl (o := none) (by simp [openE, N.n2.1, kz2, st1, sp34, r_join, n2])
  have a3' := o5 [(h2 z0 z1).ob] (.str z2) (.str z1) (.int 3) (.int 4)
  rw [a3] at a3'
  have a6 : ∀ ro, callN Γ 24 "House.beneath" ro [.ins 0, .str z2] [(h2 z0 z1).ob] = _ := fun ro => look_first (np := 0) mNm mO.look (Γ := Γ) (x := "House.beneath") rfl (ob0 (h2 z0 z1)) rfl (d := .str z2) rfl N.n2.2 st2 21 ro
  have dd := fun ro => deeds_run deedsG (ob0 (h2 z0 z1)) 23 ro
  have dn : (h2 z0 z1).done = [.tup [.str "open", .str z0, .non, .int 0, .int 24, .str "join"], .tup [.str "open", .str z1, .str z0, .int 0, .int 24, .str "push"]] := rfl
  rw [dn] at dd
  have rk : (h2 z0 z1).ranks = [.str z0, .str z1] := rfl
  have ss := fun ro => stations_run stationsG (ob0 (h2 z0 z1)) 23 ro
  rw [rk] at ss
  have cut : ∀ (x y : D) kd I, slcD (.lst [x, y]) kd (some 1) none I = .ok (.lst [y], .new) I := fun _ _ _ _ => rfl
  have eqN : ∀ I, cmpD .eq (.lst [.tup [.str "open", .str z1, .str z0, .int 0, .int 24, .str "push"]]) (.lst []) I = .ok (.bl false, .fro) I := fun I => by
    show (bif D.eqc (.lst [.tup [.str "open", .str z1, .str z0, .int 0, .int 24, .str "push"]]) && D.eqc (.lst []) && decide (min (D.dep (.lst [.tup [.str "open", .str z1, .str z0, .int 0, .int 24, .str "push"]])) (D.dep (.lst [])) ≤ 64) then b2 (D.pyeq (.lst [.tup [.str "open", .str z1, .str z0, .int 0, .int 24, .str "push"]]) (.lst [])) I else .bad) = _
    have e : D.pyeq (.lst [.tup [.str "open", .str z1, .str z0, .int 0, .int 24, .str "push"]]) (.lst []) = false := by
      unfold D.pyeq
      simp [D.py, D.pys, PyData.eqv, PyData.eqvAll]
    rw [e, decide_eq_true (by simp)]
    rfl
  have eqS : ∀ I, cmpD .eq (.lst [.str z0, .str z1]) (.lst [.str z0, .str z1]) I = .ok (.bl true, .fro) I := fun I => eq_strs (fun d hd => by
    simp only [List.mem_cons, List.not_mem_nil, or_false] at hd
    rcases hd with rfl | rfl
    · exact ⟨_, rfl⟩
    · exact ⟨_, rfl⟩)
  have ln : ∀ (xs : List D) (kd : Kd) (I : Is), biD .len [(.lst xs, kd)] I = .ok (.int xs.length, .fro) I := fun _ _ _ => rfl
  have it := init_run (Γ := Γ) rfl 23 []
  simp only [List.nil_append, List.length_nil] at it
  have nfO0 : noFld [HS.new.ob] 0 "open_station" = true := no_at (ob0 _) rfl
  have nfO1 : noFld [(h1 z0).ob] 0 "open_station" = true := no_at (ob0 _) rfl
  have nfS1 : noFld [(h1 z0).ob] 0 "station" = true := no_at (ob0 _) rfl
  have nfO : noFld [(h2 z0 z1).ob] 0 "open_station" = true := no_at (ob0 _) rfl
  have nfS : noFld [(h2 z0 z1).ob] 0 "station" = true := no_at (ob0 _) rfl
  have nfB : noFld [(h2 z0 z1).ob] 0 "beneath" = true := no_at (ob0 _) rfl
  have nfD : noFld [(h2 z0 z1).ob] 0 "deeds" = true := no_at (ob0 _) rfl
  have nfT : noFld [(h2 z0 z1).ob] 0 "stations" = true := no_at (ob0 _) rfl
  refine ⟨[((h2 z0 z1).opn (.str z2) (.str z1) (.int 3) (.int 4) (.str "join")).ob], ?_⟩
  have la0 : (0 : Nat) ≤ lim := Nat.zero_le _
  have la6 : (6 : Nat) ≤ lim := by decide
  have la8 : (8 : Nat) ≤ lim := by decide
  have as3 : asgT (.tp [1, 2, 3]) (.lst [.str z0, .str z1, .str z2]) [.val (.scr ns), .no, .no, .no, .no, .no, .no] = some [.val (.scr ns), .val (.str z0), .val (.str z1), .val (.str z2), .no, .no, .no] := rfl
  rw [body_def]
  simp [as3, d_law, m_law, callD_frz, hN1, it, la0, la1, la2, la4, la6, la8, stoAll, Sl.inn, stoK, kMeth_ins nfO0, kMeth_ins nfO1, kMethK_ins nfO1, kMeth_ins nfS1, kMeth_ins nfS, kPm_ok, o1', o3', s1, s2, cmp_ne_self, q0, L0, L1, L2, itD, kMeth_ins nfO, kMeth_ins nfB, kMeth_ins nfD, kMeth_ins nfT, a1', a2', a3', a6, dd, ss, cut, eqN, eqS, ln, tell_exc, tl2, tl5, n2]
end K11
namespace K11
open PySem PySem.Spec PyProof.Rows L2 Air
theorem kn_cst (x : Str) (h : kn x = some (0, 1)) : x ∈ (["HOURS", "LETTERS", "LONGEST_NAME", "MOST_STATIONS", "RULES"] : List Str) := by
  have m := lookup_mem (show knT.lookup x = some (0, 1) from h)
  simp only [knT, List.mem_cons, List.not_mem_nil, or_false, Prod.mk.injEq] at m
  simp only [List.mem_cons, List.not_mem_nil, or_false]
  rcases m with ⟨rfl, h1, h2⟩ | ⟨rfl, h1, h2⟩ | ⟨rfl, h1, h2⟩ | ⟨rfl, h1, h2⟩ | ⟨rfl, h1, h2⟩ | ⟨rfl, h1, h2⟩ | ⟨rfl, h1, h2⟩ | ⟨rfl, h1, h2⟩ | ⟨rfl, h1, h2⟩ | ⟨rfl, h1, h2⟩ | ⟨rfl, h1, h2⟩ | ⟨rfl, h1, h2⟩ | ⟨rfl, h1, h2⟩ | ⟨rfl, h1, h2⟩ | ⟨rfl, h1, h2⟩ | ⟨rfl, h1, h2⟩ | ⟨rfl, h1, h2⟩ | ⟨rfl, h1, h2⟩ | ⟨rfl, h1, h2⟩ | ⟨rfl, h1, h2⟩ | ⟨rfl, h1, h2⟩ | ⟨rfl, h1, h2⟩ | ⟨rfl, h1, h2⟩ | ⟨rfl, h1, h2⟩ | ⟨rfl, h1, h2⟩ | ⟨rfl, h1, h2⟩ | ⟨rfl, h1, h2⟩ | ⟨rfl, h1, h2⟩ | ⟨rfl, h1, h2⟩ | ⟨rfl, h1, h2⟩ | ⟨rfl, h1, h2⟩ | ⟨rfl, h1, h2⟩ | ⟨rfl, h1, h2⟩ | ⟨rfl, h1, h2⟩ | ⟨rfl, h1, h2⟩ | ⟨rfl, h1, h2⟩ | ⟨rfl, h1, h2⟩ <;> first | (cases h1; done) | (cases h2; done) | simp
def xcT : List Str := ["NoName", "NoHour", "NoStation", "NoRule", "Full", "Taken"]
theorem kn_xc (x : Str) (h : kn x = some (0, 3)) : x ∈ xcT := by
  have m := lookup_mem (show knT.lookup x = some (0, 3) from h)
  simp only [knT, List.mem_cons, List.not_mem_nil, or_false, Prod.mk.injEq] at m
  simp only [xcT, List.mem_cons, List.not_mem_nil, or_false]
  rcases m with ⟨rfl, h1, h2⟩ | ⟨rfl, h1, h2⟩ | ⟨rfl, h1, h2⟩ | ⟨rfl, h1, h2⟩ | ⟨rfl, h1, h2⟩ | ⟨rfl, h1, h2⟩ | ⟨rfl, h1, h2⟩ | ⟨rfl, h1, h2⟩ | ⟨rfl, h1, h2⟩ | ⟨rfl, h1, h2⟩ | ⟨rfl, h1, h2⟩ | ⟨rfl, h1, h2⟩ | ⟨rfl, h1, h2⟩ | ⟨rfl, h1, h2⟩ | ⟨rfl, h1, h2⟩ | ⟨rfl, h1, h2⟩ | ⟨rfl, h1, h2⟩ | ⟨rfl, h1, h2⟩ | ⟨rfl, h1, h2⟩ | ⟨rfl, h1, h2⟩ | ⟨rfl, h1, h2⟩ | ⟨rfl, h1, h2⟩ | ⟨rfl, h1, h2⟩ | ⟨rfl, h1, h2⟩ | ⟨rfl, h1, h2⟩ | ⟨rfl, h1, h2⟩ | ⟨rfl, h1, h2⟩ | ⟨rfl, h1, h2⟩ | ⟨rfl, h1, h2⟩ | ⟨rfl, h1, h2⟩ | ⟨rfl, h1, h2⟩ | ⟨rfl, h1, h2⟩ | ⟨rfl, h1, h2⟩ | ⟨rfl, h1, h2⟩ | ⟨rfl, h1, h2⟩ | ⟨rfl, h1, h2⟩ | ⟨rfl, h1, h2⟩ <;> first | (cases h1; done) | (cases h2; done) | simp
def fldT : List Str := ["House:cuts", "House:done", "House:known", "House:many", "House:plans", "House:ranks", "House:seats", "House:weeks"]
theorem kn_fld (x : Str) (h : kn x = some (0, 5)) : x ∈ fldT := by
  have m := lookup_mem (show knT.lookup x = some (0, 5) from h)
  simp only [knT, List.mem_cons, List.not_mem_nil, or_false, Prod.mk.injEq] at m
  simp only [fldT, List.mem_cons, List.not_mem_nil, or_false]
  rcases m with ⟨rfl, h1, h2⟩ | ⟨rfl, h1, h2⟩ | ⟨rfl, h1, h2⟩ | ⟨rfl, h1, h2⟩ | ⟨rfl, h1, h2⟩ | ⟨rfl, h1, h2⟩ | ⟨rfl, h1, h2⟩ | ⟨rfl, h1, h2⟩ | ⟨rfl, h1, h2⟩ | ⟨rfl, h1, h2⟩ | ⟨rfl, h1, h2⟩ | ⟨rfl, h1, h2⟩ | ⟨rfl, h1, h2⟩ | ⟨rfl, h1, h2⟩ | ⟨rfl, h1, h2⟩ | ⟨rfl, h1, h2⟩ | ⟨rfl, h1, h2⟩ | ⟨rfl, h1, h2⟩ | ⟨rfl, h1, h2⟩ | ⟨rfl, h1, h2⟩ | ⟨rfl, h1, h2⟩ | ⟨rfl, h1, h2⟩ | ⟨rfl, h1, h2⟩ | ⟨rfl, h1, h2⟩ | ⟨rfl, h1, h2⟩ | ⟨rfl, h1, h2⟩ | ⟨rfl, h1, h2⟩ | ⟨rfl, h1, h2⟩ | ⟨rfl, h1, h2⟩ | ⟨rfl, h1, h2⟩ | ⟨rfl, h1, h2⟩ | ⟨rfl, h1, h2⟩ | ⟨rfl, h1, h2⟩ | ⟨rfl, h1, h2⟩ | ⟨rfl, h1, h2⟩ | ⟨rfl, h1, h2⟩ | ⟨rfl, h1, h2⟩ <;> first | (cases h1; done) | (cases h2; done) | simp
theorem kn_def (x : Str) (np nd : Nat) (h : kn x = some (np, nd)) (hd : nd ≤ np) : (x = "law" ∧ np = 1 ∧ nd = 0) ∨ (x = "_law_names" ∧ np = 3 ∧ nd = 0) ∨ (x = "House.__init__" ∧ np = 1 ∧ nd = 0) ∨ (x = "House.open_station" ∧ np = 6 ∧ nd = 4) ∨ (x = "House.station" ∧ np = 2 ∧ nd = 0) ∨ (x = "_law_no_names" ∧ np = 0 ∧ nd = 0) ∨ (x = "House.line" ∧ np = 2 ∧ nd = 0) ∨ (x = "House.beneath" ∧ np = 2 ∧ nd = 0) ∨ (x = "House.deeds" ∧ np = 1 ∧ nd = 0) ∨ (x = "House.stations" ∧ np = 1 ∧ nd = 0) ∨ (x = "_law_pick" ∧ np = 3 ∧ nd = 0) ∨ (x = "is_name" ∧ np = 1 ∧ nd = 0) ∨ (x = "House.look_station" ∧ np = 2 ∧ nd = 0) ∨ (x = "look_span" ∧ np = 4 ∧ nd = 0) ∨ (x = "is_number" ∧ np = 3 ∧ nd = 0) := by
  have m := lookup_mem (show knT.lookup x = some (np, nd) from h)
  simp only [knT, List.mem_cons, List.not_mem_nil, or_false, Prod.mk.injEq] at m
  rcases m with ⟨rfl, rfl, rfl⟩ | ⟨rfl, rfl, rfl⟩ | ⟨rfl, rfl, rfl⟩ | ⟨rfl, rfl, rfl⟩ | ⟨rfl, rfl, rfl⟩ | ⟨rfl, rfl, rfl⟩ | ⟨rfl, rfl, rfl⟩ | ⟨rfl, rfl, rfl⟩ | ⟨rfl, rfl, rfl⟩ | ⟨rfl, rfl, rfl⟩ | ⟨rfl, rfl, rfl⟩ | ⟨rfl, rfl, rfl⟩ | ⟨rfl, rfl, rfl⟩ | ⟨rfl, rfl, rfl⟩ | ⟨rfl, rfl, rfl⟩ | ⟨rfl, rfl, rfl⟩ | ⟨rfl, rfl, rfl⟩ | ⟨rfl, rfl, rfl⟩ | ⟨rfl, rfl, rfl⟩ | ⟨rfl, rfl, rfl⟩ | ⟨rfl, rfl, rfl⟩ | ⟨rfl, rfl, rfl⟩ | ⟨rfl, rfl, rfl⟩ | ⟨rfl, rfl, rfl⟩ | ⟨rfl, rfl, rfl⟩ | ⟨rfl, rfl, rfl⟩ | ⟨rfl, rfl, rfl⟩ | ⟨rfl, rfl, rfl⟩ | ⟨rfl, rfl, rfl⟩ | ⟨rfl, rfl, rfl⟩ | ⟨rfl, rfl, rfl⟩ | ⟨rfl, rfl, rfl⟩ | ⟨rfl, rfl, rfl⟩ | ⟨rfl, rfl, rfl⟩ | ⟨rfl, rfl, rfl⟩ | ⟨rfl, rfl, rfl⟩ | ⟨rfl, rfl, rfl⟩ <;> first | (exact absurd hd (by decide)) | simp
def top (i : Nat) : Stmt := PySem.Challenge.pw_airhours_k11_stations_refused.main.body.getD i (.Pass ⟨0, 0, 0, 0⟩)
def mt (i : Nat) : Stmt := (clsB (top 40)).getD i (.Pass ⟨0, 0, 0, 0⟩)
def N_law : List Str := ["_law_script", "_law_one", "_law_other", "_law_third", "_law_house", "_law_thing", "_law_told_here"]
def p_law : List Str := ["_law_script"]
def D_law : He.DefD := ⟨("law", none), "law", "law", defArgs (top 47), defBody (top 47), defScope (top 47), [], []⟩
theorem c_law : chkB (knB true kn) kw (fun _ => true) m_law (defScope (top 47)) N_law (defBody (top 47)) = true := by decide +kernel
theorem s_law : FnScope N_law p_law (defScope (top 47)) := ⟨rfl, rfl, rfl, by decide +kernel, by decide +kernel, by decide +kernel, by decide +kernel⟩
def N__law_names : List Str := ["_law_script", "_law_at", "_law_many", "_law_letters", "_law_made", "_law_k", "_law_rest", "_law_j", "_law_mark"]
def p__law_names : List Str := ["_law_script", "_law_at", "_law_many"]
def D__law_names : He.DefD := ⟨("_law_names", none), "_law_names", "_law_names", defArgs (top 43), defBody (top 43), defScope (top 43), [], []⟩
theorem c__law_names : chkB (knB false kn) kw (fun _ => true) m__law_names (defScope (top 43)) N__law_names (defBody (top 43)) = true := by decide +kernel
theorem s__law_names : FnScope N__law_names p__law_names (defScope (top 43)) := ⟨rfl, rfl, rfl, by decide +kernel, by decide +kernel, by decide +kernel, by decide +kernel⟩
def N_House___init__ : List Str := ["self"]
def p_House___init__ : List Str := ["self"]
def D_House___init__ : He.DefD := ⟨("House", some "__init__"), "__init__", "House.__init__", defArgs (mt 0), defBody (mt 0), defScope (mt 0), [], []⟩
theorem c_House___init__ : chkB (knB false kn) kw (fun _ => true) m_House___init__ (defScope (mt 0)) N_House___init__ (defBody (mt 0)) = true := by decide +kernel
theorem s_House___init__ : FnScope N_House___init__ p_House___init__ (defScope (mt 0)) := ⟨rfl, rfl, rfl, by decide +kernel, by decide +kernel, by decide +kernel, by decide +kernel⟩
def N_House_open_station : List Str := ["self", "name", "upper", "opening", "closing", "manner"]
def p_House_open_station : List Str := ["self", "name", "upper", "opening", "closing", "manner"]
def D_House_open_station : He.DefD := ⟨("House", some "open_station"), "open_station", "House.open_station", defArgs (mt 5), defBody (mt 5), defScope (mt 5), [.non, .int 0, .int 24, .str "join"], []⟩
theorem c_House_open_station : chkB (knB false kn) kw (fun _ => true) m_House_open_station (defScope (mt 5)) N_House_open_station (defBody (mt 5)) = true := by decide +kernel
theorem s_House_open_station : FnScope N_House_open_station p_House_open_station (defScope (mt 5)) := ⟨rfl, rfl, rfl, by decide +kernel, by decide +kernel, by decide +kernel, by decide +kernel⟩
def N_House_station : List Str := ["self", "name"]
def p_House_station : List Str := ["self", "name"]
def D_House_station : He.DefD := ⟨("House", some "station"), "station", "House.station", defArgs (mt 8), defBody (mt 8), defScope (mt 8), [], []⟩
theorem c_House_station : chkB (knB false kn) kw (fun _ => true) m_House_station (defScope (mt 8)) N_House_station (defBody (mt 8)) = true := by decide +kernel
theorem s_House_station : FnScope N_House_station p_House_station (defScope (mt 8)) := ⟨rfl, rfl, rfl, by decide +kernel, by decide +kernel, by decide +kernel, by decide +kernel⟩
def N__law_no_names : List Str := []
def p__law_no_names : List Str := []
def D__law_no_names : He.DefD := ⟨("_law_no_names", none), "_law_no_names", "_law_no_names", defArgs (top 46), defBody (top 46), defScope (top 46), [], []⟩
theorem c__law_no_names : chkB (knB false kn) kw (fun _ => true) m__law_no_names (defScope (top 46)) N__law_no_names (defBody (top 46)) = true := by decide +kernel
theorem s__law_no_names : FnScope N__law_no_names p__law_no_names (defScope (top 46)) := ⟨rfl, rfl, rfl, by decide +kernel, by decide +kernel, by decide +kernel, by decide +kernel⟩
def N_House_line : List Str := ["self", "name", "made"]
def p_House_line : List Str := ["self", "name"]
def D_House_line : He.DefD := ⟨("House", some "line"), "line", "House.line", defArgs (mt 9), defBody (mt 9), defScope (mt 9), [], []⟩
theorem c_House_line : chkB (knB false kn) kw (fun _ => true) m_House_line (defScope (mt 9)) N_House_line (defBody (mt 9)) = true := by decide +kernel
theorem s_House_line : FnScope N_House_line p_House_line (defScope (mt 9)) := ⟨rfl, rfl, rfl, by decide +kernel, by decide +kernel, by decide +kernel, by decide +kernel⟩
def N_House_beneath : List Str := ["self", "name", "one"]
def p_House_beneath : List Str := ["self", "name"]
def D_House_beneath : He.DefD := ⟨("House", some "beneath"), "beneath", "House.beneath", defArgs (mt 10), defBody (mt 10), defScope (mt 10), [], []⟩
theorem c_House_beneath : chkB (knB false kn) kw (fun _ => true) m_House_beneath (defScope (mt 10)) N_House_beneath (defBody (mt 10)) = true := by decide +kernel
theorem s_House_beneath : FnScope N_House_beneath p_House_beneath (defScope (mt 10)) := ⟨rfl, rfl, rfl, by decide +kernel, by decide +kernel, by decide +kernel, by decide +kernel⟩
def N_House_deeds : List Str := ["self"]
def p_House_deeds : List Str := ["self"]
def D_House_deeds : He.DefD := ⟨("House", some "deeds"), "deeds", "House.deeds", defArgs (mt 30), defBody (mt 30), defScope (mt 30), [], []⟩
theorem c_House_deeds : chkB (knB false kn) kw (fun _ => true) m_House_deeds (defScope (mt 30)) N_House_deeds (defBody (mt 30)) = true := by decide +kernel
theorem s_House_deeds : FnScope N_House_deeds p_House_deeds (defScope (mt 30)) := ⟨rfl, rfl, rfl, by decide +kernel, by decide +kernel, by decide +kernel, by decide +kernel⟩
def N_House_stations : List Str := ["self"]
def p_House_stations : List Str := ["self"]
def D_House_stations : He.DefD := ⟨("House", some "stations"), "stations", "House.stations", defArgs (mt 7), defBody (mt 7), defScope (mt 7), [], []⟩
theorem c_House_stations : chkB (knB false kn) kw (fun _ => true) m_House_stations (defScope (mt 7)) N_House_stations (defBody (mt 7)) = true := by decide +kernel
theorem s_House_stations : FnScope N_House_stations p_House_stations (defScope (mt 7)) := ⟨rfl, rfl, rfl, by decide +kernel, by decide +kernel, by decide +kernel, by decide +kernel⟩
def N__law_pick : List Str := ["_law_script", "_law_k", "_law_many", "_law_cell", "_law_rest", "_law_turn", "_law_drawn"]
def p__law_pick : List Str := ["_law_script", "_law_k", "_law_many"]
def D__law_pick : He.DefD := ⟨("_law_pick", none), "_law_pick", "_law_pick", defArgs (top 42), defBody (top 42), defScope (top 42), [], []⟩
theorem c__law_pick : chkB (knB false kn) kw (fun _ => true) m__law_pick (defScope (top 42)) N__law_pick (defBody (top 42)) = true := by decide +kernel
theorem s__law_pick : FnScope N__law_pick p__law_pick (defScope (top 42)) := ⟨rfl, rfl, rfl, by decide +kernel, by decide +kernel, by decide +kernel, by decide +kernel⟩
def N_is_name : List Str := ["thing", "sign"]
def p_is_name : List Str := ["thing"]
def D_is_name : He.DefD := ⟨("is_name", none), "is_name", "is_name", defArgs (top 33), defBody (top 33), defScope (top 33), [], []⟩
theorem c_is_name : chkB (knB false kn) kw (fun _ => true) m_is_name (defScope (top 33)) N_is_name (defBody (top 33)) = true := by decide +kernel
theorem s_is_name : FnScope N_is_name p_is_name (defScope (top 33)) := ⟨rfl, rfl, rfl, by decide +kernel, by decide +kernel, by decide +kernel, by decide +kernel⟩
def N_House_look_station : List Str := ["self", "name"]
def p_House_look_station : List Str := ["self", "name"]
def D_House_look_station : He.DefD := ⟨("House", some "look_station"), "look_station", "House.look_station", defArgs (mt 6), defBody (mt 6), defScope (mt 6), [], []⟩
theorem c_House_look_station : chkB (knB false kn) kw (fun _ => true) m_House_look_station (defScope (mt 6)) N_House_look_station (defBody (mt 6)) = true := by decide +kernel
theorem s_House_look_station : FnScope N_House_look_station p_House_look_station (defScope (mt 6)) := ⟨rfl, rfl, rfl, by decide +kernel, by decide +kernel, by decide +kernel, by decide +kernel⟩
def N_look_span : List Str := ["begin", "end", "least", "most"]
def p_look_span : List Str := ["begin", "end", "least", "most"]
def D_look_span : He.DefD := ⟨("look_span", none), "look_span", "look_span", defArgs (top 37), defBody (top 37), defScope (top 37), [], []⟩
theorem c_look_span : chkB (knB false kn) kw (fun _ => true) m_look_span (defScope (top 37)) N_look_span (defBody (top 37)) = true := by decide +kernel
theorem s_look_span : FnScope N_look_span p_look_span (defScope (top 37)) := ⟨rfl, rfl, rfl, by decide +kernel, by decide +kernel, by decide +kernel, by decide +kernel⟩
def N_is_number : List Str := ["thing", "least", "most"]
def p_is_number : List Str := ["thing", "least", "most"]
def D_is_number : He.DefD := ⟨("is_number", none), "is_number", "is_number", defArgs (top 27), defBody (top 27), defScope (top 27), [], []⟩
theorem c_is_number : chkB (knB false kn) kw (fun _ => true) m_is_number (defScope (top 27)) N_is_number (defBody (top 27)) = true := by decide +kernel
theorem s_is_number : FnScope N_is_number p_is_number (defScope (top 27)) := ⟨rfl, rfl, rfl, by decide +kernel, by decide +kernel, by decide +kernel, by decide +kernel⟩
def N__law_class : List Str := ["_law_e", "_law_kinds", "_law_some"]
def p__law_class : List Str := ["_law_e"]
def D__law_class : He.DefD := ⟨("_law_class", none), "_law_class", "_law_class", defArgs (top 44), defBody (top 44), defScope (top 44), [], []⟩
theorem s__law_class : FnScope N__law_class p__law_class (defScope (top 44)) := ⟨rfl, rfl, rfl, by decide +kernel, by decide +kernel, by decide +kernel, by decide +kernel⟩
def N__law_told : List Str := ["_law_deed", "_law_e"]
def p__law_told : List Str := ["_law_deed"]
def D__law_told : He.DefD := ⟨("_law_told", none), "_law_told", "_law_told", defArgs (top 45), defBody (top 45), defScope (top 45), [], []⟩
theorem s__law_told : FnScope N__law_told p__law_told (defScope (top 45)) := ⟨rfl, rfl, rfl, by decide +kernel, by decide +kernel, by decide +kernel, by decide +kernel⟩
def fn : List He.DefD := [D_law, D__law_names, D_House___init__, D_House_open_station, D_House_station, D__law_no_names, D_House_line, D_House_beneath, D_House_deeds, D_House_stations, D__law_pick, D_is_name, D_House_look_station, D_look_span, D_is_number, D__law_class, D__law_told]
def tf : List He.Defn := [("law", none)]
def fa : List He.Fa := .glo "_law_class" :: .free "isinstance" :: .free "ValueError" :: .glo "_law_told" :: .glo "AirError" :: .free "len" :: .free "all" :: .free "any" :: .free "sorted" :: .free "list" :: .free "tuple" :: .free "min" :: .free "max" :: .free "int" :: .free "str" :: .free "divmod" :: .free "dict" :: .free "sum" :: .free "range" :: .free "enumerate" :: .free "zip" :: .free "set" :: .free "bool" :: .free "KeyError" :: .int "HOURS" 24 :: .str "LETTERS" "abcdefghijklmnopqrstuvwxyz" :: .int "LONGEST_NAME" 6 :: .int "MOST_STATIONS" 6 :: .glo "RULES" :: .glo "NoName" :: .exc "NoName" :: .glo "NoHour" :: .exc "NoHour" :: .glo "NoStation" :: .exc "NoStation" :: .glo "NoRule" :: .exc "NoRule" :: .glo "Full" :: .exc "Full" :: .glo "Taken" :: .exc "Taken" :: .cls "House" :: .noat "House" "cuts" :: .noat "House" "done" :: .noat "House" "known" :: .noat "House" "many" :: .noat "House" "plans" :: .noat "House" "ranks" :: .noat "House" "seats" :: .noat "House" "weeks" :: .glo "House" :: .mkr "House" :: .glo "law" :: .glo "_law_names" :: .meth "House" "__init__" :: .meth "House" "open_station" :: .meth "House" "station" :: .glo "_law_no_names" :: .meth "House" "line" :: .meth "House" "beneath" :: .meth "House" "deeds" :: .meth "House" "stations" :: .glo "_law_pick" :: .glo "is_name" :: .meth "House" "look_station" :: .glo "look_span" :: .glo "is_number" :: []
def ex (K : PySem.W.Frag) : Bool := He.tupB K "RULES" [(.str "join"), (.str "push")] && tbB K tf && tellN.all (xcB K tellN)
abbrev R : PySem.W.OpenRow := PySem.W.OpenLaw.row PySem.Challenge.rw_airhours_k11_stations_refused
abbrev hk : PySem.W.Hook := He.hookX 5 fa fn [] tf ex
def ob (s : PySem.W.SharedT) : He.AlX := He.obsX 5 fa fn [] tf ex (HandSHeadRun.getT s)
theorem ob_eq (s : PySem.W.SharedT) : ob s = hk.obs s.abs := He.obsX_eq (HandSHeadRun.getT_eq s)
def loose : List Str := .cons "_wall" (.cons "AirError" (.cons "NoName" (.cons "NoDay" (.cons "NoHour" (.cons "NoMore" (.cons "NoShow" (.cons "NoSort" (.cons "NoStation" (.cons "NoRule" (.cons "Full" (.cons "Taken" (.cons "NoRights" (.cons "Settled" (.cons "TooLate" (.cons "NoRow" (.cons "NotLive" (.cons "TooLong" (.cons "NewsAhead" (.cons "Clash" (.cons "NoWish" (.cons "NoDeeds" (.cons "NoText" (.cons "DAYS" (.cons "HOURS" (.cons "is_number" (.cons "is_day" (.cons "look_day" (.cons "LETTERS" (.cons "LONGEST_NAME" (.cons "is_name" (.cons "MOST_STATIONS" (.cons "RULES" (.cons "look_span" (.cons "word_of" (.cons "line_of" (.cons "House" (.cons "_law_pick" (.cons "_law_names" (.cons "_law_class" (.cons "_law_told" (.cons "_law_no_names" (.nil))))))))))))))))))))))))))))))))))))))))))
theorem run (w : World) : HandSHeadRun.RunEq R (PySem.W.view R.prog [47]) hk ob 20000 loose w := by
  intro os
  kernel_rfl
section
variable {K : PySem.W.Frag} {h : Heap} {mg : Str → Option Value}
theorem xcF (cx : ex K = true) {nm : Str} (h : nm ∈ tellN) : XcF K tellN nm := by
  have e : tellN.all (xcB K tellN) = true := by
    revert cx; unfold ex; intro cx; first | exact cx | (simp only [Bool.and_eq_true] at cx; simp only [cx])
  exact xc_of (List.all_eq_true.mp e nm h)
theorem clsOk (X : K.In h) (G : h.Ns mainGlobals mg) (c : He.SaysD fa fn K) (cx : ex K = true) : ClsD K mg "_law_class" tellN := by
  obtain ⟨fd, F⟩ := c.def_ 15 (d := D__law_class) rfl
  have b : Binds K fd p__law_class [] := FunD.bindsN (ps := p__law_class) F fun _ _ _ _ _ _ us hl => match us, hl with | [_], _ => rfl
  obtain ⟨oc, od, dV, kV, doc, pm, an, cdv, ct, osl, rfl, lk, hcd, _, _⟩ := F.ex
  refine ⟨⟨He.ga K "_law_class", _, _, _, dV, kV, doc, pm, cdv, ct, oc, an, od, osl, N__law_class, "_law_e", He.glo_ok X G (c.fact 0 (f := .glo "_law_class") rfl), F.kp, lk, hcd, b, s__law_class, fun P w base A outer s H p cls d Q hr hz hf sp => ?_⟩⟩
  obtain ⟨nm, hnm, e, hd, q⟩ := sp
  have gl : ∀ y ∈ tellN, mg y = some (.ref (He.ga K y)) := fun y hy => PySem.W.mg_of X G (xcF cx hy).gl
  have e' := (gl nm hnm).symm.trans e
  cases e'
  have C : CxC (L2H.cxH C8.CX0 P w K mg base N__law_class "_law_class" (defScope (top 44)) (He.ga K "_law_class") cdv A outer s H C8.E0 p) p d nm := ⟨xcF cx hnm, List.mem_cons_self, hz, hf, gl, He.free_ok X G (c.fact 1 (f := .free "isinstance") rfl), He.free_ok X G (c.fact 2 (f := .free "ValueError") rfl)⟩
  refine ⟨_, pss_cons (ps_kinds (pa_is_cons (y := "NoName") (pe_isP C (by decide +kernel) rfl rfl rfl rfl (.inl rfl) rfl rfl) (pa_is_cons (y := "NoDay") (pe_isP C (by decide +kernel) rfl rfl rfl rfl (.inl rfl) rfl rfl) (pa_is_cons (y := "NoHour") (pe_isP C (by decide +kernel) rfl rfl rfl rfl (.inl rfl) rfl rfl) (pa_is_cons (y := "NoMore") (pe_isP C (by decide +kernel) rfl rfl rfl rfl (.inl rfl) rfl rfl) (pa_is_nil (d := d) (nm := nm)) (by rfl)) (by rfl)) (by rfl)) (by rfl)) s__law_class.nd rfl rfl (by decide))
    (pss_cons (ps_kext (H0 := H) (pa_is_cons (y := "NoShow") (pe_isP C (by decide +kernel) rfl rfl rfl rfl (.inl rfl) rfl rfl) (pa_is_cons (y := "NoSort") (pe_isP C (by decide +kernel) rfl rfl rfl rfl (.inl rfl) rfl rfl) (pa_is_cons (y := "NoStation") (pe_isP C (by decide +kernel) rfl rfl rfl rfl (.inl rfl) rfl rfl) (pa_is_cons (y := "NoRule") (pe_isP C (by decide +kernel) rfl rfl rfl rfl (.inl rfl) rfl rfl) (pa_is_nil (d := d) (nm := nm)) (by rfl)) (by rfl)) (by rfl)) (by rfl)) rfl (.inl rfl) rfl rfl (by decide) rfl)
    (pss_cons (ps_kext (H0 := H) (pa_is_cons (y := "Full") (pe_isP C (by decide +kernel) rfl rfl rfl rfl (.inl rfl) rfl rfl) (pa_is_cons (y := "Taken") (pe_isP C (by decide +kernel) rfl rfl rfl rfl (.inl rfl) rfl rfl) (pa_is_cons (y := "NoRights") (pe_isP C (by decide +kernel) rfl rfl rfl rfl (.inl rfl) rfl rfl) (pa_is_cons (y := "Settled") (pe_isP C (by decide +kernel) rfl rfl rfl rfl (.inl rfl) rfl rfl) (pa_is_nil (d := d) (nm := nm)) (by rfl)) (by rfl)) (by rfl)) (by rfl)) rfl (.inl rfl) rfl rfl (by decide) rfl)
    (pss_cons (ps_kext (H0 := H) (pa_is_cons (y := "TooLate") (pe_isP C (by decide +kernel) rfl rfl rfl rfl (.inl rfl) rfl rfl) (pa_is_cons (y := "NoRow") (pe_isP C (by decide +kernel) rfl rfl rfl rfl (.inl rfl) rfl rfl) (pa_is_cons (y := "NotLive") (pe_isP C (by decide +kernel) rfl rfl rfl rfl (.inl rfl) rfl rfl) (pa_is_cons (y := "TooLong") (pe_isP C (by decide +kernel) rfl rfl rfl rfl (.inl rfl) rfl rfl) (pa_is_nil (d := d) (nm := nm)) (by rfl)) (by rfl)) (by rfl)) (by rfl)) rfl (.inl rfl) rfl rfl (by decide) rfl)
    (pss_cons (ps_kext (H0 := H) (pa_is_cons (y := "NewsAhead") (pe_isP C (by decide +kernel) rfl rfl rfl rfl (.inl rfl) rfl rfl) (pa_is_cons (y := "Clash") (pe_isP C (by decide +kernel) rfl rfl rfl rfl (.inl rfl) rfl rfl) (pa_is_cons (y := "NoWish") (pe_isP C (by decide +kernel) rfl rfl rfl rfl (.inl rfl) rfl rfl) (pa_is_cons (y := "NoDeeds") (pe_isP C (by decide +kernel) rfl rfl rfl rfl (.inl rfl) rfl rfl) (pa_is_nil (d := d) (nm := nm)) (by rfl)) (by rfl)) (by rfl)) (by rfl)) rfl (.inl rfl) rfl rfl (by decide) rfl)
    (pss_cons (ps_kapp (H0 := H) (pe_isP C (by decide +kernel) rfl rfl rfl rfl (.inl rfl) rfl rfl) rfl (.inl rfl) rfl rfl rfl (by rfl) (by rfl))
    (pss_cons (ps_kif (H0 := H) (pe_isV C rfl rfl rfl (.inl rfl) rfl rfl) (by intro _; rfl) rfl (.inl rfl) rfl rfl rfl hnm)
    (pss_cons (ps_some (pa_str_cons (y := "NoName") pe_str (pa_str_cons (y := "NoDay") pe_str (pa_str_cons (y := "NoHour") pe_str (pa_str_cons (y := "NoMore") pe_str (pa_str_cons (y := "NoShow") pe_str (pa_str_cons (y := "NoSort") pe_str (pa_str_cons (y := "NoStation") pe_str (pa_str_cons (y := "NoRule") pe_str (pa_str_cons (y := "Full") pe_str (pa_str_cons (y := "Taken") pe_str pa_str_nil (by rfl)) (by rfl)) (by rfl)) (by rfl)) (by rfl)) (by rfl)) (by rfl)) (by rfl)) (by rfl)) (by rfl)) s__law_class.nd rfl rfl (by decide))
    (pss_cons (ps_sext (pa_str_cons (y := "NoRights") pe_str (pa_str_cons (y := "Settled") pe_str (pa_str_cons (y := "TooLate") pe_str (pa_str_cons (y := "NoRow") pe_str (pa_str_cons (y := "NotLive") pe_str (pa_str_cons (y := "TooLong") pe_str (pa_str_cons (y := "NewsAhead") pe_str (pa_str_cons (y := "Clash") pe_str (pa_str_cons (y := "NoWish") pe_str pa_str_nil (by rfl)) (by rfl)) (by rfl)) (by rfl)) (by rfl)) (by rfl)) (by rfl)) (by rfl)) (by rfl)) rfl (.inl rfl) rfl rfl (by decide) rfl)
    (pss_cons (ps_sext (pa_str_cons (y := "NoDeeds") pe_str (pa_str_cons (y := "NoText") pe_str pa_str_nil (by rfl)) (by rfl)) rfl (.inl rfl) rfl rfl (by decide) rfl)
    (pss_one (ps_kret (H0 := H) (p := p) (d := d) rfl (.inl rfl) rfl rfl rfl (.inl rfl) rfl rfl rfl hnm))))))))))), ?_⟩
  refine ⟨rfl, hd, Nat.le_of_ble_eq_true rfl, fun σ1 H1 l1 k1 => ⟨_, k1, Nat.le_of_ble_eq_true rfl, fun H2 k2 => ⟨_, k2, Nat.le_of_ble_eq_true rfl, fun H3 k3 => ⟨_, k3, Nat.le_of_ble_eq_true rfl, fun H4 k4 => ⟨_, k4, Nat.le_of_ble_eq_true rfl, fun H5 k5 => ⟨_, k5, Nat.le_of_ble_eq_true rfl, fun H6 k6 => ⟨k6, ⟨by rw [l1]; exact Nat.le_of_ble_eq_true rfl, fun l H7 g7 n7 => ⟨_, _, n7, Nat.le_of_ble_eq_true rfl, fun H8 n8 => ⟨_, _, n8, Nat.le_of_ble_eq_true rfl, fun H9 n9 => ⟨k6.on l n9.keep, ⟨_, n9⟩, q _ fun b o e => n9.keep b o (k6.keep b o e)⟩⟩⟩⟩⟩⟩⟩⟩⟩⟩⟩
theorem telOk (X : K.In h) (G : h.Ns mainGlobals mg) (c : He.SaysD fa fn K) (cx : ex K = true) : TelD K mg "_law_told" (TTl mg tellN) := by
  obtain ⟨fd, F⟩ := c.def_ 16 (d := D__law_told) rfl
  have b : Binds K fd p__law_told [] := FunD.bindsN (ps := p__law_told) F fun _ _ _ _ _ _ us hl => match us, hl with | [_], _ => rfl
  obtain ⟨oc, od, dV, kV, doc, pm, an, cdv, ct, osl, rfl, lk, hcd, _, _⟩ := F.ex
  have gl : ∀ y ∈ tellN, mg y = some (.ref (He.ga K y)) := fun y hy => PySem.W.mg_of X G (xcF cx hy).gl
  refine ⟨⟨He.ga K "_law_told", _, _, _, dV, kV, doc, pm, cdv, ct, oc, an, od, osl, N__law_told, "_law_deed", He.glo_ok X G (c.fact 3 (f := .glo "_law_told") rfl), F.kp, lk, hcd, b, s__law_told, rfl, .inl rfl, rfl, rfl, fun X' q e1 e2 hr => ?_⟩⟩
  subst e1 e2
  exact told_gives2 (n := "_law_e") (y := "_law_class") (e := "AirError") (CS := He.ga X'.K "AirError") (clsOk X G c cx) s__law_told.nd rfl rfl rfl rfl (He.glo_ok X G (c.fact 4 (f := .glo "AirError") rfl)) rfl rfl rfl rfl (fun _ => rfl) (fun env => (hr.mono (by decide)).deeper env) fun nm h cls e => by
    have e' := (gl nm h).symm.trans e
    cases e'
    exact (xcF cx h).ex
theorem modOk (X : K.In h) (G : h.Ns mainGlobals mg) (c : He.SaysD fa fn K) (cx : ex K = true) : letI : Kf := ⟨K⟩; ModOk Γ kn kw (He.ga K "House") mg (tf.map (He.cT K)) (tbOf K tf) := by
  letI : Kf := ⟨K⟩
  have hb : tbB K tf = true := by
    revert cx; unfold ex; intro cx; first | exact cx | (simp only [Bool.and_eq_true] at cx; simp only [cx])
  refine ⟨?_, ?_, ?_, ?_, ?_, ?_, ?_⟩
  · intro x hx
    simp only [List.mem_cons, List.not_mem_nil, or_false] at hx
    rcases hx with rfl | rfl | rfl | rfl | rfl | rfl | rfl | rfl | rfl | rfl | rfl | rfl | rfl | rfl | rfl | rfl | rfl | rfl | rfl | rfl
    · exact He.free_ok X G (c.fact 5 (f := .free "len") rfl)
    · exact He.free_ok X G (c.fact 6 (f := .free "all") rfl)
    · exact He.free_ok X G (c.fact 7 (f := .free "any") rfl)
    · exact He.free_ok X G (c.fact 8 (f := .free "sorted") rfl)
    · exact He.free_ok X G (c.fact 9 (f := .free "list") rfl)
    · exact He.free_ok X G (c.fact 10 (f := .free "tuple") rfl)
    · exact He.free_ok X G (c.fact 11 (f := .free "min") rfl)
    · exact He.free_ok X G (c.fact 12 (f := .free "max") rfl)
    · exact He.free_ok X G (c.fact 13 (f := .free "int") rfl)
    · exact He.free_ok X G (c.fact 14 (f := .free "str") rfl)
    · exact He.free_ok X G (c.fact 15 (f := .free "divmod") rfl)
    · exact He.free_ok X G (c.fact 16 (f := .free "dict") rfl)
    · exact He.free_ok X G (c.fact 17 (f := .free "sum") rfl)
    · exact He.free_ok X G (c.fact 1 (f := .free "isinstance") rfl)
    · exact He.free_ok X G (c.fact 18 (f := .free "range") rfl)
    · exact He.free_ok X G (c.fact 19 (f := .free "enumerate") rfl)
    · exact He.free_ok X G (c.fact 20 (f := .free "zip") rfl)
    · exact He.free_ok X G (c.fact 21 (f := .free "set") rfl)
    · exact He.free_ok X G (c.fact 22 (f := .free "bool") rfl)
    · exact He.free_ok X G (c.fact 23 (f := .free "KeyError") rfl)
  · intro x hx
    have hx2 := kn_cst x hx
    simp only [List.mem_cons, List.not_mem_nil, or_false] at hx2
    rcases hx2 with rfl | rfl | rfl | rfl | rfl
    · exact ⟨(.int 24), rfl, He.int_ok X G (c.fact 24 (f := .int "HOURS" 24) rfl)⟩
    · exact ⟨(.str "abcdefghijklmnopqrstuvwxyz"), rfl, by decide +kernel, He.str_ok X G (c.fact 25 (f := .str "LETTERS" "abcdefghijklmnopqrstuvwxyz") rfl)⟩
    · exact ⟨(.int 6), rfl, He.int_ok X G (c.fact 26 (f := .int "LONGEST_NAME" 6) rfl)⟩
    · exact ⟨(.int 6), rfl, He.int_ok X G (c.fact 27 (f := .int "MOST_STATIONS" 6) rfl)⟩
    · have e : He.tupB K "RULES" [(.str "join"), (.str "push")] = true := by
        revert cx; unfold ex; intro cx; first | exact cx | (simp only [Bool.and_eq_true] at cx; simp only [cx])
      exact ⟨(.tup [(.str "join"), (.str "push")]), rfl, _, _, He.glo_ok X G (c.fact 28 (f := .glo "RULES") rfl), fun H => He.tupB_ok e H, (.cons (.str _ (by decide +kernel)) (.cons (.str _ (by decide +kernel)) .nil))⟩
  · intro x hx
    have hx2 := kn_xc x hx
    simp only [xcT, List.mem_cons, List.not_mem_nil, or_false] at hx2
    rcases hx2 with rfl | rfl | rfl | rfl | rfl | rfl
    · exact ⟨_, He.glo_ok X G (c.fact 29 (f := .glo "NoName") rfl), He.exc_ok (c.fact 30 (f := .exc "NoName") rfl)⟩
    · exact ⟨_, He.glo_ok X G (c.fact 31 (f := .glo "NoHour") rfl), He.exc_ok (c.fact 32 (f := .exc "NoHour") rfl)⟩
    · exact ⟨_, He.glo_ok X G (c.fact 33 (f := .glo "NoStation") rfl), He.exc_ok (c.fact 34 (f := .exc "NoStation") rfl)⟩
    · exact ⟨_, He.glo_ok X G (c.fact 35 (f := .glo "NoRule") rfl), He.exc_ok (c.fact 36 (f := .exc "NoRule") rfl)⟩
    · exact ⟨_, He.glo_ok X G (c.fact 37 (f := .glo "Full") rfl), He.exc_ok (c.fact 38 (f := .exc "Full") rfl)⟩
    · exact ⟨_, He.glo_ok X G (c.fact 39 (f := .glo "Taken") rfl), He.exc_ok (c.fact 40 (f := .exc "Taken") rfl)⟩
  · exact fun hx => telOk X G c cx
  · intro f hf
    have hx2 := kn_fld _ hf
    simp only [fldT, List.mem_cons, List.not_mem_nil, or_false] at hx2
    rcases hx2 with e | e | e | e | e | e | e | e
    · obtain rfl := fkey_inj (e.trans (show ("House:cuts" : Str) = fkey "cuts" by decide +kernel))
      exact ⟨He.cls_ok (c.fact 41 (f := .cls "House") rfl), He.noat_ok (c.fact 42 (f := .noat "House" "cuts") rfl)⟩
    · obtain rfl := fkey_inj (e.trans (show ("House:done" : Str) = fkey "done" by decide +kernel))
      exact ⟨He.cls_ok (c.fact 41 (f := .cls "House") rfl), He.noat_ok (c.fact 43 (f := .noat "House" "done") rfl)⟩
    · obtain rfl := fkey_inj (e.trans (show ("House:known" : Str) = fkey "known" by decide +kernel))
      exact ⟨He.cls_ok (c.fact 41 (f := .cls "House") rfl), He.noat_ok (c.fact 44 (f := .noat "House" "known") rfl)⟩
    · obtain rfl := fkey_inj (e.trans (show ("House:many" : Str) = fkey "many" by decide +kernel))
      exact ⟨He.cls_ok (c.fact 41 (f := .cls "House") rfl), He.noat_ok (c.fact 45 (f := .noat "House" "many") rfl)⟩
    · obtain rfl := fkey_inj (e.trans (show ("House:plans" : Str) = fkey "plans" by decide +kernel))
      exact ⟨He.cls_ok (c.fact 41 (f := .cls "House") rfl), He.noat_ok (c.fact 46 (f := .noat "House" "plans") rfl)⟩
    · obtain rfl := fkey_inj (e.trans (show ("House:ranks" : Str) = fkey "ranks" by decide +kernel))
      exact ⟨He.cls_ok (c.fact 41 (f := .cls "House") rfl), He.noat_ok (c.fact 47 (f := .noat "House" "ranks") rfl)⟩
    · obtain rfl := fkey_inj (e.trans (show ("House:seats" : Str) = fkey "seats" by decide +kernel))
      exact ⟨He.cls_ok (c.fact 41 (f := .cls "House") rfl), He.noat_ok (c.fact 48 (f := .noat "House" "seats") rfl)⟩
    · obtain rfl := fkey_inj (e.trans (show ("House:weeks" : Str) = fkey "weeks" by decide +kernel))
      exact ⟨He.cls_ok (c.fact 41 (f := .cls "House") rfl), He.noat_ok (c.fact 49 (f := .noat "House" "weeks") rfl)⟩
  · exact fun _ => ⟨He.glo_ok X G (c.fact 50 (f := .glo "House") rfl), _, He.mkr_ok (c.fact 51 (f := .mkr "House") rfl)⟩
  · intro x np nd hx hd
    rcases kn_def x np nd hx hd with ⟨rfl, rfl, rfl⟩ | ⟨rfl, rfl, rfl⟩ | ⟨rfl, rfl, rfl⟩ | ⟨rfl, rfl, rfl⟩ | ⟨rfl, rfl, rfl⟩ | ⟨rfl, rfl, rfl⟩ | ⟨rfl, rfl, rfl⟩ | ⟨rfl, rfl, rfl⟩ | ⟨rfl, rfl, rfl⟩ | ⟨rfl, rfl, rfl⟩ | ⟨rfl, rfl, rfl⟩ | ⟨rfl, rfl, rfl⟩ | ⟨rfl, rfl, rfl⟩ | ⟨rfl, rfl, rfl⟩ | ⟨rfl, rfl, rfl⟩
    · obtain ⟨fd, F⟩ := c.def_ 0 (d := D_law) rfl
      have b : Binds K fd p_law [] := FunD.bindsN (ps := p_law) F fun _ _ _ _ _ _ us hl => match us, hl with | [_], _ => rfl
      exact ⟨d_law, He.ga K "law", fd, N_law, p_law, [], [], rfl, rfl, rfl, ⟨fun _ => He.glo_ok X G (c.fact 52 (f := .glo "law") rfl), fun m e => no_mkey (by decide +kernel) e, ⟨_, _, _, _, _, fun _ => true, true, F, s_law, c_law, fun _ => lam_ok (p := ("law", none)) hb (by decide +kernel) F⟩, rfl, rfl, .nil, by decide, rfl, fun m hm => ⟨[], b, by rw [List.drop_nil]; exact .nil⟩, (fun n ks pm h => nomatch (show none = some pm from h))⟩⟩
    · obtain ⟨fd, F⟩ := c.def_ 1 (d := D__law_names) rfl
      have b : Binds K fd p__law_names [] := FunD.bindsN (ps := p__law_names) F fun _ _ _ _ _ _ us hl => match us, hl with | [_, _, _], _ => rfl
      exact ⟨d__law_names, He.ga K "_law_names", fd, N__law_names, p__law_names, [], [], rfl, rfl, rfl, ⟨fun _ => He.glo_ok X G (c.fact 53 (f := .glo "_law_names") rfl), fun m e => no_mkey (by decide +kernel) e, ⟨_, _, _, _, _, fun _ => true, false, F, s__law_names, c__law_names, (fun h => nomatch h)⟩, rfl, rfl, .nil, by decide, rfl, fun m hm => ⟨[], b, by rw [List.drop_nil]; exact .nil⟩, (fun n ks pm h => nomatch (show none = some pm from h))⟩⟩
    · obtain ⟨fd, F⟩ := c.def_ 2 (d := D_House___init__) rfl
      have b : Binds K fd p_House___init__ [] := FunD.bindsN (ps := p_House___init__) F fun _ _ _ _ _ _ us hl => match us, hl with | [_], _ => rfl
      exact ⟨d_House___init__, He.fAd K ("House", some "__init__"), fd, N_House___init__, p_House___init__, [], [], rfl, rfl, rfl, ⟨(fun h => nomatch (show true = false from h)), (fun m e => by obtain rfl := mkey_inj ((show mkey "__init__" = "House.__init__" by decide +kernel).trans e); exact ⟨He.cls_ok (c.fact 41 (f := .cls "House") rfl), He.meth_ok (c.fact 54 (f := .meth "House" "__init__") rfl)⟩), ⟨_, _, _, _, _, fun _ => true, false, F, s_House___init__, c_House___init__, (fun h => nomatch h)⟩, rfl, rfl, .nil, by decide, rfl, fun m hm => ⟨[], b, by rw [List.drop_nil]; exact .nil⟩, (fun n ks pm h => nomatch (show none = some pm from h))⟩⟩
    · obtain ⟨fd, F⟩ := c.def_ 3 (d := D_House_open_station) rfl
      have b : ∀ j, j ≤ 4 → ∃ ds, Vals ((D_House_open_station.dvs K).drop j) ds ∧ Binds K fd p_House_open_station ds := fun j hj => match j, hj with
        | 0, _ => FunD.binds1 (ps := p_House_open_station) F 2 0 (List.cons_ne_nil _ _) rfl fun T kV doc pm an cdv ct us its hu hi => match us, its, hu, hi with | [_, _], [_, _, _, _], _, _ => ⟨_, rfl, rfl⟩
        | 1, _ => FunD.binds1 (ps := p_House_open_station) F 3 1 (List.cons_ne_nil _ _) rfl fun T kV doc pm an cdv ct us its hu hi => match us, its, hu, hi with | [_, _, _], [_, _, _, _], _, _ => ⟨_, rfl, rfl⟩
        | 2, _ => FunD.binds1 (ps := p_House_open_station) F 4 2 (List.cons_ne_nil _ _) rfl fun T kV doc pm an cdv ct us its hu hi => match us, its, hu, hi with | [_, _, _, _], [_, _, _, _], _, _ => ⟨_, rfl, rfl⟩
        | 3, _ => FunD.binds1 (ps := p_House_open_station) F 5 3 (List.cons_ne_nil _ _) rfl fun T kV doc pm an cdv ct us its hu hi => match us, its, hu, hi with | [_, _, _, _, _], [_, _, _, _], _, _ => ⟨_, rfl, rfl⟩
        | 4, _ => FunD.binds1 (ps := p_House_open_station) F 6 4 (List.cons_ne_nil _ _) rfl fun T kV doc pm an cdv ct us its hu hi => match us, its, hu, hi with | [_, _, _, _, _, _], [_, _, _, _], _, _ => ⟨_, rfl, rfl⟩
        | k + 5, h => absurd h (by omega)
      have bk : ∀ n ks pm, kw "House.open_station" n ks = some pm → ∃ g', KBn K fd p_House_open_station n ks g' (pmV pm) := by
        intro n ks pm h
        have m := kwL_mem (show kwL kw_House_open_station n ks = some pm from h)
        simp only [kw_House_open_station, List.mem_cons, List.not_mem_nil, or_false, Prod.mk.injEq] at m
        rcases m with ⟨⟨rfl, rfl⟩, rfl⟩ | ⟨⟨rfl, rfl⟩, rfl⟩ | ⟨⟨rfl, rfl⟩, rfl⟩
        · exact kbn_D (ps := p_House_open_station) F _ _ _ [.inl 0, .inl 1, .inl 2, .inr 1, .inr 2, .inl 3] (List.cons_ne_nil _ _) ⟨rfl, rfl, rfl, rfl, rfl, rfl, trivial⟩ fun T kV doc pm an cdv ct us its ws hu hi hw => match us, its, ws, hu, hi, hw with | [_, _], [_, _, _, _], [_, _], _, _, _ => ⟨_, rfl, rfl⟩
        · exact kbn_D (ps := p_House_open_station) F _ _ _ [.inl 0, .inl 1, .inl 2, .inr 1, .inr 2, .inl 3] (List.cons_ne_nil _ _) ⟨rfl, rfl, rfl, rfl, rfl, rfl, trivial⟩ fun T kV doc pm an cdv ct us its ws hu hi hw => match us, its, ws, hu, hi, hw with | [_, _, _], [_, _, _, _], [_], _, _, _ => ⟨_, rfl, rfl⟩
        · exact kbn_D (ps := p_House_open_station) F _ _ _ [.inl 0, .inl 1, .inr 0, .inr 1, .inl 2, .inr 3] (List.cons_ne_nil _ _) ⟨rfl, rfl, rfl, rfl, rfl, rfl, trivial⟩ fun T kV doc pm an cdv ct us its ws hu hi hw => match us, its, ws, hu, hi, hw with | [_, _], [_, _, _, _], [_], _, _, _ => ⟨_, rfl, rfl⟩
      exact ⟨d_House_open_station, He.fAd K ("House", some "open_station"), fd, N_House_open_station, p_House_open_station, D_House_open_station.dvs K, [.non, (.int 0), (.int 24), (.str "join")], rfl, rfl, rfl, ⟨(fun h => nomatch (show true = false from h)), (fun m e => by obtain rfl := mkey_inj ((show mkey "open_station" = "House.open_station" by decide +kernel).trans e); exact ⟨He.cls_ok (c.fact 41 (f := .cls "House") rfl), He.meth_ok (c.fact 55 (f := .meth "House" "open_station") rfl)⟩), ⟨_, _, _, _, _, fun _ => true, false, F, s_House_open_station, c_House_open_station, (fun h => nomatch h)⟩, rfl, rfl, (.cons .non (.cons (.int _) (.cons (.int _) (.cons (.str _ (by decide +kernel)) .nil)))), by decide, rfl, bd_of b, bk⟩⟩
    · obtain ⟨fd, F⟩ := c.def_ 4 (d := D_House_station) rfl
      have b : Binds K fd p_House_station [] := FunD.bindsN (ps := p_House_station) F fun _ _ _ _ _ _ us hl => match us, hl with | [_, _], _ => rfl
      exact ⟨d_House_station, He.fAd K ("House", some "station"), fd, N_House_station, p_House_station, [], [], rfl, rfl, rfl, ⟨(fun h => nomatch (show true = false from h)), (fun m e => by obtain rfl := mkey_inj ((show mkey "station" = "House.station" by decide +kernel).trans e); exact ⟨He.cls_ok (c.fact 41 (f := .cls "House") rfl), He.meth_ok (c.fact 56 (f := .meth "House" "station") rfl)⟩), ⟨_, _, _, _, _, fun _ => true, false, F, s_House_station, c_House_station, (fun h => nomatch h)⟩, rfl, rfl, .nil, by decide, rfl, fun m hm => ⟨[], b, by rw [List.drop_nil]; exact .nil⟩, (fun n ks pm h => nomatch (show none = some pm from h))⟩⟩
    · obtain ⟨fd, F⟩ := c.def_ 5 (d := D__law_no_names) rfl
      have b : Binds K fd p__law_no_names [] := FunD.bindsN (ps := p__law_no_names) F fun _ _ _ _ _ _ us hl => match us, hl with | [], _ => rfl
      exact ⟨d__law_no_names, He.ga K "_law_no_names", fd, N__law_no_names, p__law_no_names, [], [], rfl, rfl, rfl, ⟨fun _ => He.glo_ok X G (c.fact 57 (f := .glo "_law_no_names") rfl), fun m e => no_mkey (by decide +kernel) e, ⟨_, _, _, _, _, fun _ => true, false, F, s__law_no_names, c__law_no_names, (fun h => nomatch h)⟩, rfl, rfl, .nil, by decide, rfl, fun m hm => ⟨[], b, by rw [List.drop_nil]; exact .nil⟩, (fun n ks pm h => nomatch (show none = some pm from h))⟩⟩
    · obtain ⟨fd, F⟩ := c.def_ 6 (d := D_House_line) rfl
      have b : Binds K fd p_House_line [] := FunD.bindsN (ps := p_House_line) F fun _ _ _ _ _ _ us hl => match us, hl with | [_, _], _ => rfl
      exact ⟨d_House_line, He.fAd K ("House", some "line"), fd, N_House_line, p_House_line, [], [], rfl, rfl, rfl, ⟨(fun h => nomatch (show true = false from h)), (fun m e => by obtain rfl := mkey_inj ((show mkey "line" = "House.line" by decide +kernel).trans e); exact ⟨He.cls_ok (c.fact 41 (f := .cls "House") rfl), He.meth_ok (c.fact 58 (f := .meth "House" "line") rfl)⟩), ⟨_, _, _, _, _, fun _ => true, false, F, s_House_line, c_House_line, (fun h => nomatch h)⟩, rfl, rfl, .nil, by decide, rfl, fun m hm => ⟨[], b, by rw [List.drop_nil]; exact .nil⟩, (fun n ks pm h => nomatch (show none = some pm from h))⟩⟩
    · obtain ⟨fd, F⟩ := c.def_ 7 (d := D_House_beneath) rfl
      have b : Binds K fd p_House_beneath [] := FunD.bindsN (ps := p_House_beneath) F fun _ _ _ _ _ _ us hl => match us, hl with | [_, _], _ => rfl
      exact ⟨d_House_beneath, He.fAd K ("House", some "beneath"), fd, N_House_beneath, p_House_beneath, [], [], rfl, rfl, rfl, ⟨(fun h => nomatch (show true = false from h)), (fun m e => by obtain rfl := mkey_inj ((show mkey "beneath" = "House.beneath" by decide +kernel).trans e); exact ⟨He.cls_ok (c.fact 41 (f := .cls "House") rfl), He.meth_ok (c.fact 59 (f := .meth "House" "beneath") rfl)⟩), ⟨_, _, _, _, _, fun _ => true, false, F, s_House_beneath, c_House_beneath, (fun h => nomatch h)⟩, rfl, rfl, .nil, by decide, rfl, fun m hm => ⟨[], b, by rw [List.drop_nil]; exact .nil⟩, (fun n ks pm h => nomatch (show none = some pm from h))⟩⟩
    · obtain ⟨fd, F⟩ := c.def_ 8 (d := D_House_deeds) rfl
      have b : Binds K fd p_House_deeds [] := FunD.bindsN (ps := p_House_deeds) F fun _ _ _ _ _ _ us hl => match us, hl with | [_], _ => rfl
      exact ⟨d_House_deeds, He.fAd K ("House", some "deeds"), fd, N_House_deeds, p_House_deeds, [], [], rfl, rfl, rfl, ⟨(fun h => nomatch (show true = false from h)), (fun m e => by obtain rfl := mkey_inj ((show mkey "deeds" = "House.deeds" by decide +kernel).trans e); exact ⟨He.cls_ok (c.fact 41 (f := .cls "House") rfl), He.meth_ok (c.fact 60 (f := .meth "House" "deeds") rfl)⟩), ⟨_, _, _, _, _, fun _ => true, false, F, s_House_deeds, c_House_deeds, (fun h => nomatch h)⟩, rfl, rfl, .nil, by decide, rfl, fun m hm => ⟨[], b, by rw [List.drop_nil]; exact .nil⟩, (fun n ks pm h => nomatch (show none = some pm from h))⟩⟩
    · obtain ⟨fd, F⟩ := c.def_ 9 (d := D_House_stations) rfl
      have b : Binds K fd p_House_stations [] := FunD.bindsN (ps := p_House_stations) F fun _ _ _ _ _ _ us hl => match us, hl with | [_], _ => rfl
      exact ⟨d_House_stations, He.fAd K ("House", some "stations"), fd, N_House_stations, p_House_stations, [], [], rfl, rfl, rfl, ⟨(fun h => nomatch (show true = false from h)), (fun m e => by obtain rfl := mkey_inj ((show mkey "stations" = "House.stations" by decide +kernel).trans e); exact ⟨He.cls_ok (c.fact 41 (f := .cls "House") rfl), He.meth_ok (c.fact 61 (f := .meth "House" "stations") rfl)⟩), ⟨_, _, _, _, _, fun _ => true, false, F, s_House_stations, c_House_stations, (fun h => nomatch h)⟩, rfl, rfl, .nil, by decide, rfl, fun m hm => ⟨[], b, by rw [List.drop_nil]; exact .nil⟩, (fun n ks pm h => nomatch (show none = some pm from h))⟩⟩
    · obtain ⟨fd, F⟩ := c.def_ 10 (d := D__law_pick) rfl
      have b : Binds K fd p__law_pick [] := FunD.bindsN (ps := p__law_pick) F fun _ _ _ _ _ _ us hl => match us, hl with | [_, _, _], _ => rfl
      exact ⟨d__law_pick, He.ga K "_law_pick", fd, N__law_pick, p__law_pick, [], [], rfl, rfl, rfl, ⟨fun _ => He.glo_ok X G (c.fact 62 (f := .glo "_law_pick") rfl), fun m e => no_mkey (by decide +kernel) e, ⟨_, _, _, _, _, fun _ => true, false, F, s__law_pick, c__law_pick, (fun h => nomatch h)⟩, rfl, rfl, .nil, by decide, rfl, fun m hm => ⟨[], b, by rw [List.drop_nil]; exact .nil⟩, (fun n ks pm h => nomatch (show none = some pm from h))⟩⟩
    · obtain ⟨fd, F⟩ := c.def_ 11 (d := D_is_name) rfl
      have b : Binds K fd p_is_name [] := FunD.bindsN (ps := p_is_name) F fun _ _ _ _ _ _ us hl => match us, hl with | [_], _ => rfl
      exact ⟨d_is_name, He.ga K "is_name", fd, N_is_name, p_is_name, [], [], rfl, rfl, rfl, ⟨fun _ => He.glo_ok X G (c.fact 63 (f := .glo "is_name") rfl), fun m e => no_mkey (by decide +kernel) e, ⟨_, _, _, _, _, fun _ => true, false, F, s_is_name, c_is_name, (fun h => nomatch h)⟩, rfl, rfl, .nil, by decide, rfl, fun m hm => ⟨[], b, by rw [List.drop_nil]; exact .nil⟩, (fun n ks pm h => nomatch (show none = some pm from h))⟩⟩
    · obtain ⟨fd, F⟩ := c.def_ 12 (d := D_House_look_station) rfl
      have b : Binds K fd p_House_look_station [] := FunD.bindsN (ps := p_House_look_station) F fun _ _ _ _ _ _ us hl => match us, hl with | [_, _], _ => rfl
      exact ⟨d_House_look_station, He.fAd K ("House", some "look_station"), fd, N_House_look_station, p_House_look_station, [], [], rfl, rfl, rfl, ⟨(fun h => nomatch (show true = false from h)), (fun m e => by obtain rfl := mkey_inj ((show mkey "look_station" = "House.look_station" by decide +kernel).trans e); exact ⟨He.cls_ok (c.fact 41 (f := .cls "House") rfl), He.meth_ok (c.fact 64 (f := .meth "House" "look_station") rfl)⟩), ⟨_, _, _, _, _, fun _ => true, false, F, s_House_look_station, c_House_look_station, (fun h => nomatch h)⟩, rfl, rfl, .nil, by decide, rfl, fun m hm => ⟨[], b, by rw [List.drop_nil]; exact .nil⟩, (fun n ks pm h => nomatch (show none = some pm from h))⟩⟩
    · obtain ⟨fd, F⟩ := c.def_ 13 (d := D_look_span) rfl
      have b : Binds K fd p_look_span [] := FunD.bindsN (ps := p_look_span) F fun _ _ _ _ _ _ us hl => match us, hl with | [_, _, _, _], _ => rfl
      exact ⟨d_look_span, He.ga K "look_span", fd, N_look_span, p_look_span, [], [], rfl, rfl, rfl, ⟨fun _ => He.glo_ok X G (c.fact 65 (f := .glo "look_span") rfl), fun m e => no_mkey (by decide +kernel) e, ⟨_, _, _, _, _, fun _ => true, false, F, s_look_span, c_look_span, (fun h => nomatch h)⟩, rfl, rfl, .nil, by decide, rfl, fun m hm => ⟨[], b, by rw [List.drop_nil]; exact .nil⟩, (fun n ks pm h => nomatch (show none = some pm from h))⟩⟩
    · obtain ⟨fd, F⟩ := c.def_ 14 (d := D_is_number) rfl
      have b : Binds K fd p_is_number [] := FunD.bindsN (ps := p_is_number) F fun _ _ _ _ _ _ us hl => match us, hl with | [_, _, _], _ => rfl
      exact ⟨d_is_number, He.ga K "is_number", fd, N_is_number, p_is_number, [], [], rfl, rfl, rfl, ⟨fun _ => He.glo_ok X G (c.fact 66 (f := .glo "is_number") rfl), fun m e => no_mkey (by decide +kernel) e, ⟨_, _, _, _, _, fun _ => true, false, F, s_is_number, c_is_number, (fun h => nomatch h)⟩, rfl, rfl, .nil, by decide, rfl, fun m hm => ⟨[], b, by rw [List.drop_nil]; exact .nil⟩, (fun n ks pm h => nomatch (show none = some pm from h))⟩⟩
theorem lawOk (X : K.In h) (G : h.Ns mainGlobals mg) (c : He.SaysD fa fn K) (cx : ex K = true) : letI : Kf := ⟨K⟩; ∃ fd, DefOk kn kw (He.ga K "House") mg (tf.map (He.cT K)) (tbOf K tf) "law" (He.ga K "law") fd N_law p_law [] [] d_law ∧ ∀ (s : Shared) (u : Value), BindsTo s fd ⟨[u], []⟩ [("_law_script", u)] := by
  letI : Kf := ⟨K⟩
  have hb : tbB K tf = true := by
    revert cx; unfold ex; intro cx; first | exact cx | (simp only [Bool.and_eq_true] at cx; simp only [cx])
  obtain ⟨fd, F⟩ := c.def_ 0 (d := D_law) rfl
  have b : Binds K fd p_law [] := FunD.bindsN (ps := p_law) F fun _ _ _ _ _ _ us hl => match us, hl with | [_], _ => rfl
  have b2 := FunD.bindsA (ps := p_law) F fun _ _ _ _ _ _ us hl => match us, hl with | [_], _ => rfl
  exact ⟨fd, ⟨fun _ => He.glo_ok X G (c.fact 52 (f := .glo "law") rfl), fun m e => no_mkey (by decide +kernel) e, ⟨_, _, _, _, _, fun _ => true, true, F, s_law, c_law, fun _ => lam_ok (p := ("law", none)) hb (by decide +kernel) F⟩, rfl, rfl, .nil, by decide, rfl, fun m hm => ⟨[], b, by rw [List.drop_nil]; exact .nil⟩, (fun n ks pm h => nomatch (show none = some pm from h))⟩, fun s u => b2 s [u] rfl⟩
end
end K11
open PySem PySem.W PySem.Calls PyProof.Rows
theorem K11.end_of (plain : ∀ ns : List Int, ns.length ≤ 63 → ∃ J, Air.bodyN K11.Γ 24 K11.d_law false [.scr ns] [] = .ok (.val (.bl true)) J) : PySem.Challenge.rw_airhours_k11_stations_refused.Holds := by
  w_on; o_law
  refine HandSHeadRun.head_any (r := OpenLaw.row PySem.Challenge.rw_airhours_k11_stations_refused) (q := view (OpenLaw.row PySem.Challenge.rw_airhours_k11_stations_refused).prog [47]) (H := K11.hk) (ob := K11.ob) (M := 20000) (loose := K11.loose) (d := HandSHeadRun.topDef (OpenLaw.row PySem.Challenge.rw_airhours_k11_stations_refused).prog 47) (kwd := []) K11.ob_eq
    (by kernel_rfl) (fun s => by kernel_rfl) K11.run (by kernel_rfl) (by kernel_rfl) (by kernel_rfl) (by rfl) (by first | assumption | decide +kernel) (by decide +kernel) ⟨rfl, rfl, rfl, rfl, rfl, by decide +kernel⟩ ?hw ?hc
  case hw => w_witness2
  case hc =>
    refine LamX.walk_ofTsE (l := PySem.Challenge.rw_airhours_k11_stations_refused) (n := 63) (k := 4 * (24 + 1)) (x := "_law_script") (CX := fun _ => L2.CX0) rfl (by decide) (by kernel_rfl) ⟨rfl, by decide, by decide⟩ ?F (fun _ _ _ _ _ z => z)
    intro w mg fa h Y G hmg0
    obtain ⟨K, KX, c⟩ := Y
    have hmg : mg ("law" : PySem.Str) = some (.ref fa) := by
      have e : (HandSHeadRun.topDef (OpenLaw.row PySem.Challenge.rw_airhours_k11_stations_refused).prog 47).name = ("law" : PySem.Str) := by kernel_rfl
      rw [← e]
      exact hmg0
    letI : Air.Kf := ⟨K⟩
    have m : Air.ModOk K11.Γ K11.kn K11.kw (He.ga K "House") mg _ _ := K11.modOk KX G c.t.d c.more
    obtain ⟨fd, D, hb⟩ := K11.lawOk KX G c.t.d c.more
    have e := hmg.symm.trans (D.at_ (by decide +kernel))
    cases e
    refine ⟨K, KX, fd, K11.tf.map (He.cT K), _, Air.tabs_empty c, Air.tabs_out c, Air.tabs_hd KX c, hb, fun H a ns hl _ hH hS => ?_, fun base _ _ hT => Air.law_ok (P := (PySem.Challenge.rw_airhours_k11_stations_refused).prog) (w := w) (base := base) (c := ⟨He.ga K "House", Air.tbOf K K11.tf⟩) (n := 24) m hT D⟩
    obtain ⟨J, hp⟩ := plain ns hl
    exact Air.law_sp hp (Air.tabs_at hH) hS
theorem PySem.Challenge.cw_airhours_k11_stations_refused_holds : PySem.Challenge.rw_airhours_k11_stations_refused.Holds :=
  K11.end_of K11.plain
