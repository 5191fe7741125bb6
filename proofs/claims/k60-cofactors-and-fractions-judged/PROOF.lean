import PyProof.Rows.All
import Wide.All
import OpenK.AllK
import Wide.FinOn
import HandS.List
import HandS.Text
import HandS.ForMost
import HandS.ForExc
import HandS.Walk
import HandS.Lambda
import HandS.TupAny
import HandS.TupMul
import HandS.Gcd
import HandS.IsInst
import HandS.Style
import HandS.Wide
import HandS.RaiseMore
import HandS.Defaults
import HandS.Iter
import HandS.Zip
import KE.GoesEnum
import HandS.Comp
import HandS.Exc
import HandS.Dict
import HandS.Deep
import PyProof.Rows.ReprR
import PyProof.ExcBaseAll.ValueError
import HandS.ExcIs
import HandS.HeadHook4
import HandS.HeadWalk
import HandS.Head0
import HandS.Head1
import HandS.Head2
import HandS.Head3
import HandS.HeadEnd
import HandS.HeadHook1
import HandS.HeadHook2
import HandS.HeadHook3
import PyProof.ReprLen
import PySem.Challenge.RW_entrybook_k60_cofactors_and_fractions_ju
set_option Elab.async false
set_option linter.all false
/-! Ev0: plain data, and what a small part of the language does with it (no heap): own work. -/
namespace Ev
open PySem

/-- data, by value; st: the one drawing state; exc: a caught error of an own class with its field -/
inductive D where
  | non | bl (b : Bool) | int (i : Int) | str (x : Str) | tup (xs : List D) | lst (xs : List D) | edic | st | exc (c : Str) (p : D) | scr (n : Nat)

/-- no list, no dict within -/
def D.imm : D → Bool
  | .non | .bl _ | .int _ | .str _ => true
  | .tup xs => immAll xs
  | .lst _ | .edic | .st | .exc _ _ | .scr _ => false
where immAll : List D → Bool
  | [] => true
  | x :: xs => x.imm && immAll xs

/-- as the library's data; none of the odd ones -/
def D.py : D → PyData
  | .non => .none
  | .bl b => .bool b
  | .int i => .int i
  | .str x => .str x
  | .tup xs => .tuple (pyAll xs)
  | .lst xs => .list (pyAll xs)
  | .edic | .st | .exc _ _ | .scr _ => .none
where pyAll : List D → List PyData
  | [] => []
  | x :: xs => x.py :: pyAll xs
def D.ok : D → Bool
  | .non | .bl _ | .int _ | .str _ => true
  | .tup xs | .lst xs => okAll xs
  | .edic | .st | .exc _ _ | .scr _ => false
where okAll : List D → Bool
  | [] => true
  | x :: xs => x.ok && okAll xs
/-- what may be compared -/
def D.cmp (d : D) : Bool := d.ok && SeqAt.shaped d.py
/-- what may be shown -/
def D.shw (d : D) : Bool := d.ok && d.py.showable && decide (d.py.depth ≤ 64) && decide (d.py.shown.length ≤ sizeLine)

inductive RV where
  | im (d : D) | mu (xs : List D)
def RV.d : RV → D
  | .im d => d
  | .mu xs => .lst xs
inductive Slot where
  | un | im (d : D) | mu (xs : List D) | fn (k : Nat)
def RV.slot : RV → Slot
  | .im d => .im d
  | .mu xs => .mu xs
abbrev Lo := List Slot
/-- the drawing state: the great cells that are left, all cells, the rest, the turn -/
structure DS where
  great : List Int
  cells : List Int
  rest : Int
  turn : Int
inductive Res (α : Type) where
  | ok (a : α) (s : DS) | exc (c : Str) (p : D) (s : DS) | stuck
abbrev Sm (α : Type) := Lo → DS → Res α
def Res.bind {α β : Type} (r : Res α) (k : α → DS → Res β) : Res β := match r with
  | .ok a s => k a s
  | .exc c p s => .exc c p s
  | .stuck => .stuck
def lift {α : Type} (o : Option α) (s : DS) : Res α := match o with
  | some a => .ok a s
  | none => .stuck

/-! ### values -/
def MulOk (i j : Int) : Bool := decide (i.natAbs.log2 + j.natAbs.log2 < 1000000)
def DivOk (i j : Int) : Bool := decide (j ≠ 0) && (decide (j.natAbs.log2 < 9000) || decide (i.natAbs.log2 ≤ j.natAbs.log2 + 4500))
def PowOk (i j : Int) : Bool := decide (0 ≤ j) && decide (j ≤ 1000000) && decide (i.natAbs < 2 ^ 64)
def oAdd : D → D → Option RV
  | .int i, .int j => some (.im (.int (i + j)))
  | .str x, .str y => if x.length + y.length ≤ sizeLine then some (.im (.str (x ++ y))) else none
  | .tup xs, .tup ys => if xs.length + ys.length ≤ sizeLine then some (.im (.tup (xs ++ ys))) else none
  | .lst xs, .lst ys => if xs.length + ys.length ≤ sizeLine then some (.mu (xs ++ ys)) else none
  | _, _ => none
def oSub : D → D → Option RV
  | .int i, .int j => some (.im (.int (i - j)))
  | _, _ => none
def oMul : D → D → Option RV
  | .int i, .int j => if MulOk i j then some (.im (.int (i * j))) else none
  | .lst xs, .int j => if -(2 ^ 63) ≤ j ∧ j < 2 ^ 63 ∧ xs.length * j.toNat ≤ sizeLine then some (.mu (List.flatten (List.replicate j.toNat xs))) else none
  | .tup xs, .int j => if 0 < xs.length ∧ 2 ≤ j ∧ j ≤ 1000 ∧ xs.length ≤ 1000 then some (.im (.tup (List.flatten (List.replicate j.toNat xs)))) else if (xs = [] ∨ j = 1) ∧ -(2 ^ 63) ≤ j ∧ j < 2 ^ 63 then some (.im (.tup xs)) else none
  | _, _ => none
def oDiv : D → D → Option RV
  | .int i, .int j => if DivOk i j then some (.im (.int (i.fdiv j))) else none
  | _, _ => none
def oMod : D → D → Option RV
  | .int i, .int j => if j ≠ 0 then some (.im (.int (i.fmod j))) else none
  | _, _ => none
def oPow : D → D → Option RV
  | .int i, .int j => if PowOk i j then some (.im (.int (i ^ j.toNat))) else none
  | _, _ => none
def oEq (a b : D) : Option Bool := if a.cmp && b.cmp then some (PyData.eqv a.py b.py) else none
def oNe (a b : D) : Option Bool := (oEq a b).map (!·)
def oLt : D → D → Option Bool
  | .int i, .int j => some (decide (i < j))
  | _, _ => none
def oLe : D → D → Option Bool
  | .int i, .int j => some (decide (i ≤ j))
  | _, _ => none
def oGt : D → D → Option Bool
  | .int i, .int j => some (decide (j < i))
  | _, _ => none
def oGe : D → D → Option Bool
  | .int i, .int j => some (decide (j ≤ i))
  | _, _ => none
/-- the classes that isinstance is asked of -/
inductive Ty where
  | int | str | tuple | list | bool | dict
  deriving DecidableEq
def oIdx : D → D → Option D
  | .tup xs, .int i => (L2.ixN xs.length i).bind fun k => xs[k]?
  | .lst xs, .int i => (L2.ixN xs.length i).bind fun k => xs[k]?
  | .str x, .int i => (L2.ixN x.cps.toList.length i).bind fun k => (x.cps.toList[k]?).map fun c => .str ⟨#[c]⟩
  | _, _ => none
def oLen : D → Option D
  | .tup xs => some (.int xs.length)
  | .lst xs => some (.int xs.length)
  | .str x => some (.int x.length)
  | .scr n => some (.int n)
  | _ => none
def oNeg : D → Option RV
  | .int i => some (.im (.int (-i)))
  | _ => none
def oAbs : D → Option RV
  | .int i => some (.im (.int (if i < 0 then -i else i)))
  | _ => none
def oGcd : D → D → Option RV
  | .int i, .int j => some (.im (.int ((Nat.gcd i.natAbs j.natAbs : Nat) : Int)))
  | _, _ => none
def oMax : D → D → Option RV
  | .int i, .int j => some (.im (.int (if j > i then j else i)))
  | _, _ => none
def oMin : D → D → Option RV
  | .int i, .int j => some (.im (.int (if j < i then j else i)))
  | _, _ => none
/-- the items of what is walked -/
def D.seq : D → Option (List D)
  | .tup xs => some xs
  | .lst xs => some xs
  | .str x => some (x.cps.toList.map fun c => .str ⟨#[c]⟩)
  | _ => none
def D.items : D → Option (List D)
  | .tup xs => some xs
  | .lst xs => some xs
  | _ => none
def D.truth : D → Option Bool
  | .bl b => some b
  | _ => none
end Ev

/-! Ev1: what an expression, a test, a statement comes to, over plain data: own work. -/
namespace Ev
open PySem

/-! ### operands (read only) and values -/
def pV (i : Nat) : Sm D := fun env s => match env[i]? with
  | some (.im d) => .ok d s
  | some (.mu xs) => .ok (.lst xs) s
  | _ => .stuck
def eV (i : Nat) : Sm RV := fun env s => match env[i]? with
  | some (.im d) => .ok (.im d) s
  | _ => .stuck
/-- a list of one's own is handed out -/
def eMv (i : Nat) : Sm RV := fun env s => match env[i]? with
  | some (.im d) => .ok (.im d) s
  | some (.mu xs) => .ok (.mu xs) s
  | _ => .stuck
def eC (d : D) : Sm RV := fun _ s => .ok (.im d) s
def pE (f : Sm RV) : Sm D := fun env s => (f env s).bind fun r s => .ok r.d s
def e1 (o : D → Option RV) (a : Sm D) : Sm RV := fun env s => (a env s).bind fun x s => lift (o x) s
def e2 (o : D → D → Option RV) (a b : Sm D) : Sm RV := fun env s => (a env s).bind fun x s => (b env s).bind fun y s => lift (o x y) s
def eIdx (a b : Sm D) : Sm RV := e2 (fun x y => (oIdx x y).map .im) a b
/-- a bound of a slice -/
def optI (a : Option (Sm D)) : Sm (Option Int) := fun env s => match a with
  | none => .ok none s
  | some f => (f env s).bind fun x s => match x with
    | .int i => .ok (some i) s
    | _ => .stuck
def cutD {α : Type} (xs : List α) (lo hi : Option Int) : List α := (xs.drop (HT.sIx xs.length 0 lo)).take (HT.sIx xs.length xs.length hi - HT.sIx xs.length 0 lo)
def oSlice (x : D) (lo hi : Option Int) : Option RV := match x with
  | .lst xs => some (.mu (cutD xs lo hi))
  | .tup xs => some (.im (.tup (cutD xs lo hi)))
  | .str x => some (.im (.str (L2.cutS x lo hi)))
  | _ => none
/-- x[a:b] -/
def eSl (a : Sm D) (lo hi : Option (Sm D)) : Sm RV := fun env s => (a env s).bind fun x s => (optI lo env s).bind fun i s => (optI hi env s).bind fun j s => lift (oSlice x i j) s
/-- x[::-1] -/
def oRev : D → Option RV
  | .lst xs => some (.mu xs.reverse)
  | .tup xs => some (.im (.tup xs.reverse))
  | _ => none
/-! ### lists of arguments -/
def aNil : Sm (List D) := fun _ s => .ok [] s
def aCons (f : Sm RV) (r : Sm (List D)) : Sm (List D) := fun env s => (f env s).bind fun x s => (r env s).bind fun xs s => .ok (x.d :: xs) s
def eTup (a : Sm (List D)) : Sm RV := fun env s => (a env s).bind fun xs s => if xs.length ≤ sizeLine then .ok (.im (.tup xs)) s else .stuck
def eLst (a : Sm (List D)) : Sm RV := fun env s => (a env s).bind fun xs s => if xs.length ≤ sizeLine then .ok (.mu xs) s else .stuck
/-! ### calls of defs; b: a list of one's own is lent -/
def RV.flat : RV → Bool
  | .im d => d.imm
  | .mu xs => D.imm.immAll xs
abbrev Fn := List D → DS → Res RV
def eCall (f : Fn) (a : Sm (List D)) : Sm RV := fun env s => (a env s).bind fun ds s => f ds s
/-- arguments of which some are lent -/
def bCons (f : Sm D) (r : Sm (List D)) : Sm (List D) := fun env s => (f env s).bind fun x s => (r env s).bind fun xs s => .ok (x :: xs) s
def eCallB (f : Fn) (a : Sm (List D)) : Sm RV := fun env s => (a env s).bind fun ds s => (f ds s).bind fun r s => if r.flat then .ok r s else .stuck
/-! ### tests -/
def tCmp (o : D → D → Option Bool) (a b : Sm D) : Sm Bool := fun env s => (a env s).bind fun x s => (b env s).bind fun y s => lift (o x y) s
def tChain (o o' : D → D → Option Bool) (a b c : Sm D) : Sm Bool := fun env s => (a env s).bind fun x s => (b env s).bind fun y s => (lift (o x y) s).bind fun k s =>
  if k then (c env s).bind fun z s => lift (o' y z) s else .ok false s
def D.isNon : D → Bool
  | .non => true
  | _ => false
def tIsN (a : Sm D) : Sm Bool := fun env s => (a env s).bind fun x s => .ok x.isNon s
/-- x is True, x is False -/
def D.isBl (b : Bool) : D → Bool
  | .bl c => c == b
  | _ => false
def tIsB (b : Bool) (a : Sm D) : Sm Bool := fun env s => (a env s).bind fun x s => .ok (x.isBl b) s
def tNot (t : Sm Bool) : Sm Bool := fun env s => (t env s).bind fun k s => .ok (!k) s
def tAnd (t u : Sm Bool) : Sm Bool := fun env s => (t env s).bind fun k s => if k then u env s else .ok false s
def tOr (t u : Sm Bool) : Sm Bool := fun env s => (t env s).bind fun k s => if k then .ok true s else u env s
def Ty.nm : Ty → String
  | .int => "int" | .str => "str" | .tuple => "tuple" | .list => "list" | .bool => "bool" | .dict => "dict"
/-- a value's type -/
def D.ty : D → Option String
  | .non => some "NoneType" | .bl _ => some "bool" | .int _ => some "int" | .str _ => some "str" | .tup _ => some "tuple" | .lst _ => some "list" | .edic => some "dict" | _ => none
def isaT : String → Ty → Bool
  | "bool", .bool | "bool", .int | "int", .int | "str", .str | "tuple", .tuple | "list", .list | "dict", .dict => true
  | _, _ => false
def oIsa (ts : List Ty) (x : D) : Option Bool := x.ty.map fun n => ts.any (isaT n)
def tIsa (ts : List Ty) (a : Sm D) : Sm Bool := fun env s => (a env s).bind fun x s => lift (oIsa ts x) s
def tVal (a : Sm D) : Sm Bool := fun env s => (a env s).bind fun x s => lift x.truth s
def eT (t : Sm Bool) : Sm RV := fun env s => (t env s).bind fun k s => .ok (.im (.bl k)) s
def eIf (t : Sm Bool) (a b : Sm RV) : Sm RV := fun env s => (t env s).bind fun k s => if k then a env s else b env s
/-! ### what is walked -/
def iP (a : Sm RV) : Sm (List D) := fun env s => (a env s).bind fun r s => lift r.d.seq s
def rangeD (i : Int) (n : Nat) : List D := (List.range n).map fun (k : Nat) => .int (i + (k : Int))
def iRange1 (a : Sm D) : Sm (List D) := fun env s => (a env s).bind fun x s => match x with
  | .int j => if j.toNat ≤ sizeLine ∧ -(2 ^ 62) ≤ j then .ok (rangeD 0 j.toNat) s else .stuck
  | _ => .stuck
def iRange2 (a b : Sm D) : Sm (List D) := fun env s => (a env s).bind fun x s => (b env s).bind fun y s => match x, y with
  | .int i, .int j => if (j - i).toNat ≤ sizeLine ∧ -(2 ^ 62) ≤ i ∧ i < 2 ^ 62 ∧ -(2 ^ 62) ≤ j ∧ j < 2 ^ 62 then .ok (rangeD i (j - i).toNat) s else .stuck
  | _, _ => .stuck
/-- range(i, j, -1) -/
def iRangeD (a b : Sm D) : Sm (List D) := fun env s => (a env s).bind fun x s => (b env s).bind fun y s => match x, y with
  | .int i, .int j => if (i - j).toNat ≤ sizeLine ∧ -(2 ^ 62) ≤ i ∧ i < 2 ^ 62 ∧ -(2 ^ 62) ≤ j ∧ j < 2 ^ 62 then .ok ((List.range (i - j).toNat).map fun (k : Nat) => .int (i - (k : Int))) s else .stuck
  | _, _ => .stuck
def enumD (xs : List D) : List D := xs.zipIdx.map fun p => .tup [.int p.2, p.1]
def zipD (xs ys : List D) : List D := (xs.zip ys).map fun p => .tup [p.1, p.2]
def iEnum (a : Sm RV) : Sm (List D) := fun env s => (a env s).bind fun r s => lift (r.d.items.map enumD) s
def zipR : D → D → Option (List D)
  | .lst xs, .lst ys => some (zipD xs ys)
  | .tup xs, .tup ys => some (zipD xs ys)
  | _, _ => none
def iZip (a b : Sm RV) : Sm (List D) := fun env s => (a env s).bind fun r s => (b env s).bind fun q s => lift (zipR r.d q.d) s
def iRev (a : Sm (List D)) : Sm (List D) := fun env s => (a env s).bind fun xs s => .ok xs.reverse s
/-! ### targets -/
inductive Tgt where
  | nm (i : Nat) | tp (ts : List Tgt)
mutual
def Tgt.put : Tgt → D → Lo → Option Lo
  | .nm i, d, env => some (env.set i (.im d))
  | .tp ts, .tup xs, env => Tgt.puts ts xs env
  | .tp ts, .lst xs, env => Tgt.puts ts xs env
  | .tp _, _, _ => none
def Tgt.puts : List Tgt → List D → Lo → Option Lo
  | [], [], env => some env
  | t :: ts, x :: xs, env => (t.put x env).bind fun env => Tgt.puts ts xs env
  | _, _, _ => none
end
/-! ### comprehensions -/
def wipeE (env : Lo) : List Nat → Lo
  | [] => env
  | v :: vs => (wipeE env vs).set v .un
def wipeOk (env : Lo) (vs : List Nat) : Bool := vs.all fun v => match env[v]? with
  | some (.mu _) => false
  | _ => true
mutual
def Tgt.inn (vs : List Nat) : Tgt → Bool
  | .nm i => vs.contains i
  | .tp ts => Tgt.inns vs ts
def Tgt.inns (vs : List Nat) : List Tgt → Bool
  | [] => true
  | t :: ts => t.inn vs && Tgt.inns vs ts
end
def lcL (tg : Tgt) (c : Sm Bool) (elt : Sm RV) (env : Lo) : List D → DS → Res (List D)
  | [], s => .ok [] s
  | x :: xs, s => match tg.put x env with
    | none => .stuck
    | some env' => match c env' s with
      | .ok true s => match elt env' s with
        | .ok y s => (lcL tg c elt env xs s).bind fun ys s => .ok (y.d :: ys) s
        | _ => .stuck
      | .ok false s => lcL tg c elt env xs s
      | _ => .stuck
def eLc (it : Sm (List D)) (tg : Tgt) (c : Sm Bool) (elt : Sm RV) (vs : List Nat) : Sm RV := fun env s =>
  (it env s).bind fun xs s => if xs.length ≤ sizeLine ∧ wipeOk env vs = true ∧ tg.inn vs = true then (lcL tg c elt (wipeE env vs) xs s).bind fun ys s => .ok (.mu ys) s else .stuck
def tYes : Sm Bool := fun _ s => .ok true s
/-! ### calls of what is built in, over lists -/
def boolsOf : List D → Option (List Bool)
  | [] => some []
  | .bl b :: xs => (boolsOf xs).map (b :: ·)
  | _ => none
def intsOf : List D → Option (List Int)
  | [] => some []
  | .int i :: xs => (intsOf xs).map (i :: ·)
  | _ => none
def oAll : D → Option RV
  | .lst xs => (boolsOf xs).map fun bs => .im (.bl (bs.all id))
  | _ => none
def oAny : D → Option RV
  | .lst xs => (boolsOf xs).map fun bs => .im (.bl (bs.any id))
  | _ => none
def oSum : D → Option RV
  | .lst xs => (intsOf xs).map fun l => .im (.int l.sum)
  | _ => none
def oTuple : D → Option RV
  | .lst xs => some (.im (.tup xs))
  | .tup xs => some (.im (.tup xs))
  | _ => none
def oList : D → Option RV
  | .lst xs => some (.mu xs)
  | .tup xs => some (.mu xs)
  | _ => none
def oLenR (x : D) : Option RV := (oLen x).map .im
def oInt : D → Option RV
  | .int i => some (.im (.int i))
  | .bl b => some (.im (.int (if b then 1 else 0)))
  | _ => none
def oRepr (x : D) : Option RV := if x.shw then some (.im (.str x.py.shown)) else none
/-! ### statements -/
inductive Out where
  | nx (env : Lo) (s : DS) | rt (r : RV) (s : DS) | bk (env : Lo) (s : DS) | ct (env : Lo) (s : DS) | exc (c : Str) (p : D) (s : DS) | stuck
abbrev Stm := Lo → DS → Out
def Res.out {α : Type} (r : Res α) (k : α → DS → Out) : Out := match r with
  | .ok a s => k a s
  | .exc c p s => .exc c p s
  | .stuck => .stuck
def sNil : Stm := fun env s => .nx env s
def sSeq (a b : Stm) : Stm := fun env s => match a env s with
  | .nx env s => b env s
  | o => o
def sBrk : Stm := fun env s => .bk env s
def sCont : Stm := fun env s => .ct env s
def sDrop (f : Sm RV) : Stm := fun env s => (f env s).out fun _ s => .nx env s
def sRet (f : Sm RV) : Stm := fun env s => (f env s).out fun r s => .rt r s
/-- return x, x a list of one's own -/
def sRetV (i : Nat) : Stm := fun env s => match env[i]? with
  | some (.im d) => .rt (.im d) s
  | some (.mu xs) => .rt (.mu xs) s
  | _ => .stuck
def sRetN : Stm := fun _ s => .rt (.im .non) s
def sIf (t : Sm Bool) (a b : Stm) : Stm := fun env s => (t env s).out fun k s => if k then a env s else b env s
def sSet (i : Nat) (f : Sm RV) : Stm := fun env s => (f env s).out fun r s => .nx (env.set i r.slot) s
def sPut (tg : Tgt) (f : Sm RV) : Stm := fun env s => (f env s).out fun r s => match r with
  | .im d => match tg.put d env with
    | some env => .nx env s
    | none => .stuck
  | .mu _ => .stuck
/-- i, j = a, b -/
def sPar (i j : Nat) (a b : Sm RV) : Stm := fun env s => (a env s).out fun r s => (b env s).out fun q s => match r with
  | .im _ => .nx ((env.set i r.slot).set j q.slot) s
  | .mu _ => if q.flat then .nx ((env.set i r.slot).set j q.slot) s else .stuck
def sAugI (i : Nat) (f : Sm D) : Stm := fun env s => match env[i]? with
  | some (.im x) => (f env s).out fun y s => match x, y with
    | .int n, .int m => .nx (env.set i (.im (.int (n + m)))) s
    | _, _ => .stuck
  | _ => .stuck
def sApp (i : Nat) (f : Sm RV) : Stm := fun env s => match env[i]? with
  | some (.mu xs) => (f env s).out fun r s => if xs.length < sizeLine then .nx (env.set i (.mu (xs ++ [r.d]))) s else .stuck
  | _ => .stuck
/-- x.extend(a list) -/
def sExt (i : Nat) (f : Sm RV) : Stm := fun env s => match env[i]? with
  | some (.mu xs) => (f env s).out fun r s => match r.d with
    | .lst ys => if xs.length + ys.length ≤ sizeLine then .nx (env.set i (.mu (xs ++ ys))) s else .stuck
    | _ => .stuck
  | _ => .stuck
/-- x.pop() -/
def sPop (i : Nat) : Stm := fun env s => match env[i]? with
  | some (.mu xs) => if xs = [] then .stuck else .nx (env.set i (.mu xs.dropLast)) s
  | _ => .stuck
/-- y = x.pop() -/
def sPopTo (j i : Nat) : Stm := fun env s => match env[i]? with
  | some (.mu xs) => match xs[xs.length - 1]? with
    | some x => .nx ((env.set i (.mu xs.dropLast)).set j (.im x)) s
    | none => .stuck
  | _ => .stuck
/-- y = x.pop(k) -/
def sPopAt (j i : Nat) (f : Sm D) : Stm := fun env s => match env[i]? with
  | some (.mu xs) => (f env s).out fun k s => match k with
    | .int n => if -(2 ^ 63) ≤ n ∧ n < 2 ^ 63 then match (seqIndex? n xs.length).bind fun m => (xs[m]?).map fun x => (m, x) with
      | some (m, x) => .nx ((env.set i (.mu (xs.eraseIdx m))).set j (.im x)) s
      | none => .stuck
      else .stuck
    | _ => .stuck
  | _ => .stuck
/-- x[k] = f -/
def sPutAt (i : Nat) (k : Sm D) (f : Sm RV) : Stm := fun env s => (f env s).out fun r s => match env[i]? with
  | some (.mu xs) => (k env s).out fun n s => match n with
    | .int n => match L2.ixN xs.length n with
      | some m => .nx (env.set i (.mu (xs.set m r.d))) s
      | none => .stuck
    | _ => .stuck
  | _ => .stuck
/-- from here on the list at i is not changed any more -/
def sFrz (i : Nat) : Stm := fun env s => match env[i]? with
  | some (.mu xs) => .nx (env.set i (.im (.lst xs))) s
  | some (.im _) => .nx env s
  | _ => .stuck
def forL (tg : Tgt) (body : Stm) : List D → Lo → DS → Out
  | [], env, s => .nx env s
  | x :: xs, env, s => match tg.put x env with
    | none => .stuck
    | some env => match body env s with
      | .nx env s => forL tg body xs env s
      | .ct env s => forL tg body xs env s
      | .bk env s => .nx env s
      | o => o
def sFor (it : Sm (List D)) (tg : Tgt) (body : Stm) : Stm := fun env s => (it env s).out fun xs s => forL tg body xs env s
def whileN (t : Sm Bool) (body : Stm) : Nat → Lo → DS → Out
  | 0, _, _ => .stuck
  | n + 1, env, s => (t env s).out fun k s => if k then match body env s with
      | .nx env s => whileN t body n env s
      | .ct env s => whileN t body n env s
      | .bk env s => .nx env s
      | o => o
    else .nx env s
def sWhile (W : Nat) (t : Sm Bool) (body : Stm) : Stm := fun env s => whileN t body W env s
def sRaise (c : Str) (p : Sm D) : Stm := fun env s => (p env s).out fun d s => if d.imm then .exc c d s else .stuck
/-! ### defs -/
def fnOf (m k : Nat) (body : Stm) : Fn := fun ds s => if ds.length = m then match body (ds.map .im ++ List.replicate k .un) s with
    | .nx _ s => .ok (.im .non) s
    | .rt r s => .ok r s
    | .exc c p s => .exc c p s
    | _ => .stuck
  else .stuck
end Ev

/-! Ev1c: more of the plain readings: the drawing state, errors, functions without a name: own work. -/
namespace Ev
open PySem
inductive Fd where
  | rest | turn
def Fd.nm : Fd → Str
  | .rest => "rest"
  | .turn => "turn"
def Fd.get : Fd → DS → Int
  | .rest, s => s.rest
  | .turn, s => s.turn
def Fd.put : Fd → DS → Int → DS
  | .rest, s, n => { s with rest := n }
  | .turn, s, n => { s with turn := n }
/-- state[..] -/
def eSt (i : Nat) (f : Fd) : Sm RV := fun env s => match env[i]? with
  | some (.im .st) => .ok (.im (.int (f.get s))) s
  | _ => .stuck
/-- state[..] = n -/
def sStI (i : Nat) (f : Fd) (e : Sm RV) : Stm := fun env s => (e env s).out fun r s => match env[i]?, r with
  | some (.im .st), .im (.int n) => .nx env (f.put s n)
  | _, _ => .stuck
/-- state['great'] != [] -/
def tGreat (i : Nat) : Sm Bool := fun env s => match env[i]? with
  | some (.im .st) => .ok (!s.great.isEmpty) s
  | _ => .stuck
/-- state['great'].pop(0) -/
def ePop0 (i : Nat) : Sm RV := fun env s => match env[i]? with
  | some (.im .st) => (match s.great with
    | g :: gs => .ok (.im (.int g)) { s with great := gs }
    | [] => .stuck)
  | _ => .stuck
/-- for .. in state['cells'] -/
def forC (c0 : List Int) (tg : Tgt) (body : Stm) : List D → Lo → DS → Out
  | [], env, s => .nx env s
  | x :: xs, env, s => match tg.put x env with
    | none => .stuck
    | some env => match body env s with
      | .nx env s => if s.cells = c0 then forC c0 tg body xs env s else .stuck
      | .ct env s => if s.cells = c0 then forC c0 tg body xs env s else .stuck
      | .bk env s => .nx env s
      | o => o
def sForC (i : Nat) (tg : Tgt) (body : Stm) : Stm := fun env s => match env[i]? with
  | some (.im .st) => forC s.cells tg body (s.cells.map .int) env s
  | _ => .stuck
/-- what is not read: nothing is promised of it -/
def sNo : Stm := fun _ _ => .stuck
/-- raise c(f) -/
def sRaiseM (c : Str) (f : Sm RV) : Stm := fun env s => (f env s).out fun _ s => .exc c .non s
/-- what a caught call comes to -/
def caughtR (isE : Str → Bool) (r : Res RV) : Res RV := match r with
  | .ok _ s => .ok (.im .non) s
  | .exc c _ s => if isE c then .ok (.im (.exc c .non)) s else .stuck
  | .stuck => .stuck
def eCaught (lam : Nat → Sm RV) (isE : Str → Bool) (i : Nat) : Sm RV := fun env s => match env[i]? with
  | some (.fn k) => caughtR isE (lam k env s)
  | _ => .stuck
/-- isinstance(e, C), C an own class of errors -/
def tIsE (isS : Str → Option Bool) (a : Sm D) : Sm Bool := fun env s => (a env s).bind fun x s => match x with
  | .non => .ok false s
  | .exc c _ => lift (isS c) s
  | _ => .stuck
/-- {} -/
def eDic : Sm RV := fun _ s => .ok (.im .edic) s
def forFn (i : Nat) (b : Stm) : List Nat → Lo → DS → Out
  | [], env, s => .nx env s
  | k :: ks, env, s => match b (env.set i (.fn k)) s with
    | .nx env s => forFn i b ks env s
    | .ct env s => forFn i b ks env s
    | .bk env s => .nx env s
    | o => o
def sForFn (ks : List Nat) (i : Nat) (b : Stm) : Stm := fun env s => forFn i b ks env s
def eCallD (fn : Fn) (dd : List D) (a : Sm (List D)) : Sm RV := fun env s => (a env s).bind fun ds s => fn (ds ++ dd) s
def absI (n : Int) : Int := if n < 0 then -n else n
/-- the state that a script begins -/
def begun (ns : List Int) : DS := ⟨(ns.filter fun n => decide (10 ^ 18 ≤ absI n)).map fun n => absI n - 10 ^ 18, ns.map absI, 0, 0⟩
/-- str(x) -/
def oStr : D → Option RV
  | .int i => if i.natAbs.log2 < 1920 then some (.im (.str (toString i))) else none
  | .str x => some (.im (.str x))
  | _ => none
end Ev

set_option maxRecDepth 100000
/-! Ev2: how plain data stand in the heap: own work. -/
namespace Ev
open PySem PySem.Spec PyProof.Rows L2

/-- where the drawing state stands: its dict, its list of great cells, its list of cells -/
structure Tk where
  a : Addr
  g : Addr
  c : Addr
  tb : List (Addr × Str)
def Tk.has (T : Tk) (b : Addr) : Prop := b = T.a ∨ b = T.g ∨ b = T.c ∨ ∃ q, (b, q) ∈ T.tb
/-- the script: known to the object, or one of the module's own -/
def SqF (K : PySem.W.Frag) (H : Hp) (a : Addr) (vs : List V) : Prop := SqL K H a vs ∧ ((∃ ob, H a = some (.frz ob (.lst vs))) ∨ ∀ H', SqL K H' a vs)
mutual
inductive Rep (K : PySem.W.Frag) (T : Tk) (M : Addr → Prop) (H : Hp) : V → D → Prop
  | non : Rep K T M H .non .non
  | bl (b : Bool) : Rep K T M H (.bl b) (.bl b)
  | int (i : Int) : Rep K T M H (.int i) (.int i)
  | str (x : Str) : x.length ≤ sizeLine → Rep K T M H (.str x) (.str x)
  | tup {a : Addr} {vs : List V} {ds : List D} : SqT K H a vs → vs.length ≤ sizeLine → Reps K T M H vs ds → Rep K T M H (.ref a) (.tup ds)
  | lst {a : Addr} {vs : List V} {ds : List D} : ¬ M a → H a = some (.lst vs) → vs.length ≤ sizeLine → Reps K T M H vs ds → Rep K T M H (.ref a) (.lst ds)
  | st : Rep K T M H (.ref T.a) .st
  | scr {a : Addr} {vs : List V} : SqF K H a vs → Rep K T M H (.ref a) (.scr vs.length)
  | edic {a : Addr} : ¬ M a → H a = some (.dK []) → Rep K T M H (.ref a) .edic
  | exc {a C : Addr} {φ : Heap → Prop} (c : Str) : PySem.W.nsIn K mainGlobals c = some (some (.ref C)) → H a = some (.ext φ) → (∀ h, φ h → ∃ oe vs, h.get? a = some oe ∧ oe.cls = .ref C ∧ oe.dict = none ∧ oe.data = .fields vs) → Rep K T M H (.ref a) (.exc c .non)
inductive Reps (K : PySem.W.Frag) (T : Tk) (M : Addr → Prop) (H : Hp) : List V → List D → Prop
  | nil : Reps K T M H [] []
  | cons {v : V} {vs : List V} {d : D} {ds : List D} : Rep K T M H v d → Reps K T M H vs ds → Reps K T M H (v :: vs) (d :: ds)
end
def StOk (T : Tk) (H : Hp) (s : DS) : Prop :=
  H T.a = some (.dK [(.inr "great", .ref T.g), (.inr "cells", .ref T.c), (.inr "rest", .int s.rest), (.inr "turn", .int s.turn)]) ∧
    H T.g = some (.lst (s.great.map V.int)) ∧ H T.c = some (.lst (s.cells.map V.int)) ∧ T.g ≠ T.c ∧ LamX.Tabs T.tb H
theorem StOk.neq {T : Tk} {H : Hp} {s : DS} (h : StOk T H s) {a : Addr} {u : HO} (e : H a = some u) (h1 : ∀ kvs, u ≠ .dK kvs) (h2 : ∀ vs, u ≠ .lst vs) (h3 : ∀ ps, u ≠ .tbl ps) : ¬ T.has a := by
  obtain ⟨k1, k2, k3, _, k4⟩ := h
  rintro (z | z | z | ⟨q, z⟩)
  · subst z; rw [k1] at e; exact h1 _ (Option.some.inj e).symm
  · subst z; rw [k2] at e; exact h2 _ (Option.some.inj e).symm
  · subst z; rw [k3] at e; exact h2 _ (Option.some.inj e).symm
  · obtain ⟨ps, w, _⟩ := k4 _ z
    rw [w] at e; exact h3 _ (Option.some.inj e).symm
theorem StOk.move {T : Tk} {H H' : Hp} {s : DS} (h : StOk T H s) (e : ∀ b u, H b = some u → (T.has b ∨ ∃ φ, u = .ext φ) → H' b = some u) : StOk T H' s := by
  obtain ⟨k1, k2, k3, k5, k4⟩ := h
  refine ⟨e _ _ k1 (.inl (.inl rfl)), e _ _ k2 (.inl (.inr (.inl rfl))), e _ _ k3 (.inl (.inr (.inr (.inl rfl)))), k5, fun p hp => ?_⟩
  obtain ⟨ps, w1, w2, w3⟩ := k4 p hp
  refine ⟨ps, e _ _ w1 (.inl (.inr (.inr (.inr ⟨p.2, hp⟩)))), w2, fun pos cv hc => ?_⟩
  obtain ⟨c, e1, e2⟩ := w3 pos cv hc
  exact ⟨c, e1, e _ _ e2 (.inr ⟨_, rfl⟩)⟩
/-- all but the drawing state is kept -/
def Ext (T : Tk) (H H' : Hp) : Prop := ∀ b o, H b = some o → ¬ T.has b → H' b = some o
theorem Ext.refl (T : Tk) (H : Hp) : Ext T H H := fun _ _ h _ => h
theorem Ext.trans {T : Tk} {H H1 H2 : Hp} (a : Ext T H H1) (b : Ext T H1 H2) : Ext T H H2 := fun c o h n => b c o (a c o h n) n
theorem Ext.of {T : Tk} {H H' : Hp} (h : Same H H') : Ext T H H' := fun c o e _ => h c o e
theorem StOk.tup {T : Tk} {H : Hp} {s : DS} (h : StOk T H s) {a : Addr} {vs : List V} (e : Rd H a (.tup vs)) : ¬ T.has a := by
  rcases e with e | ⟨o, e⟩
  · exact h.neq e (fun _ z => by cases z) (fun _ z => by cases z) (fun _ z => by cases z)
  · exact h.neq e (fun _ z => by cases z) (fun _ z => by cases z) (fun _ z => by cases z)
theorem StOk.ext_of {T : Tk} {H : Hp} {s : DS} (h : StOk T H s) {a : Addr} {φ : Heap → Prop} (z : H a = some (.ext φ)) : ¬ T.has a := h.neq z (fun _ z => by cases z) (fun _ z => by cases z) (fun _ z => by cases z)
theorem StOk.frz {T : Tk} {H : Hp} {s : DS} (h : StOk T H s) {a : Addr} {ob : Obj} {u : HO} (e : H a = some (.frz ob u)) : ¬ T.has a := h.neq e (fun _ z => by cases z) (fun _ z => by cases z) (fun _ z => by cases z)
theorem Rd.ext {T : Tk} {H H' : Hp} {a : Addr} {u : HO} (h : Rd H a u) (e : Ext T H H') (n : ¬ T.has a) : Rd H' a u := by
  rcases h with h | ⟨o, h⟩
  · exact .inl (e _ _ h n)
  · exact .inr ⟨o, e _ _ h n⟩
section
variable {K : PySem.W.Frag} {T : Tk} {M M' O : Addr → Prop} {H H' : Hp} {s s' : DS}
theorem SqT.ext {a : Addr} {vs : List V} (h : SqT K H a vs) (k : StOk T H s) (e : Ext T H H') : SqT K H' a vs := by
  rcases h with h | h
  · exact .inl (Rd.ext h e (k.tup h))
  · exact .inr h
theorem SqL.ext {a : Addr} {vs : List V} (h : SqL K H a vs) (e : Ext T H H') (n : ¬ T.has a) : SqL K H' a vs := by
  rcases h with h | h
  · exact .inl (Rd.ext h e n)
  · exact .inr h
theorem SqF.ext {a : Addr} {vs : List V} (h : SqF K H a vs) (k : StOk T H s) (e : Ext T H H') : SqF K H' a vs := by
  obtain ⟨h1, h2 | h2⟩ := h
  · obtain ⟨ob, h2⟩ := h2
    have z := e _ _ h2 (k.frz h2)
    exact ⟨.inl (.inr ⟨ob, z⟩), .inl ⟨ob, z⟩⟩
  · exact ⟨h2 _, .inr h2⟩
theorem SqF.keep {a : Addr} {vs : List V} (h : SqF K H a vs) (fz : ∀ a ob u, H a = some (.frz ob u) → H' a = some (.frz ob u)) : SqF K H' a vs := by
  obtain ⟨h1, h2 | h2⟩ := h
  · obtain ⟨ob, h2⟩ := h2
    have z := fz _ _ _ h2
    exact ⟨.inl (.inr ⟨ob, z⟩), .inl ⟨ob, z⟩⟩
  · exact ⟨h2 _, .inr h2⟩
mutual
theorem Rep.ext {v : V} {d : D} (h : Rep K T M H v d) (k : StOk T H s) (m : ∀ a, T.has a → M a) (e : Ext T H H') : Rep K T M H' v d := by
  cases h with
  | non => exact .non
  | bl b => exact .bl b
  | int i => exact .int i
  | str x z => exact .str x z
  | tup h1 h2 h3 => exact .tup (SqT.ext h1 k e) h2 (Reps.ext h3 k m e)
  | lst n h1 h2 h3 => exact .lst n (e _ _ h1 fun z => n (m _ z)) h2 (Reps.ext h3 k m e)
  | st => exact .st
  | scr h1 => exact .scr (SqF.ext h1 k e)
  | edic n h1 => exact .edic n (e _ _ h1 fun z => n (m _ z))
  | exc c h0 h1 h2 => exact .exc c h0 (e _ _ h1 (k.ext_of h1)) h2
theorem Reps.ext {v : List V} {d : List D} (h : Reps K T M H v d) (k : StOk T H s) (m : ∀ a, T.has a → M a) (e : Ext T H H') : Reps K T M H' v d := by
  cases h with
  | nil => exact .nil
  | cons h1 h2 => exact .cons (Rep.ext h1 k m e) (Reps.ext h2 k m e)
end
mutual
theorem Rep.less {v : V} {d : D} (h : Rep K T M H v d) (m : ∀ a, M' a → M a) : Rep K T M' H v d := by
  cases h with
  | non => exact .non
  | bl b => exact .bl b
  | int i => exact .int i
  | str x z => exact .str x z
  | tup h1 h2 h3 => exact .tup h1 h2 (Reps.less h3 m)
  | lst n h1 h2 h3 => exact .lst (fun z => n (m _ z)) h1 h2 (Reps.less h3 m)
  | st => exact .st
  | scr h1 => exact .scr h1
  | edic n h1 => exact .edic (fun z => n (m _ z)) h1
  | exc c h0 h1 h2 => exact .exc c h0 h1 h2
theorem Reps.less {v : List V} {d : List D} (h : Reps K T M H v d) (m : ∀ a, M' a → M a) : Reps K T M' H v d := by
  cases h with
  | nil => exact .nil
  | cons h1 h2 => exact .cons (Rep.less h1 m) (Reps.less h2 m)
end
/-! a heap in which the mutable ones have changed, all others are kept -/
theorem SqT.keep {a : Addr} {vs : List V} (h : SqT K H a vs) (e0 : ∀ a u, H a = some u → (∀ vs, u ≠ .lst vs) → H' a = some u) : SqT K H' a vs := by
  rcases h with (h | ⟨ob, h⟩) | h
  · exact .inl (.inl (e0 _ _ h fun vs z => by cases z))
  · exact .inl (.inr ⟨ob, e0 _ _ h fun vs z => by cases z⟩)
  · exact .inr h
mutual
theorem Rep.keep {v : V} {d : D} (h : Rep K T M H v d) (e0 : ∀ a u, H a = some u → (∀ vs, u ≠ .lst vs) → H' a = some u) (e : ∀ a vs, H a = some (.lst vs) → ¬ M a → H' a = some (.lst vs)) : Rep K T M H' v d := by
  cases h with
  | non => exact .non
  | bl b => exact .bl b
  | int i => exact .int i
  | str x z => exact .str x z
  | tup h1 h2 h3 => exact .tup (SqT.keep h1 e0) h2 (Reps.keep h3 e0 e)
  | lst n h1 h2 h3 => exact .lst n (e _ _ h1 n) h2 (Reps.keep h3 e0 e)
  | st => exact .st
  | scr h1 => exact .scr (SqF.keep h1 fun a ob u z => e0 _ _ z fun vs w => by cases w)
  | edic n h1 => exact .edic n (e0 _ _ h1 fun vs w => by cases w)
  | exc c h0 h1 h2 => exact .exc c h0 (e0 _ _ h1 fun vs w => by cases w) h2
theorem Reps.keep {v : List V} {d : List D} (h : Reps K T M H v d) (e0 : ∀ a u, H a = some u → (∀ vs, u ≠ .lst vs) → H' a = some u) (e : ∀ a vs, H a = some (.lst vs) → ¬ M a → H' a = some (.lst vs)) : Reps K T M H' v d := by
  cases h with
  | nil => exact .nil
  | cons h1 h2 => exact .cons (Rep.keep h1 e0 e) (Reps.keep h2 e0 e)
end
/-! .. a new object stands: no list of what is told stands at it -/
mutual
theorem Rep.more {v : V} {d : D} {p : Addr} (h : Rep K T M H v d) (n : H p = none) : Rep K T (fun a => M a ∨ a = p) H v d := by
  cases h with
  | non => exact .non
  | bl b => exact .bl b
  | int i => exact .int i
  | str x z => exact .str x z
  | tup h1 h2 h3 => exact .tup h1 h2 (Reps.more h3 n)
  | lst m h1 h2 h3 =>
    refine .lst (fun z => ?_) h1 h2 (Reps.more h3 n)
    rcases z with z | z
    · exact m z
    · subst z
      rw [n] at h1; cases h1
  | st => exact .st
  | scr h1 => exact .scr h1
  | edic m h1 =>
    refine .edic (fun z => ?_) h1
    rcases z with z | z
    · exact m z
    · subst z
      rw [n] at h1; cases h1
  | exc c h0 h1 h2 => exact .exc c h0 h1 h2
theorem Reps.more {v : List V} {d : List D} {p : Addr} (h : Reps K T M H v d) (n : H p = none) : Reps K T (fun a => M a ∨ a = p) H v d := by
  cases h with
  | nil => exact .nil
  | cons h1 h2 => exact .cons (Rep.more h1 n) (Reps.more h2 n)
end
mutual
theorem Rep.flat {v : V} : ∀ {d : D}, d.imm = true → Rep K T M H v d → Rep K T M' H v d
  | .non, _, h => by cases h; exact .non
  | .bl b, _, h => by cases h; exact .bl b
  | .int i, _, h => by cases h; exact .int i
  | .str x, _, h => by cases h with
    | str x z => exact .str x z
  | .tup ds, e, h => by
    cases h with
    | tup h1 h2 h3 => exact .tup h1 h2 (Reps.flat (by simpa [D.imm] using e) h3)
  | .lst _, e, _ => by simp [D.imm] at e
  | .edic, e, _ => by simp [D.imm] at e
  | .st, e, _ => by simp [D.imm] at e
  | .exc _ _, e, _ => by simp [D.imm] at e
  | .scr _, e, _ => by simp [D.imm] at e
theorem Reps.flat {v : List V} : ∀ {d : List D}, D.imm.immAll d = true → Reps K T M H v d → Reps K T M' H v d
  | [], _, h => by cases h; exact .nil
  | x :: xs, e, h => by
    cases h with
    | cons h1 h2 =>
      have e' : x.imm = true ∧ D.imm.immAll xs = true := by simpa [D.imm.immAll] using e
      exact .cons (Rep.flat e'.1 h1) (Reps.flat e'.2 h2)
end
theorem Reps.len : ∀ {vs : List V} {ds : List D}, Reps K T M H vs ds → vs.length = ds.length
  | _, _, .nil => rfl
  | _, _, .cons _ h => congrArg Nat.succ (Reps.len h)
theorem Reps.get : ∀ {vs : List V} {ds : List D} {i : Nat} {d : D}, Reps K T M H vs ds → ds[i]? = some d → ∃ v, vs[i]? = some v ∧ Rep K T M H v d
  | _, _, _, _, .nil, e => by simp at e
  | _, _, 0, _, .cons h _, e => by simp at e; subst e; exact ⟨_, rfl, h⟩
  | _, _, i + 1, d, .cons _ h, e => by
    obtain ⟨v, h1, h2⟩ := Reps.get (i := i) (d := d) h (by simpa using e)
    exact ⟨v, by simpa using h1, h2⟩
theorem Reps.getV : ∀ {vs : List V} {ds : List D} {i : Nat} {v : V}, Reps K T M H vs ds → vs[i]? = some v → ∃ d, ds[i]? = some d ∧ Rep K T M H v d
  | _, _, _, _, .nil, e => by simp at e
  | _, _, 0, _, .cons h _, e => by simp at e; subst e; exact ⟨_, rfl, h⟩
  | _, _, i + 1, d, .cons _ h, e => by
    obtain ⟨v, h1, h2⟩ := Reps.getV (i := i) (v := d) h (by simpa using e)
    exact ⟨v, by simpa using h1, h2⟩
theorem Reps.app : ∀ {vs ws : List V} {ds es : List D}, Reps K T M H vs ds → Reps K T M H ws es → Reps K T M H (vs ++ ws) (ds ++ es)
  | _, _, _, _, .nil, h => h
  | _, _, _, _, .cons h1 h2, h => .cons h1 (Reps.app h2 h)
theorem Reps.take : ∀ {vs : List V} {ds : List D} (n : Nat), Reps K T M H vs ds → Reps K T M H (vs.take n) (ds.take n)
  | _, _, 0, _ => .nil
  | _, _, _ + 1, .nil => .nil
  | _, _, n + 1, .cons h t => .cons h (Reps.take n t)
theorem Reps.drop : ∀ {vs : List V} {ds : List D} (n : Nat), Reps K T M H vs ds → Reps K T M H (vs.drop n) (ds.drop n)
  | _, _, 0, h => h
  | _, _, _ + 1, .nil => .nil
  | _, _, n + 1, .cons _ t => Reps.drop n t
theorem Reps.set {v : V} {d : D} (r : Rep K T M H v d) : ∀ {vs : List V} {ds : List D} (i : Nat), Reps K T M H vs ds → Reps K T M H (vs.set i v) (ds.set i d)
  | _, _, _, .nil => .nil
  | _, _, 0, .cons _ t => .cons r t
  | _, _, i + 1, .cons q t => .cons q (Reps.set r i t)
theorem Reps.rev : ∀ {vs : List V} {ds : List D}, Reps K T M H vs ds → Reps K T M H vs.reverse ds.reverse
  | _, _, .nil => .nil
  | _, _, .cons h t => by
    rw [List.reverse_cons, List.reverse_cons]
    exact (Reps.rev t).app (.cons h .nil)
theorem Reps.erase : ∀ {vs : List V} {ds : List D} (i : Nat), Reps K T M H vs ds → Reps K T M H (vs.eraseIdx i) (ds.eraseIdx i)
  | _, _, _, .nil => .nil
  | _, _, 0, .cons _ t => t
  | _, _, i + 1, .cons q t => .cons q (Reps.erase i t)
theorem Reps.rep {vs : List V} {ds : List D} (h : Reps K T M H vs ds) : ∀ n : Nat, Reps K T M H (List.flatten (List.replicate n vs)) (List.flatten (List.replicate n ds))
  | 0 => .nil
  | n + 1 => by
    rw [List.replicate_succ, List.replicate_succ, List.flatten_cons, List.flatten_cons]
    exact h.app (Reps.rep h n)
/-! as the library's data -/
mutual
theorem Rep.dp {v : V} : ∀ {d : D}, d.ok = true → Rep K T M H v d → Dp K H v d.py
  | .non, _, h => by cases h; exact .non
  | .bl b, _, h => by cases h; exact .bl b
  | .int i, _, h => by cases h; exact .int i
  | .str x, _, h => by cases h; exact .str x
  | .tup ds, e, h => by
    cases h with
    | tup h1 h2 h3 => exact .tup h1 (Reps.dp (by simpa [D.ok] using e) h3)
  | .lst ds, e, h => by
    cases h with
    | lst _ h1 h2 h3 => exact .lst (SqL.of h1) (Reps.dp (by simpa [D.ok] using e) h3)
  | .edic, e, _ => by simp [D.ok] at e
  | .st, e, _ => by simp [D.ok] at e
  | .exc _ _, e, _ => by simp [D.ok] at e
  | .scr _, e, _ => by simp [D.ok] at e
theorem Reps.dp {v : List V} : ∀ {d : List D}, D.ok.okAll d = true → Reps K T M H v d → DpAll K H v (D.py.pyAll d)
  | [], _, h => by cases h; exact .nil
  | x :: xs, e, h => by
    cases h with
    | cons h1 h2 =>
      have e' : x.ok = true ∧ D.ok.okAll xs = true := by simpa [D.ok.okAll] using e
      exact .cons (Rep.dp e'.1 h1) (Reps.dp e'.2 h2)
end

/-! ### what is read: a told value, or a list of one's own -/
def RepP (K : PySem.W.Frag) (T : Tk) (M O : Addr → Prop) (H : Hp) (v : V) (d : D) : Prop :=
  Rep K T M H v d ∨ ∃ a vs xs, v = .ref a ∧ d = .lst xs ∧ O a ∧ H a = some (.lst vs) ∧ vs.length ≤ sizeLine ∧ Reps K T M H vs xs
theorem RepP.int {v : V} {i : Int} (h : RepP K T M O H v (.int i)) : v = .int i := by
  rcases h with h | ⟨_, _, _, _, e, _⟩
  · cases h; rfl
  · cases e
theorem RepP.str {v : V} {x : Str} (h : RepP K T M O H v (.str x)) : v = .str x ∧ x.length ≤ sizeLine := by
  rcases h with h | ⟨_, _, _, _, e, _⟩
  · cases h with
    | str x z => exact ⟨rfl, z⟩
  · cases e
theorem RepP.bl {v : V} {b : Bool} (h : RepP K T M O H v (.bl b)) : v = .bl b := by
  rcases h with h | ⟨_, _, _, _, e, _⟩
  · cases h; rfl
  · cases e
theorem RepP.tup {v : V} {xs : List D} (h : RepP K T M O H v (.tup xs)) : ∃ a vs, v = .ref a ∧ SqT K H a vs ∧ vs.length ≤ sizeLine ∧ Reps K T M H vs xs := by
  rcases h with h | ⟨_, _, _, _, e, _⟩
  · cases h with
    | tup h1 h2 h3 => exact ⟨_, _, rfl, h1, h2, h3⟩
  · cases e
theorem RepP.lst {v : V} {xs : List D} (h : RepP K T M O H v (.lst xs)) : ∃ a vs, v = .ref a ∧ H a = some (.lst vs) ∧ vs.length ≤ sizeLine ∧ Reps K T M H vs xs := by
  rcases h with h | ⟨a, vs, ys, e1, e, _, h1, h2, h3⟩
  · cases h with
    | lst _ h1 h2 h3 => exact ⟨_, _, rfl, h1, h2, h3⟩
  · cases e
    exact ⟨a, vs, e1, h1, h2, h3⟩
theorem RepP.dp {v : V} {d : D} (h : RepP K T M O H v d) (e : d.ok = true) : Dp K H v d.py := by
  rcases h with h | ⟨a, vs, xs, rfl, rfl, _, h1, h2, h3⟩
  · exact h.dp e
  · exact .lst (SqL.of h1) (h3.dp (by simpa [D.ok] using e))
end
end Ev

/-! Ev3: a frame's state against plain data; readings of expressions by plain data: own work. -/
namespace Ev
open PySem PySem.Spec PyProof.Rows L2

theorem PE.mono {X : Cx} {e : Expr} {t t' : TE} (h : PE X e t) (m : ∀ σ H Q, t' σ H Q → t σ H Q) : PE X e t' := ⟨fun pins s σ H Q I q => h.run pins s σ H Q I (m σ H Q q)⟩
theorem PT.mono {X : Cx} {e : Expr} {t t' : TT} (h : PT X e t) (m : ∀ σ H Q, t' σ H Q → t σ H Q) : PT X e t' := ⟨fun pins s σ H Q I q => h.run pins s σ H Q I (m σ H Q q)⟩
theorem PA.mono {X : Cx} {e : List Expr} {t t' : TA} (h : PA X e t) (m : ∀ σ H Q, t' σ H Q → t σ H Q) : PA X e t' := ⟨fun pos pins s σ H Q I q => h.run pos pins s σ H Q I (m σ H Q q)⟩
theorem PS.mono {X : Cx} {e : Stmt} {t t' : TS} (h : PS X e t) (m : ∀ D σ H, t' D σ H → t D σ H) : PS X e t' := ⟨fun pins s σ H D I q => h.run pins s σ H D I (m D σ H q)⟩
theorem PSs.mono {X : Cx} {e : List Stmt} {t t' : TS} (h : PSs X e t) (m : ∀ D σ H, t' D σ H → t D σ H) : PSs X e t' := ⟨fun pins s σ H D I q => h.run pins s σ H D I (m D σ H q)⟩
theorem PI.mono {X : Cx} {g e : Expr} {t t' : TI} (h : PI X g e t) (m : ∀ σ H R, t' σ H R → t σ H R) : PI X g e t' := ⟨fun pins s σ H Q I q => h.run pins s σ H Q I (m σ H Q q)⟩
theorem PG.mono {X : Cx} {e : Expr} {t t' : TG} (h : PG X e t) (m : ∀ v σ H Q, t' v σ H Q → t v σ H Q) : PG X e t' := ⟨fun pins s σ H v u Q I r q => h.run pins s σ H v u Q I r (m v σ H Q q)⟩

/-- what a proof of readings leans on: the written part, how a refusal stands in the heap -/
structure Pm where
  K : PySem.W.Frag
  xi : Str → D → Value → Option Addr → Hp → Prop
  clo : Nat → Addr → List (Addr × (Heap → Prop)) → Prop
  tb : List (Addr × Str)
/-- objects of which something is known for good -/
def HoldE (H : Hp) (l : List (Addr × (Heap → Prop))) : Prop := ∀ p ∈ l, H p.1 = some (.ext p.2)
/-- what is fixed in a frame: the drawing state's place, what others may change, the heap at the entry -/
structure Gh where
  T : Tk
  Mc : Addr → Prop
  Hc : Hp
  hd : List (V × D)
  Md : Addr → Prop
  he : List (Addr × HO)
  hx : List (Addr × (Heap → Prop))
def Own (σ : L2.St) (env : Lo) (a : Addr) : Prop := ∃ (i : Nat) (xs : List D), env[i]? = some (Slot.mu xs) ∧ σ[i]? = some (some (V.ref a))
def Mx (G : Gh) (σ : L2.St) (env : Lo) (a : Addr) : Prop := G.Mc a ∨ Own σ env a
structure FS (P : Pm) (G : Gh) (σ : L2.St) (H : Hp) (env : Lo) (s : DS) : Prop where
  st : StOk G.T H s
  mt : ∀ a, G.T.has a → G.Mc a
  dom : ∀ a, G.Mc a → G.Hc a ≠ none ∨ G.Md a
  md : ∀ a, G.Md a → ¬ G.T.has a ∧ H a ≠ none ∧ ¬ Own σ env a
  ext : Ext G.T G.Hc H
  len : env.length = σ.length
  im : ∀ (i : Nat) (d : D), env[i]? = some (Slot.im d) → ∃ v, σ[i]? = some (some v) ∧ Rep P.K G.T (Mx G σ env) H v d
  mu : ∀ (i : Nat) (xs : List D), env[i]? = some (Slot.mu xs) → ∃ (a : Addr) (vs : List V), σ[i]? = some (some (.ref a)) ∧ G.Hc a = none ∧ H a = some (.lst vs) ∧ vs.length ≤ sizeLine ∧ Reps P.K G.T (Mx G σ env) H vs xs
  sep : ∀ (i j : Nat) (xs ys : List D) (a : Addr), env[i]? = some (Slot.mu xs) → env[j]? = some (Slot.mu ys) → σ[i]? = some (some (V.ref a)) → σ[j]? = some (some (V.ref a)) → i = j
  held : ∀ p, p ∈ G.hd → Rep P.K G.T (Mx G σ env) H p.1 p.2
  fn : ∀ (i k : Nat), env[i]? = some (Slot.fn k) → ∃ (a : Addr) (l : List (Addr × (Heap → Prop))), σ[i]? = some (some (V.ref a)) ∧ P.clo k a l ∧ HoldE H l
  hel : ∀ p, p ∈ G.he → H p.1 = some p.2 ∧ ¬ Mx G σ env p.1
  tb : G.T.tb = P.tb
  hex : HoldE H G.hx
theorem StOk.some_of {T : Tk} {H : Hp} {s : DS} (h : StOk T H s) {a : Addr} (z : T.has a) : H a ≠ none := by
  obtain ⟨h1, h2, h3, _, h4⟩ := h
  rcases z with z | z | z | ⟨q, z⟩
  · rw [z, h1]; simp
  · rw [z, h2]; simp
  · rw [z, h3]; simp
  · obtain ⟨ps, w, _⟩ := h4 _ z
    have w : H a = _ := w
    rw [w]; simp
section
variable {P : Pm} {G : Gh} {σ : L2.St} {H H' : Hp} {env : Lo} {s s' : DS}
theorem FS.mtx (f : FS P G σ H env s) : ∀ a, G.T.has a → Mx G σ env a := fun a h => .inl (f.mt a h)
theorem FS.domT (f : FS P G σ H env s) {a : Addr} (h : G.T.has a) : G.Hc a ≠ none := by
  rcases f.dom a (f.mt a h) with z | z
  · exact z
  · exact absurd h (f.md a z).1
theorem Ext.live {T : Tk} {H H' : Hp} (e : Ext T H H') {a : Addr} (h : H a ≠ none) (n : ¬ T.has a) : H' a ≠ none := by
  cases q : H a with
  | none => exact absurd q h
  | some o => rw [e a o q n]; simp
theorem FS.fresh (f : FS P G σ H env s) {p : Addr} (h : H p = none) : ¬ Mx G σ env p := by
  rintro (z | ⟨i, xs, e1, e2⟩)
  · by_cases t : G.T.has p
    · exact f.st.some_of t h
    · cases q : G.Hc p with
      | none =>
        rcases f.dom p z with z | z
        · exact z q
        · exact (f.md p z).2.1 h
      | some o => rw [f.ext p o q t] at h; cases h
  · obtain ⟨a, vs, h1, _, h3, _⟩ := f.mu i xs e1
    rw [e2] at h1; cases h1
    rw [h] at h3; cases h3
theorem FS.dm (f : StOk G.T H' s') (e : Ext G.T H H') {p : Addr} (h : H' p = none) : H p = none := by
  by_cases t : G.T.has p
  · exact absurd h (f.some_of t)
  · cases q : H p with
    | none => rfl
    | some o => rw [e p o q t] at h; cases h
theorem FS.go (f : FS P G σ H env s) (e : Ext G.T H H') (k : StOk G.T H' s') : FS P G σ H' env s' where
  st := k
  mt := f.mt
  dom := f.dom
  md := fun a h => ⟨(f.md a h).1, e.live (f.md a h).2.1 (f.md a h).1, (f.md a h).2.2⟩
  ext := f.ext.trans e
  len := f.len
  im := fun i d h => let ⟨v, h1, h2⟩ := f.im i d h; ⟨v, h1, h2.ext f.st f.mtx e⟩
  mu := fun i xs h => by
    obtain ⟨a, vs, h1, h2, h3, h4, h5⟩ := f.mu i xs h
    refine ⟨a, vs, h1, h2, e _ _ h3 fun z => ?_, h4, h5.ext f.st f.mtx e⟩
    exact f.domT z h2
  sep := f.sep
  held := fun p h => (f.held p h).ext f.st f.mtx e
  fn := fun i k h => by
    obtain ⟨a, φ, h1, h2, h3⟩ := f.fn i k h
    exact ⟨a, φ, h1, h2, fun p hp => e _ _ (h3 p hp) (f.st.ext_of (h3 p hp))⟩
  hel := fun p h => ⟨e _ _ (f.hel p h).1 fun z => (f.hel p h).2 (.inl (f.mt _ z)), (f.hel p h).2⟩
  tb := f.tb
  hex := fun p h => e _ _ (f.hex p h) (f.st.ext_of (f.hex p h))
theorem FS.same (f : FS P G σ H env s) (e : Same H H') : FS P G σ H' env s :=
  f.go (.of e) (f.st.move fun b u h _ => e b u h)
end
def RepR (K : PySem.W.Frag) (T : Tk) (M : Addr → Prop) (H0 H : Hp) (v : V) : RV → Prop
  | .im d => Rep K T M H v d
  | .mu xs => ∃ p vs, v = .ref p ∧ H0 p = none ∧ H p = some (.lst vs) ∧ vs.length ≤ sizeLine ∧ Reps K T (fun a => M a ∨ a = p) H vs xs
theorem RepR.rep {K : PySem.W.Frag} {T : Tk} {M : Addr → Prop} {H0 H : Hp} {v : V} {r : RV} (h : RepR K T M H0 H v r) (f : ∀ p, H0 p = none → ¬ M p) : Rep K T M H v r.d := by
  cases r with
  | im d => exact h
  | mu xs =>
    obtain ⟨p, vs, rfl, h1, h2, h3, h4⟩ := h
    exact .lst (f p h1) h2 h3 (h4.less fun a z => .inl z)
theorem RepR.from {K : PySem.W.Frag} {T : Tk} {M : Addr → Prop} {H0 H1 H : Hp} {v : V} {r : RV} (h : RepR K T M H1 H v r) (f : ∀ p, H1 p = none → H0 p = none) : RepR K T M H0 H v r := by
  cases r with
  | im d => exact h
  | mu xs =>
    obtain ⟨p, vs, e, h1, h2⟩ := h
    exact ⟨p, vs, e, f p h1, h2⟩
abbrev Rl (α β : Type) := Gh → L2.St → Lo → Hp → Hp → β → α → Prop
def Cont {α β : Type} (P : Pm) (E : XK) (G : Gh) (σ : L2.St) (env : Lo) (H : Hp) (R : Hp → β → α → Prop) (r : Res α) (Q : β → Hp → Prop) : Prop := match r with
  | .ok a s => ∀ v H', FS P G σ H' env s → Ext G.T H H' → R H' v a → Q v H'
  | .exc c p s => ∀ cls d H', FS P G σ H' env s → Ext G.T H H' → P.xi c p cls d H' → E cls d H'
  | .stuck => False
def tG {α β : Type} (P : Pm) (E : XK) (R : Rl α β) (f : Sm α) (σ : L2.St) (H : Hp) (Q : β → Hp → Prop) : Prop :=
  ∃ G env s, FS P G σ H env s ∧ Cont P E G σ env H (R G σ env H) (f env s) Q
def RE (P : Pm) : Rl RV V := fun G σ env H0 H v r => RepR P.K G.T (Mx G σ env) H0 H v r
def RO (P : Pm) : Rl D V := fun G σ env _ H v d => RepP P.K G.T (Mx G σ env) (Own σ env) H v d
def RA (P : Pm) : Rl (List D) (List V) := fun G σ env _ H v d => Reps P.K G.T (Mx G σ env) H v d
def RB (P : Pm) : Rl Bool Bool := fun _ _ _ _ _ v k => v = k
abbrev tE (P : Pm) (E : XK) (f : Sm RV) : TE := tG P E (RE P) f
abbrev tO (P : Pm) (E : XK) (f : Sm D) : TE := tG P E (RO P) f
abbrev tA (P : Pm) (E : XK) (f : Sm (List D)) : TA := tG P E (RA P) f
abbrev tT (P : Pm) (E : XK) (f : Sm Bool) : TT := tG P E (RB P) f
section
variable {P : Pm} {E : XK} {G : Gh} {σ : L2.St} {H : Hp} {env : Lo}
theorem Cont.mono {α β : Type} {R : Hp → β → α → Prop} {r : Res α} {Q Q' : β → Hp → Prop} (h : Cont P E G σ env H R r Q) (m : ∀ v H', Q v H' → Q' v H') : Cont P E G σ env H R r Q' := by
  cases r with
  | ok a s => exact fun v H' f e q => m v H' (h v H' f e q)
  | exc c p s => exact h
  | stuck => exact h
theorem tG.mono {α β : Type} {R : Rl α β} {f : Sm α} {Q Q' : β → Hp → Prop} (h : tG P E R f σ H Q) (m : ∀ v H', Q v H' → Q' v H') : tG P E R f σ H Q' := by
  obtain ⟨G, env, s, fs, c⟩ := h
  exact ⟨G, env, s, fs, c.mono m⟩
/-- from a later heap -/
theorem Cont.later {α β : Type} {R R1 : Hp → β → α → Prop} {H1 : Hp} {r : Res α} {Q : β → Hp → Prop} (h : Cont P E G σ env H R r Q) (e : Ext G.T H H1) (m : ∀ s H' v a, FS P G σ H' env s → R1 H' v a → R H' v a) : Cont P E G σ env H1 R1 r Q := by
  cases r with
  | ok a s => exact fun v H' f e1 q => h v H' f (e.trans e1) (m s H' v a f q)
  | exc c p s => exact fun cls d H' f e1 q => h cls d H' f (e.trans e1) q
  | stuck => exact h
theorem Cont.laterE {H1 : Hp} {r : Res RV} {Q : V → Hp → Prop} {s1 : DS} (h : Cont P E G σ env H (RE P G σ env H) r Q) (e : Ext G.T H H1) (f1 : FS P G σ H1 env s1) : Cont P E G σ env H1 (RE P G σ env H1) r Q :=
  h.later e fun s H' v a f q => RepR.from q fun p z => FS.dm f1.st e z
theorem tG_bind {α β γ δ : Type} {R1 : Rl α β} {R2 : Rl γ δ} {f : Sm α} {k : α → Sm γ} {Q : δ → Hp → Prop} (h : tG P E R2 (fun env s => (f env s).bind fun a s => k a env s) σ H Q) :
    tG P E R1 f σ H fun v H1 => ∃ G env s a, FS P G σ H1 env s ∧ Ext G.T H H1 ∧ R1 G σ env H H1 v a ∧ Cont P E G σ env H (R2 G σ env H) (k a env s) Q ∧ ∃ s0, FS P G σ H env s0 := by
  obtain ⟨G, env, s, fs, c⟩ := h
  refine ⟨G, env, s, fs, ?_⟩
  have c : Cont P E G σ env H (R2 G σ env H) ((f env s).bind fun a s => k a env s) Q := c
  cases hf : f env s with
  | ok a s1 =>
    rw [hf] at c
    exact fun v H1 f1 e1 r1 => ⟨G, env, s1, a, f1, e1, r1, c, s, fs⟩
  | exc x p s1 =>
    rw [hf] at c
    exact c
  | stuck =>
    rw [hf] at c
    exact c
/-- the second one of two -/
theorem Cont_bind {α β γ δ : Type} {R1 : Rl α β} {R2 : Hp → δ → γ → Prop} {H1 : Hp} {f : Sm α} {k : α → DS → Res γ} {Q : δ → Hp → Prop} {s : DS} (fs : FS P G σ H1 env s) (e : Ext G.T H H1) (c : Cont P E G σ env H R2 ((f env s).bind k) Q) :
    tG P E R1 f σ H1 fun v H2 => ∃ s2 a, FS P G σ H2 env s2 ∧ Ext G.T H1 H2 ∧ R1 G σ env H1 H2 v a ∧ Cont P E G σ env H R2 (k a s2) Q := by
  refine ⟨G, env, s, fs, ?_⟩
  cases hf : f env s with
  | ok a s1 =>
    rw [hf] at c
    exact fun v H1 f1 e1 r1 => ⟨s1, a, f1, e1, r1, c⟩
  | exc x p s1 =>
    rw [hf] at c
    exact fun cls d H' f' e' q => c cls d H' f' (e.trans e') q
  | stuck =>
    rw [hf] at c
    exact c
theorem RepP.ext {H' : Hp} {s : DS} {v : V} {d : D} (h : RepP P.K G.T (Mx G σ env) (Own σ env) H v d) (f : FS P G σ H env s) (e : Ext G.T H H') : RepP P.K G.T (Mx G σ env) (Own σ env) H' v d := by
  rcases h with h | ⟨a, vs, xs, e1, e2, h1, h2, h3, h4⟩
  · exact .inl (h.ext f.st f.mtx e)
  · refine .inr ⟨a, vs, xs, e1, e2, h1, e _ _ h2 fun z => ?_, h3, h4.ext f.st f.mtx e⟩
    obtain ⟨i, ys, q1, q2⟩ := h1
    obtain ⟨b, ws, r1, r2, _⟩ := f.mu i ys q1
    rw [q2] at r1; cases r1
    exact f.domT z r2
/-! ### two operands -/
/-- what r asks of two values holds, if the plain operator gives something -/
def Ok2 (K : PySem.W.Frag) (o : D → D → Option RV) (r : R2) : Prop :=
  ∀ (T : Tk) (M O : Addr → Prop) (H : Hp) (v w : V) (x y : D) (z : RV) (Q : VK), (∀ a, O a → M a) → (∀ p, H p = none → ¬ M p) → RepP K T M O H v x → RepP K T M O H w y → o x y = some z →
    (∀ u H', Same H H' → RepR K T M H H' u z → Q u H') → r v w H Q
def Ok2T (K : PySem.W.Frag) (o : D → D → Option Bool) (r : R2) : Prop :=
  ∀ (T : Tk) (M O : Addr → Prop) (H : Hp) (v w : V) (x y : D) (z : Bool) (Q : VK), RepP K T M O H v x → RepP K T M O H w y → o x y = some z → Q (.bl z) H → r v w H Q
theorem t_e2 {o : D → D → Option RV} {r : R2} {f g : Sm D} {Q : VK} (ok : Ok2 P.K o r) (h : tE P E (e2 o f g) σ H Q) : tOp r (tO P E f) (tO P E g) σ H Q := by
  refine (tG_bind (R1 := RO P) (k := fun x env s => (g env s).bind fun y s => lift (o x y) s) h).mono fun v H1 ⟨G, env, s, x, f1, e1, r1, c, s0, f0⟩ => ?_
  refine (Cont_bind (R1 := RO P) f1 e1 c).mono fun w H2 ⟨s2, y, f2, e2, r2, c2⟩ => ?_
  cases hz : o x y with
  | none => rw [hz] at c2; exact c2.elim
  | some z =>
    rw [hz] at c2
    have r1' := RepP.ext (P := P) r1 f1 e2
    refine ok G.T (Mx G σ env) (Own σ env) H2 v w x y z Q (fun a q => .inr q) (fun p q => f2.fresh q) r1' r2 hz fun u H' sm ru => ?_
    exact c2 u H' (f2.same sm) ((e1.trans e2).trans (.of sm)) (RepR.from ru fun p q => FS.dm f1.st e1 (FS.dm f2.st e2 q))
/-- a test's value -/
abbrev tTV (P : Pm) (E : XK) (t : Sm Bool) : TE := fun σ H Q => tT P E t σ H fun k H1 => Q (.bl k) H1
theorem t_eT {t : Sm Bool} {Q : VK} (h : tE P E (eT t) σ H Q) : tTV P E t σ H Q :=
  (tG_bind (R1 := RB P) (k := fun k env s => Res.ok (RV.im (D.bl k)) s) h).mono fun v H1 ⟨G, env, s, x, f1, e1, r1, c, s0, f0⟩ => by
    have r1 : v = x := r1
    subst r1
    exact c (.bl v) H1 f1 e1 (show Rep _ _ _ _ _ _ from .bl v)
theorem t_cmp {o : D → D → Option Bool} {r : R2} {f g : Sm D} {Q' : Bool → Hp → Prop} {Q : VK} (ok : Ok2T P.K o r) (h : tT P E (tCmp o f g) σ H Q') (m : ∀ k H1, Q' k H1 → Q (.bl k) H1) : tOp r (tO P E f) (tO P E g) σ H Q := by
  refine (tG_bind (R1 := RO P) (k := fun x env s => (g env s).bind fun y s => lift (o x y) s) h).mono fun v H1 ⟨G, env, s, x, f1, e1, r1, c, s0, f0⟩ => ?_
  refine (Cont_bind (R1 := RO P) f1 e1 c).mono fun w H2 ⟨s2, y, f2, e2, r2, c2⟩ => ?_
  cases hz : o x y with
  | none => rw [hz] at c2; exact c2.elim
  | some z =>
    rw [hz] at c2
    exact ok G.T (Mx G σ env) (Own σ env) H2 v w x y z Q (RepP.ext (P := P) r1 f1 e2) r2 hz (m z H2 (c2 z H2 f2 (e1.trans e2) rfl))
end
end Ev

/-! Ev4: operators of the language against plain operators: own work. -/
namespace Ev
open PySem PySem.Spec PyProof.Rows L2
def R2.or (r r' : R2) : R2 := fun x y H Q => r x y H Q ∨ r' x y H Q
theorem OpR.or {X : Cx} {f : Value → Value → Sem Value} {r r' : R2} (a : OpR X f r) (b : OpR X f r') : OpR X f (R2.or r r') := fun pins s σ H x y v u Q I rx ry h => by
  rcases h with h | h
  · exact a pins s σ H x y v u Q I rx ry h
  · exact b pins s σ H x y v u Q I rx ry h
abbrev R1 := List V → Hp → VK → Prop
def R1.or (r r' : R1) : R1 := fun xs H Q => r xs H Q ∨ r' xs H Q
theorem CallR.or {X : Cx} {f : Value} {r r' : R1} (a : CallR X f r) (b : CallR X f r') : CallR X f (R1.or r r') := fun pins s σ H vs us Q I rx h => by
  rcases h with h | h
  · exact a pins s σ H vs us Q I rx h
  · exact b pins s σ H vs us Q I rx h
theorem noPylong_near {x y : Int} (h0 : y ≠ 0) (h : x.natAbs.log2 ≤ y.natAbs.log2 + 4500) : Builtin.divisionGoesByPylong x y = false := by
  have hy : ¬ (y == 0) = true := by simpa using h0
  have key : ¬ ((if x == 0 then 0 else x.natAbs.log2 / 30 + 1) > (if y == 0 then 0 else y.natAbs.log2 / 30 + 1) + 150) := by
    rw [if_neg hy]
    split <;> omega
  show (_ && decide ((if x == 0 then 0 else x.natAbs.log2 / 30 + 1) > (if y == 0 then 0 else y.natAbs.log2 / 30 + 1) + 150)) = false
  rw [decide_eq_false key, Bool.and_false]
/-- // with a divisor of either sign, below 2 ^ 9000, or not much less than the other one -/
theorem op_fdivX {X : Cx} : OpR X (binaryOp .FloorDiv) (rI (fun i j => DivOk i j = true) fun i j => .int (i.fdiv j)) := opI fun i j _ _ _ _ _ hc q => by
  have h : j ≠ 0 ∧ (j.natAbs.log2 < 9000 ∨ i.natAbs.log2 ≤ j.natAbs.log2 + 4500) := by simpa [DivOk] using hc
  refine floordiv_int h.1 q (.inl ?_)
  rcases h.2 with z | z
  · exact PyProof.noPylong_of_log2 z
  · exact noPylong_near h.1 z
theorem op_mulX {X : Cx} : OpR X (binaryOp .Mult) (rI (fun i j => MulOk i j = true) fun i j => .int (i * j)) := opI fun i j _ _ _ _ _ hc q => by
  have h : CMulW i j := by simpa [MulOk, CMulW] using hc
  exact mul_int q h.ok
theorem Same.new {H : Hp} {p : Addr} {o : HO} (h : H p = none) : Same H (upd H p o) := fun b x e => by
  rw [upd_ne (ne_of_none e h)]
  exact e
section
variable {K : PySem.W.Frag} {T : Tk} {M O : Addr → Prop} {H : Hp}
theorem RepR.newT {p : Addr} {vs : List V} {ds : List D} (n : H p = none) (l : vs.length ≤ sizeLine) (r : Reps K T M (upd H p (.tup vs)) vs ds) : RepR K T M H (upd H p (.tup vs)) (.ref p) (.im (.tup ds)) :=
  show Rep _ _ _ _ _ _ from .tup (SqT.of upd_same) l r
theorem Reps.new {p : Addr} {o : HO} {vs : List V} {ds : List D} (n : H p = none) (r : Reps K T M H vs ds) : Reps K T M (upd H p o) vs ds :=
  r.keep (fun a u h _ => Same.new n _ _ h) fun a ws h _ => Same.new n _ _ h
theorem RepP.new {p : Addr} {o : HO} {v : V} {d : D} (n : H p = none) (r : RepP K T M O H v d) : RepP K T M O (upd H p o) v d := by
  rcases r with r | ⟨a, vs, xs, e1, e2, h0, h1, h2, h3⟩
  · have z := Reps.new (o := o) n (.cons r .nil)
    cases z with
    | cons h _ => exact .inl h
  · exact .inr ⟨a, vs, xs, e1, e2, h0, Same.new n _ _ h1, h2, Reps.new n h3⟩
theorem RepR.newL {p : Addr} {vs : List V} {ds : List D} (n : H p = none) (l : vs.length ≤ sizeLine) (r : Reps K T M H vs ds) : RepR K T M H (upd H p (.lst vs)) (.ref p) (.mu ds) :=
  ⟨p, vs, rfl, n, upd_same, l, (r.more n).new n⟩
end
abbrev rAddS : R2 := fun x y H Q => ∃ i j, x = .str i ∧ y = .str j ∧ i.length + j.length ≤ sizeLine ∧ Q (.str (i ++ j)) H
def rAdd (K : PySem.W.Frag) : R2 := R2.or (rI0 fun i j => .int (i + j)) (R2.or rAddS (R2.or (rCatA K) rCat))
theorem or_add {X : Cx} : OpR X (binaryOp .Add) (rAdd X.K) := op_add.or (op_add_str.or (op_catA.or op_cat))
theorem ok_add {K : PySem.W.Frag} : Ok2 K oAdd (rAdd K) := by
  intro T M O H v w x y z Q om fr rx ry e q
  unfold oAdd at e
  split at e
  · obtain rfl := rx.int
    obtain rfl := ry.int
    cases e
    exact .inl ⟨_, _, rfl, rfl, q _ H (Same.refl H) (show Rep _ _ _ _ _ _ from .int _)⟩
  · obtain ⟨rfl, _⟩ := rx.str
    obtain ⟨rfl, _⟩ := ry.str
    split at e
    · rename_i hl
      cases e
      refine .inr (.inl ⟨_, _, rfl, rfl, hl, q _ H (Same.refl H) (show Rep _ _ _ _ _ _ from .str _ ?_)⟩)
      show (Array.size (_ ++ _)) ≤ _
      rw [Array.size_append]
      exact hl
    · cases e
  · obtain ⟨a, vs, rfl, h1, h2, h3⟩ := rx.tup
    obtain ⟨b, ws, rfl, k1, k2, k3⟩ := ry.tup
    split at e
    · rename_i xs ys hl
      cases e
      have l1 := h3.len
      have l2 := k3.len
      refine .inr (.inr (.inl ⟨a, b, vs, ws, rfl, rfl, h1, k1, by omega, fun e0 => ?_, fun _ e0 => ?_, fun _ _ p hp => ?_⟩))
      · subst e0
        cases h3
        exact q _ H (Same.refl H) (show Rep _ _ _ _ _ _ from .tup k1 k2 k3)
      · subst e0
        cases k3
        exact q _ H (Same.refl H) (show Rep _ _ _ _ _ _ from by simpa using Rep.tup h1 h2 h3)
      · exact q _ _ (Same.new hp) (RepR.newT hp (by rw [List.length_append]; omega) ((h3.app k3).new hp))
    · cases e
  · obtain ⟨a, vs, rfl, h1, h2, h3⟩ := rx.lst
    obtain ⟨b, ws, rfl, k1, k2, k3⟩ := ry.lst
    split at e
    · rename_i xs ys hl
      cases e
      have l1 := h3.len
      have l2 := k3.len
      refine .inr (.inr (.inr ⟨a, b, vs, ws, rfl, rfl, h1, k1, by omega, fun p hp => ?_⟩))
      exact q _ _ (Same.new hp) (RepR.newL hp (by rw [List.length_append]; omega) (h3.app k3))
    · cases e
  · cases e
theorem ok_sub {K : PySem.W.Frag} : Ok2 K oSub (rI0 fun i j => .int (i - j)) := by
  intro T M O H v w x y z Q om fr rx ry e q
  unfold oSub at e
  split at e
  · obtain rfl := rx.int
    obtain rfl := ry.int
    cases e
    exact ⟨_, _, rfl, rfl, q _ H (Same.refl H) (show Rep _ _ _ _ _ _ from .int _)⟩
  · cases e
theorem tuple_mul0 (l : Addr) (items : Array Value) (n : Nat) (dd : Option Addr) (sl : Array (Option Value)) (x : Int) (u : Tok) (c0 : (decide (x < -(2 ^ 63)) || decide (x ≥ 2 ^ 63)) = false) (c1 : (items.isEmpty || x == 1) = true) :
    Meets (Builtin.«tuple.__mul__» ⟨[.ref l, .int x u], []⟩) (fun _ R s => s.heap.get? l = some { cls := .type "tuple", dict := dd, data := .seq items n, slots := sl } ∧ R (.ok (.ret (Value.ref l))) s) :=
  .of_wp fun prog w A R s h => by
    obtain ⟨hp, g, d, tk, os⟩ := s
    obtain ⟨hl, h⟩ := h
    have f1 := AutoSeq1.idx_int
    wp_walk using wpAny_loadPart' hl
    repeat (first
      | (refine wpAny_ite_false (decide_eq_false (by rw [c0]; exact Bool.false_ne_true)) ?_; wp_walk using wpAny_loadPart' hl)
      | (refine wpAny_ite_true (decide_eq_true (by rw [c1])) ?_; wp_walk using wpAny_loadPart' hl))
    exact ⟨_, rfl, h⟩
def rRepT0 (K : PySem.W.Frag) : R2 := fun x y H Q => ∃ l k xs, x = .ref l ∧ y = .int k ∧ SqT K H l xs ∧ (xs = [] ∨ k = 1) ∧ -(2 ^ 63) ≤ k ∧ k < 2 ^ 63 ∧ Q (.ref l) H
theorem op_repT0 {X : Cx} : OpR X (binaryOp .Mult) (rRepT0 X.K) := by
  intro pins s σ H x y v u Q I rx ry h
  obtain ⟨l, k, xs, rfl, rfl, hT, h0, h1, h2, q⟩ := h
  cases rx
  obtain ⟨t, rfl⟩ := ry
  obtain ⟨its, r, ⟨⟨cls, dd, data, sl⟩, ho, hc, n, hd⟩, hs⟩ := I.tuple hT
  simp only at hc hd
  subst hc hd
  have c0 : (decide (k < -(2 ^ 63)) || decide (k ≥ 2 ^ 63)) = false := by
    rw [decide_eq_false (by omega), decide_eq_false (by omega)] <;> rfl
  have c1 : (its.toArray.isEmpty || k == 1) = true := by
    rcases h0 with rfl | rfl
    · obtain rfl : its = [] := List.eq_nil_of_length_eq_zero r.length.symm
      rfl
    · simp
  refine wpAny_binaryOp_repeat_ref (T := "tuple") (U := "int") (by decide) ⟨_, ho, rfl⟩ (fun s' => typeIs_int s' k t) noFill_tuple_mul F.fills_int_mul F.slot_int_rmul repeat_tuple F.slot_int_index.lookup
    (call_meets F.slot_int_rmul (typeIs_int s k t) F.entry_int_rmul (F.args_int_rmul_2 _ _) (int_rmul_tuple k t l _ n dd sl)
      ⟨ho, rfl, ⟨_, ho, rfl⟩, call_meets F.slot_tuple_mul ⟨_, ho, rfl⟩ F.entry_tuple_mul (F.args_tuple_mul_2 _ _) (tuple_mul0 l _ n dd sl k t c0 c1) ⟨ho, ?_⟩⟩)
  exact ⟨.ref l, H, I, rfl, q⟩
def rMul (K : PySem.W.Frag) : R2 := R2.or (rI (fun i j => MulOk i j = true) fun i j => .int (i * j)) (R2.or rRep (R2.or (rRepT K) (rRepT0 K)))
theorem or_mul {X : Cx} : OpR X (binaryOp .Mult) (rMul X.K) := op_mulX.or (op_rep.or (op_repT.or op_repT0))
theorem ok_mul {K : PySem.W.Frag} : Ok2 K oMul (rMul K) := by
  intro T M O H v w x y z Q om fr rx ry e q
  unfold oMul at e
  split at e
  · obtain rfl := rx.int
    obtain rfl := ry.int
    split at e
    · rename_i hm
      cases e
      exact .inl ⟨_, _, rfl, rfl, hm, q _ H (Same.refl H) (show Rep _ _ _ _ _ _ from .int _)⟩
    · cases e
  · obtain ⟨a, vs, rfl, h1, h2, h3⟩ := rx.lst
    obtain rfl := ry.int
    split at e
    · rename_i xs j hl
      cases e
      have l1 := h3.len
      refine .inr (.inl ⟨a, j, vs, rfl, rfl, h1, hl.1, hl.2.1, by rw [l1]; exact hl.2.2, fun p hp => ?_⟩)
      refine q _ _ (Same.new hp) (RepR.newL hp ?_ (h3.rep _))
      rw [(h3.rep _).len, List.length_flatten]
      simp only [List.map_replicate, List.sum_replicate_nat]
      rw [Nat.mul_comm]
      exact hl.2.2
    · cases e
  · obtain ⟨a, vs, rfl, h1, h2, h3⟩ := rx.tup
    obtain rfl := ry.int
    split at e
    · rename_i xs j hl
      cases e
      have l1 := h3.len
      refine .inr (.inr (.inl ⟨a, j, vs, rfl, rfl, h1, ?_, hl.2.1, hl.2.2.1, by rw [l1]; exact hl.2.2.2, fun p hp => ?_⟩))
      · intro e0
        subst e0
        cases h3
        exact absurd hl.1 (by simp)
      · refine q _ _ (Same.new hp) (RepR.newT hp ?_ ((h3.rep _).new hp))
        rw [(h3.rep _).len, List.length_flatten]
        simp only [List.map_replicate, List.sum_replicate_nat]
        have a1 : j.toNat ≤ 1000 := by omega
        have a2 := hl.2.2.2
        have a3 : j.toNat * xs.length ≤ 1000 * 1000 := Nat.mul_le_mul a1 a2
        exact Nat.le_trans a3 (by decide)
    · split at e
      · rename_i xs j hl hk
        cases e
        refine .inr (.inr (.inr ⟨a, j, vs, rfl, rfl, h1, ?_, hk.2.1, hk.2.2, q _ H (Same.refl H) (show Rep _ _ _ _ _ _ from .tup h1 h2 h3)⟩))
        rcases hk.1 with rfl | z
        · cases h3
          exact .inl rfl
        · exact .inr z
      · cases e
  · cases e
theorem ok_div {K : PySem.W.Frag} : Ok2 K oDiv (rI (fun i j => DivOk i j = true) fun i j => .int (i.fdiv j)) := by
  intro T M O H v w x y z Q om fr rx ry e q
  unfold oDiv at e
  split at e
  · obtain rfl := rx.int
    obtain rfl := ry.int
    split at e
    · rename_i hm
      cases e
      exact ⟨_, _, rfl, rfl, hm, q _ H (Same.refl H) (show Rep _ _ _ _ _ _ from .int _)⟩
    · cases e
  · cases e
theorem ok_mod {K : PySem.W.Frag} : Ok2 K oMod (rI (fun _ j => j ≠ 0) fun i j => .int (i.fmod j)) := by
  intro T M O H v w x y z Q om fr rx ry e q
  unfold oMod at e
  split at e
  · obtain rfl := rx.int
    obtain rfl := ry.int
    split at e
    · rename_i hm
      cases e
      exact ⟨_, _, rfl, rfl, hm, q _ H (Same.refl H) (show Rep _ _ _ _ _ _ from .int _)⟩
    · cases e
  · cases e
theorem ok_pow {K : PySem.W.Frag} : Ok2 K oPow (rI CPow fun i j => .int (i ^ j.toNat)) := by
  intro T M O H v w x y z Q om fr rx ry e q
  unfold oPow at e
  split at e
  · obtain rfl := rx.int
    obtain rfl := ry.int
    split at e
    · rename_i i j hm
      cases e
      have h : CPow i j := by simpa [PowOk, CPow, and_assoc] using hm
      exact ⟨_, _, rfl, rfl, h, q _ H (Same.refl H) (show Rep _ _ _ _ _ _ from .int _)⟩
    · cases e
  · cases e
theorem ok_idx {K : PySem.W.Frag} : Ok2 K (fun x y => (oIdx x y).map .im) (rIx K) := by
  intro T M O H v w x y z Q om fr rx ry e q
  have e : (oIdx x y).map RV.im = some z := e
  cases ez : oIdx x y with
  | none => rw [ez] at e; cases e
  | some d =>
    rw [ez] at e
    cases e
    unfold oIdx at ez
    split at ez
    · obtain ⟨a, vs, rfl, h1, h2, h3⟩ := rx.tup
      obtain rfl := ry.int
      rename_i xs i
      cases ek : ixN xs.length i with
      | none => rw [ek] at ez; cases ez
      | some k =>
        rw [ek] at ez
        obtain ⟨u, hu, ru⟩ := h3.get ez
        refine .inr (.inl ⟨a, vs, i, u, rfl, rfl, h1, ?_, q _ H (Same.refl H) ru⟩)
        unfold L2.atI
        rw [h3.len, ek]
        exact hu
    · obtain ⟨a, vs, rfl, h1, h2, h3⟩ := rx.lst
      obtain rfl := ry.int
      rename_i xs i
      cases ek : ixN xs.length i with
      | none => rw [ek] at ez; cases ez
      | some k =>
        rw [ek] at ez
        obtain ⟨u, hu, ru⟩ := h3.get ez
        refine .inl ⟨a, vs, i, u, rfl, rfl, SqL.of h1, ?_, q _ H (Same.refl H) ru⟩
        unfold L2.atI
        rw [h3.len, ek]
        exact hu
    · obtain ⟨rfl, hz⟩ := rx.str
      obtain rfl := ry.int
      rename_i z i
      cases ek : ixN z.cps.toList.length i with
      | none => rw [ek] at ez; cases ez
      | some k =>
        rw [ek] at ez
        cases ec : z.cps.toList[k]? with
        | none =>
          have ez : (z.cps.toList[k]?).map _ = some d := ez
          rw [ec] at ez
          cases ez
        | some c =>
          have ez : (z.cps.toList[k]?).map _ = some d := ez
          rw [ec] at ez
          cases ez
          refine .inr (.inr ⟨z, i, c, rfl, rfl, hz, ?_, q _ H (Same.refl H) (show Rep _ _ _ _ _ _ from .str _ ?_)⟩)
          · unfold L2.atI
            rw [ek]
            exact ec
          · show 1 ≤ sizeLine
            decide
    · cases ez
/-! ### comparisons -/
theorem ok_eq {K : PySem.W.Frag} : Ok2T K oEq (rEqD K) := by
  intro T M O H v w x y z Q rx ry e q
  unfold oEq at e
  split at e
  · rename_i h
    cases e
    have h' : (x.ok = true ∧ SeqAt.shaped x.py = true) ∧ y.ok = true ∧ SeqAt.shaped y.py = true := by simpa [D.cmp, Bool.and_eq_true] using h
    exact ⟨_, _, rx.dp h'.1.1, ry.dp h'.2.1, h'.1.2, h'.2.2, q⟩
  · cases e
theorem ok_ne {K : PySem.W.Frag} : Ok2T K oNe (rNeD K) := by
  intro T M O H v w x y z Q rx ry e q
  unfold oNe oEq at e
  split at e
  · rename_i h
    cases e
    have h' : (x.ok = true ∧ SeqAt.shaped x.py = true) ∧ y.ok = true ∧ SeqAt.shaped y.py = true := by simpa [D.cmp, Bool.and_eq_true] using h
    exact ⟨_, _, rx.dp h'.1.1, ry.dp h'.2.1, h'.1.2, h'.2.2, q⟩
  · cases e
theorem ok_int {K : PySem.W.Frag} {p : Int → Int → Bool} {o : D → D → Option Bool} (ho : ∀ x y z, o x y = some z → ∃ i j, x = .int i ∧ y = .int j ∧ z = p i j) : Ok2T K o (rI0 fun i j => .bl (p i j)) := by
  intro T M O H v w x y z Q rx ry e q
  obtain ⟨i, j, rfl, rfl, rfl⟩ := ho x y z e
  obtain rfl := rx.int
  obtain rfl := ry.int
  exact ⟨_, _, rfl, rfl, q⟩
theorem ok_lt {K : PySem.W.Frag} : Ok2T K oLt (rI0 fun i j => .bl (decide (i < j))) := ok_int fun x y z e => by
  unfold oLt at e
  split at e
  · cases e; exact ⟨_, _, rfl, rfl, rfl⟩
  · cases e
theorem ok_le {K : PySem.W.Frag} : Ok2T K oLe (rI0 fun i j => .bl (decide (i ≤ j))) := ok_int fun x y z e => by
  unfold oLe at e
  split at e
  · cases e; exact ⟨_, _, rfl, rfl, rfl⟩
  · cases e
theorem ok_gt {K : PySem.W.Frag} : Ok2T K oGt (rI0 fun i j => .bl (decide (j < i))) := ok_int fun x y z e => by
  unfold oGt at e
  split at e
  · cases e; exact ⟨_, _, rfl, rfl, rfl⟩
  · cases e
theorem ok_ge {K : PySem.W.Frag} : Ok2T K oGe (rI0 fun i j => .bl (decide (j ≤ i))) := ok_int fun x y z e => by
  unfold oGe at e
  split at e
  · cases e; exact ⟨_, _, rfl, rfl, rfl⟩
  · cases e
end Ev

/-! Ev5: the rules for expressions: own work. -/
namespace Ev
open PySem PySem.Spec PyProof.Rows L2
section
variable {X : Cx} {P : Pm} {E : XK}
/-! ### names, constants -/
theorem x_O (i : Nat) {x : Str} {pos : Pos} (hN : X.N[i]? = some x := by rfl) (hv : Vis X.env.scope x := by first | exact Or.inl rfl | exact Or.inr (Or.inl rfl) | exact Or.inr (Or.inr rfl)) (hd : (x == ("__debug__" : Str)) = false := by decide +kernel)
    (hcd : (x == ("__classdict__" : Str)) = false := by decide +kernel) : PE X (.Name x pos) (tO P E (pV i)) :=
  PE.mono (pe_var hN hv hd hcd) fun σ H Q ⟨G, env, s, fs, c⟩ => by
    unfold pV at c
    split at c
    · rename_i d e
      obtain ⟨v, h1, h2⟩ := fs.im i d e
      exact ⟨v, h1, c v H fs (Ext.refl _ _) (.inl h2)⟩
    · rename_i xs e
      obtain ⟨a, vs, h1, h2, h3, h4, h5⟩ := fs.mu i xs e
      exact ⟨.ref a, h1, c _ H fs (Ext.refl _ _) (.inr ⟨a, vs, xs, rfl, rfl, ⟨i, xs, e, h1⟩, h3, h4, h5⟩)⟩
    · exact c.elim
theorem x_V (i : Nat) {x : Str} {pos : Pos} (hN : X.N[i]? = some x := by rfl) (hv : Vis X.env.scope x := by first | exact Or.inl rfl | exact Or.inr (Or.inl rfl) | exact Or.inr (Or.inr rfl)) (hd : (x == ("__debug__" : Str)) = false := by decide +kernel)
    (hcd : (x == ("__classdict__" : Str)) = false := by decide +kernel) : PE X (.Name x pos) (tE P E (eV i)) :=
  PE.mono (pe_var hN hv hd hcd) fun σ H Q ⟨G, env, s, fs, c⟩ => by
    unfold eV at c
    split at c
    · rename_i d e
      obtain ⟨v, h1, h2⟩ := fs.im i d e
      exact ⟨v, h1, c v H fs (Ext.refl _ _) h2⟩
    · exact c.elim
theorem t_C {d : D} {v : V} {σ : L2.St} {H : Hp} {Q : VK} (h : tE P E (eC d) σ H Q) (r : ∀ T M H, Rep P.K T M H v d) : Q v H := by
  obtain ⟨G, env, s, fs, c⟩ := h
  exact c v H fs (Ext.refl _ _) (r _ _ _)
theorem x_int {i : Int} {j : Nat} {pos : Pos} : PE X (.Constant (.int i) j pos) (tE P E (eC (.int i))) := PE.mono pe_int fun _ _ _ h => t_C h fun _ _ _ => .int i
theorem x_bl {b : Bool} {j : Nat} {pos : Pos} : PE X (.Constant (.bool b) j pos) (tE P E (eC (.bl b))) := PE.mono pe_bl fun _ _ _ h => t_C h fun _ _ _ => .bl b
theorem x_non {j : Nat} {pos : Pos} : PE X (.Constant .none j pos) (tE P E (eC .non)) := PE.mono pe_non fun _ _ _ h => t_C h fun _ _ _ => .non
theorem x_str {x : Str} {j : Nat} {pos : Pos} (hl : x.length ≤ sizeLine := by decide +kernel) : PE X (.Constant (.str x) j pos) (tE P E (eC (.str x))) := PE.mono pe_str fun _ _ _ h => t_C h fun _ _ _ => .str x hl
/-- a constant of the module: a value that stands everywhere -/
structure GC (K : PySem.W.Frag) (mg : Str → Option Value) (x : Str) (d : D) : Prop where
  ex : ∃ (v : V) (u : Value), mg x = some u ∧ RelV v u ∧ ∀ T M H, Rep K T M H v d
theorem x_glob {x : Str} {d : D} {pos : Pos} (g : GC P.K X.mg x d) (hg : Gl X x := by rfl) (hd : (x == ("__debug__" : Str)) = false := by decide +kernel) : PE X (.Name x pos) (tE P E (eC d)) := by
  obtain ⟨v, u, h1, h2, h3⟩ := g.ex
  exact PE.mono (pe_glob hg h1 h2 hd) fun _ _ _ h => t_C h h3
theorem x_E {e : Expr} {f : Sm RV} (h : PE X e (tE P E f)) : PE X e (tO P E (pE f)) :=
  PE.mono h fun σ H Q h => (tG_bind (R1 := RE P) (k := fun r env s => Res.ok r.d s) h).mono fun v H1 ⟨G, env, s, x, f1, e1, r1, c, s0, f0⟩ =>
    c v H1 f1 e1 (.inl (RepR.rep r1 fun p => f0.fresh))
/-! ### operators -/
theorem x_bin {op : Operator} {a b : Expr} {f g : Sm D} {o : D → D → Option RV} {r : R2} {pos : Pos} (ho : OpR X (binaryOp op) r) (ok : Ok2 P.K o r) (ha : PE X a (tO P E f)) (hb : PE X b (tO P E g)) : PE X (.BinOp a op b pos) (tE P E (e2 o f g)) :=
  PE.mono (pe_op ho ha hb) fun _ _ _ h => t_e2 ok h
theorem x_add {a b : Expr} {f g : Sm D} {pos : Pos} (ha : PE X a (tO P E f)) (hb : PE X b (tO P E g)) (hK : P.K = X.K := by rfl) : PE X (.BinOp a .Add b pos) (tE P E (e2 oAdd f g)) := x_bin (hK ▸ or_add) ok_add ha hb
theorem x_sub {a b : Expr} {f g : Sm D} {pos : Pos} (ha : PE X a (tO P E f)) (hb : PE X b (tO P E g)) : PE X (.BinOp a .Sub b pos) (tE P E (e2 oSub f g)) := x_bin op_sub ok_sub ha hb
theorem x_mul {a b : Expr} {f g : Sm D} {pos : Pos} (ha : PE X a (tO P E f)) (hb : PE X b (tO P E g)) (hK : P.K = X.K := by rfl) : PE X (.BinOp a .Mult b pos) (tE P E (e2 oMul f g)) := x_bin (hK ▸ or_mul) ok_mul ha hb
theorem x_div {a b : Expr} {f g : Sm D} {pos : Pos} (ha : PE X a (tO P E f)) (hb : PE X b (tO P E g)) : PE X (.BinOp a .FloorDiv b pos) (tE P E (e2 oDiv f g)) := x_bin op_fdivX ok_div ha hb
theorem x_mod {a b : Expr} {f g : Sm D} {pos : Pos} (ha : PE X a (tO P E f)) (hb : PE X b (tO P E g)) : PE X (.BinOp a .Mod b pos) (tE P E (e2 oMod f g)) := x_bin op_modN ok_mod ha hb
theorem x_pow {a b : Expr} {f g : Sm D} {pos : Pos} (ha : PE X a (tO P E f)) (hb : PE X b (tO P E g)) : PE X (.BinOp a .Pow b pos) (tE P E (e2 oPow f g)) := x_bin op_pow ok_pow ha hb
theorem x_idx {a b : Expr} {f g : Sm D} {pos : Pos} (ha : PE X a (tO P E f)) (hb : PE X b (tO P E g)) (hs : PlainIx b := by exact fun _ _ => rfl) (hK : P.K = X.K := by rfl) : PE X (.Subscript a b pos) (tE P E (eIdx f g)) :=
  PE.mono (pe_ix (hK ▸ ix_seq) ha hb hs) fun _ _ _ h => t_e2 (o := fun x y => (oIdx x y).map .im) ok_idx h
/-- one operand -/
def Ok1 (K : PySem.W.Frag) (o : D → Option RV) (r : V → Hp → VK → Prop) : Prop :=
  ∀ (T : Tk) (M O : Addr → Prop) (H : Hp) (v : V) (x : D) (z : RV) (Q : VK), (∀ p, H p = none → ¬ M p) → RepP K T M O H v x → o x = some z → (∀ u H', Same H H' → RepR K T M H H' u z → Q u H') → r v H Q
theorem t_e1 {o : D → Option RV} {r : V → Hp → VK → Prop} {f : Sm D} {σ : L2.St} {H : Hp} {Q : VK} (ok : Ok1 P.K o r) (h : tE P E (e1 o f) σ H Q) : tO P E f σ H fun v H1 => r v H1 Q := by
  refine (tG_bind (R1 := RO P) (k := fun x env s => lift (o x) s) h).mono fun v H1 ⟨G, env, s, x, f1, e1, r1, c, s0, f0⟩ => ?_
  cases hz : o x with
  | none => rw [hz] at c; exact c.elim
  | some z =>
    rw [hz] at c
    exact ok G.T (Mx G σ env) (Own σ env) H1 v x z Q (fun p => f1.fresh) r1 hz fun u H' sm ru => c u H' (f1.same sm) (e1.trans (.of sm)) (RepR.from ru fun p q => FS.dm f1.st e1 q)
theorem x_neg {a : Expr} {f : Sm D} {pos : Pos} (ha : PE X a (tO P E f)) : PE X (.UnaryOp .USub a pos) (tE P E (e1 oNeg f)) :=
  PE.mono (pe_un un_neg ha) fun _ _ _ h => t_e1 (r := rU fun i => .int (-i)) (fun T M O H v x z Q fr rx e q => by
    unfold oNeg at e
    split at e
    · obtain rfl := rx.int
      cases e
      exact ⟨_, rfl, q _ H (Same.refl H) (show Rep _ _ _ _ _ _ from .int _)⟩
    · cases e) h
/-! ### built-in calls with one and two arguments -/
theorem t_cb1 {o : D → Option RV} {r : R1} {f : Sm D} {σ : L2.St} {H : Hp} {Q : VK} (ok : Ok1 P.K o fun v => r [v]) (h : tE P E (e1 o f) σ H Q) : tCB r (tCons (tO P E f) tNil) σ H Q := t_e1 (r := fun v => r [v]) ok h
theorem t_cb2 {o : D → D → Option RV} {r : R1} {f g : Sm D} {σ : L2.St} {H : Hp} {Q : VK} (ok : Ok2 P.K o fun v w => r [v, w]) (h : tE P E (e2 o f g) σ H Q) : tCB r (tCons (tO P E f) (tCons (tO P E g) tNil)) σ H Q := t_e2 (r := fun v w => r [v, w]) ok h
theorem pa1 {e : Expr} {te : TE} (h : PE X e te) (hs : starEach [e] X.env = (false, eval e X.env) :: starEach [] X.env := by rfl) : PA X [e] (tCons te tNil) := pa_cons h pa_nil hs
theorem pa2 {e e' : Expr} {te te' : TE} (h : PE X e te) (h' : PE X e' te') (hs : starEach [e, e'] X.env = (false, eval e X.env) :: starEach [e'] X.env := by rfl) (hs' : starEach [e'] X.env = (false, eval e' X.env) :: starEach [] X.env := by rfl) : PA X [e, e'] (tCons te (tCons te' tNil)) := pa_cons h (pa_cons h' pa_nil hs') hs
section
variable {x : Str} {p pos : Pos} {a b : Expr} {f g : Sm D}
theorem x_cb1 {id : String} {o : D → Option RV} {r : R1} (hc : CallR X (.builtin id) r) (ok : Ok1 P.K o fun v => r [v]) (hv : bootBuiltins x = some (.builtin id)) (hm : X.mg x = none) (hg : Gl X x) (ha : PE X a (tO P E f)) (hs : starEach [a] X.env = (false, eval a X.env) :: starEach [] X.env)
    (hn : x ≠ "__name__") (hdb : (x == ("__debug__" : Str)) = false) : PE X (.Call (.Name x p) [a] [] pos) (tE P E (e1 o f)) :=
  PE.mono (pe_callB hc hg hm hv (pa1 ha hs) hn hdb hs) fun _ _ _ h => t_cb1 ok h
theorem x_ct1 {T : String} {o : D → Option RV} {r : R1} (hc : CallR X (.type T) r) (ok : Ok1 P.K o fun v => r [v]) (hv : bootBuiltins x = some (.type T)) (hm : X.mg x = none) (hg : Gl X x) (ha : PE X a (tO P E f)) (hs : starEach [a] X.env = (false, eval a X.env) :: starEach [] X.env)
    (hn : x ≠ "__name__") (hdb : (x == ("__debug__" : Str)) = false) : PE X (.Call (.Name x p) [a] [] pos) (tE P E (e1 o f)) :=
  PE.mono (pe_callTy hc hg hm hv (pa1 ha hs) hn hdb hs) fun _ _ _ h => t_cb1 ok h
end
section
variable {p pos : Pos} {a b : Expr} {f g : Sm D}
theorem x_abs (hm : X.mg "abs" = none) (ha : PE X a (tO P E f)) (hg : Gl X "abs" := by rfl) (hs : starEach [a] X.env = (false, eval a X.env) :: starEach [] X.env := by rfl) : PE X (.Call (.Name "abs" p) [a] [] pos) (tE P E (e1 oAbs f)) :=
  x_cb1 call_abs (fun T M O H v x z Q fr rx e q => by
    unfold oAbs at e
    split at e
    · obtain rfl := rx.int
      cases e
      exact ⟨_, rfl, q _ H (Same.refl H) (show Rep _ _ _ _ _ _ from .int _)⟩
    · cases e) (by decide +kernel) hm hg ha hs (by decide +kernel) (by decide +kernel)
theorem x_int1 (hm : X.mg "int" = none) (ha : PE X a (tO P E f)) (hg : Gl X "int" := by rfl) (hs : starEach [a] X.env = (false, eval a X.env) :: starEach [] X.env := by rfl) : PE X (.Call (.Name "int" p) [a] [] pos) (tE P E (e1 oInt f)) :=
  x_ct1 call_int1 (fun T M O H v x z Q fr rx e q => by
    unfold oInt at e
    split at e
    · obtain rfl := rx.int
      cases e
      exact .inl ⟨_, rfl, q _ H (Same.refl H) (show Rep _ _ _ _ _ _ from .int _)⟩
    · obtain rfl := rx.bl
      cases e
      exact .inr ⟨_, rfl, q _ H (Same.refl H) (show Rep _ _ _ _ _ _ from .int _)⟩
    · cases e) (by decide +kernel) hm hg ha hs (by decide +kernel) (by decide +kernel)
theorem x_len (hm : X.mg "len" = none) (ha : PE X a (tO P E f)) (hg : Gl X "len" := by rfl) (hs : starEach [a] X.env = (false, eval a X.env) :: starEach [] X.env := by rfl) (hK : P.K = X.K := by rfl) : PE X (.Call (.Name "len" p) [a] [] pos) (tE P E (e1 oLenR f)) :=
  x_cb1 (CallR.or call_len_seq call_len_str) (fun T M O H v x z Q fr rx e q => by
    unfold oLenR oLen at e
    rw [← hK]
    split at e
    · obtain ⟨a, vs, rfl, h1, h2, h3⟩ := rx.tup
      cases e
      refine .inl ⟨a, vs, rfl, .inr h1, q _ H (Same.refl H) (show Rep _ _ _ _ _ _ from ?_)⟩
      rw [h3.len]
      exact .int _
    · obtain ⟨a, vs, rfl, h1, h2, h3⟩ := rx.lst
      cases e
      refine .inl ⟨a, vs, rfl, .inl (SqL.of h1), q _ H (Same.refl H) (show Rep _ _ _ _ _ _ from ?_)⟩
      rw [h3.len]
      exact .int _
    · obtain ⟨rfl, hz⟩ := rx.str
      cases e
      exact .inr ⟨_, rfl, hz, q _ H (Same.refl H) (show Rep _ _ _ _ _ _ from .int _)⟩
    · cases e
      rcases rx with rx | ⟨_, _, _, _, e, _⟩
      · cases rx with
        | scr h => exact .inl ⟨_, _, rfl, .inl h.1, q _ H (Same.refl H) (show Rep _ _ _ _ _ _ from .int _)⟩
      · cases e
    · cases e) (by decide +kernel) hm hg ha hs (by decide +kernel) (by decide +kernel)
theorem x_tuple (hm : X.mg "tuple" = none) (ha : PE X a (tO P E f)) (hg : Gl X "tuple" := by rfl) (hs : starEach [a] X.env = (false, eval a X.env) :: starEach [] X.env := by rfl) (hK : P.K = X.K := by rfl) : PE X (.Call (.Name "tuple" p) [a] [] pos) (tE P E (e1 oTuple f)) :=
  x_ct1 call_tuple_of (fun T M O H v x z Q fr rx e q => by
    unfold oTuple at e
    rw [← hK]
    split at e
    · obtain ⟨a, vs, rfl, h1, h2, h3⟩ := rx.lst
      cases e
      exact ⟨a, vs, rfl, .inl ⟨SqL.of h1, fun l hl => q _ _ (Same.new hl) (RepR.newT hl h2 (h3.new hl))⟩⟩
    · obtain ⟨a, vs, rfl, h1, h2, h3⟩ := rx.tup
      cases e
      exact ⟨a, vs, rfl, .inr ⟨h1, q _ H (Same.refl H) (show Rep _ _ _ _ _ _ from .tup h1 h2 h3)⟩⟩
    · cases e) (by decide +kernel) hm hg ha hs (by decide +kernel) (by decide +kernel)
theorem x_list (hm : X.mg "list" = none) (ha : PE X a (tO P E f)) (hg : Gl X "list" := by rfl) (hs : starEach [a] X.env = (false, eval a X.env) :: starEach [] X.env := by rfl) (hK : P.K = X.K := by rfl) : PE X (.Call (.Name "list" p) [a] [] pos) (tE P E (e1 oList f)) :=
  x_ct1 call_list_of (fun T M O H v x z Q fr rx e q => by
    unfold oList at e
    rw [← hK]
    split at e
    · obtain ⟨a, vs, rfl, h1, h2, h3⟩ := rx.lst
      cases e
      exact ⟨a, vs, rfl, .inl (SqL.of h1), fun l hl => q _ _ (Same.new hl) (RepR.newL hl h2 h3)⟩
    · obtain ⟨a, vs, rfl, h1, h2, h3⟩ := rx.tup
      cases e
      exact ⟨a, vs, rfl, .inr h1, fun l hl => q _ _ (Same.new hl) (RepR.newL hl h2 h3)⟩
    · cases e) (by decide +kernel) hm hg ha hs (by decide +kernel) (by decide +kernel)
theorem reps_bools {K : PySem.W.Frag} {T : Tk} {M : Addr → Prop} {H : Hp} : ∀ {vs : List V} {xs : List D} {bs : List Bool}, Reps K T M H vs xs → boolsOf xs = some bs → vs = bs.map V.bl
  | _, _, _, .nil, e => by cases e; rfl
  | _, _, _, .cons (d := d) (ds := ds) h t, e => by
    unfold boolsOf at e
    split at e
    · rename_i heq; cases heq
    · rename_i b xs heq
      cases heq
      cases h
      cases q : boolsOf ds with
      | none => rw [q] at e; cases e
      | some bs =>
        rw [q] at e
        cases e
        rw [reps_bools t q]
        rfl
    · cases e
theorem reps_ints {K : PySem.W.Frag} {T : Tk} {M : Addr → Prop} {H : Hp} : ∀ {vs : List V} {xs : List D} {bs : List Int}, Reps K T M H vs xs → intsOf xs = some bs → vs = bs.map V.int
  | _, _, _, .nil, e => by cases e; rfl
  | _, _, _, .cons (d := d) (ds := ds) h t, e => by
    unfold intsOf at e
    split at e
    · rename_i heq; cases heq
    · rename_i b xs heq
      cases heq
      cases h
      cases q : intsOf ds with
      | none => rw [q] at e; cases e
      | some bs =>
        rw [q] at e
        cases e
        rw [reps_ints t q]
        rfl
    · cases e
theorem x_all (hc : X.calm = true) (hm : X.mg "all" = none) (ha : PE X a (tO P E f)) (hg : Gl X "all" := by rfl) (hs : starEach [a] X.env = (false, eval a X.env) :: starEach [] X.env := by rfl) (hK : P.K = X.K := by rfl) : PE X (.Call (.Name "all" p) [a] [] pos) (tE P E (e1 oAll f)) :=
  x_cb1 (cr_all hc) (fun T M O H v x z Q fr rx e q => by
    unfold oAll at e
    rw [← hK]
    split at e
    · rename_i xs
      obtain ⟨a, vs, rfl, h1, h2, h3⟩ := rx.lst
      cases eb : boolsOf xs with
      | none => rw [eb] at e; cases e
      | some bs =>
        rw [eb] at e
        cases e
        rw [reps_bools h3 eb] at h1
        exact ⟨a, bs, rfl, SqL.of h1, q _ H (Same.refl H) (show Rep _ _ _ _ _ _ from .bl _)⟩
    · cases e) (by decide +kernel) hm hg ha hs (by decide +kernel) (by decide +kernel)
theorem x_any (hc : X.calm = true) (hm : X.mg "any" = none) (ha : PE X a (tO P E f)) (hg : Gl X "any" := by rfl) (hs : starEach [a] X.env = (false, eval a X.env) :: starEach [] X.env := by rfl) (hK : P.K = X.K := by rfl) : PE X (.Call (.Name "any" p) [a] [] pos) (tE P E (e1 oAny f)) :=
  x_cb1 (cr_any hc) (fun T M O H v x z Q fr rx e q => by
    unfold oAny at e
    rw [← hK]
    split at e
    · rename_i xs
      obtain ⟨a, vs, rfl, h1, h2, h3⟩ := rx.lst
      cases eb : boolsOf xs with
      | none => rw [eb] at e; cases e
      | some bs =>
        rw [eb] at e
        cases e
        rw [reps_bools h3 eb] at h1
        exact ⟨a, bs, rfl, SqL.of h1, q _ H (Same.refl H) (show Rep _ _ _ _ _ _ from .bl _)⟩
    · cases e) (by decide +kernel) hm hg ha hs (by decide +kernel) (by decide +kernel)
theorem x_sum (hc : X.calm = true) (hm : X.mg "sum" = none) (ha : PE X a (tO P E f)) (hg : Gl X "sum" := by rfl) (hs : starEach [a] X.env = (false, eval a X.env) :: starEach [] X.env := by rfl) (hK : P.K = X.K := by rfl) : PE X (.Call (.Name "sum" p) [a] [] pos) (tE P E (e1 oSum f)) :=
  x_cb1 (cr_sum hc) (fun T M O H v x z Q fr rx e q => by
    unfold oSum at e
    rw [← hK]
    split at e
    · rename_i xs
      obtain ⟨a, vs, rfl, h1, h2, h3⟩ := rx.lst
      cases eb : intsOf xs with
      | none => rw [eb] at e; cases e
      | some bs =>
        rw [eb] at e
        cases e
        rw [reps_ints h3 eb] at h1
        exact ⟨a, bs, rfl, SqL.of h1, q _ H (Same.refl H) (show Rep _ _ _ _ _ _ from .int _)⟩
    · cases e) (by decide +kernel) hm hg ha hs (by decide +kernel) (by decide +kernel)
end
section
variable {p pos : Pos} {a b : Expr} {f g : Sm D}
theorem x_cb2 {x : Str} {id : String} {o : D → D → Option RV} {r : R1} (hc : CallR X (.builtin id) r) (ok : Ok2 P.K o fun v w => r [v, w]) (hv : bootBuiltins x = some (.builtin id)) (hm : X.mg x = none) (hg : Gl X x) (ha : PE X a (tO P E f)) (hb : PE X b (tO P E g))
    (hs : starEach [a, b] X.env = (false, eval a X.env) :: starEach [b] X.env) (hs' : starEach [b] X.env = (false, eval b X.env) :: starEach [] X.env)
    (hn : x ≠ "__name__") (hdb : (x == ("__debug__" : Str)) = false) : PE X (.Call (.Name x p) [a, b] [] pos) (tE P E (e2 o f g)) :=
  PE.mono (pe_callB hc hg hm hv (pa2 ha hb hs hs') hn hdb hs (by rw [hs'] <;> rfl)) fun _ _ _ h => t_cb2 ok h
theorem x_max (hc : X.calm = true) (hm : X.mg "max" = none) (ha : PE X a (tO P E f)) (hb : PE X b (tO P E g)) (hg : Gl X "max" := by rfl) (hs : starEach [a, b] X.env = (false, eval a X.env) :: starEach [b] X.env := by rfl) (hs' : starEach [b] X.env = (false, eval b X.env) :: starEach [] X.env := by rfl) :
    PE X (.Call (.Name "max" p) [a, b] [] pos) (tE P E (e2 oMax f g)) :=
  x_cb2 (call_max2 hc) (fun T M O H v w x y z Q om fr rx ry e q => by
    unfold oMax at e
    split at e
    · obtain rfl := rx.int
      obtain rfl := ry.int
      cases e
      exact ⟨_, _, rfl, q _ H (Same.refl H) (show Rep _ _ _ _ _ _ from .int _)⟩
    · cases e) (by decide +kernel) hm hg ha hb hs hs' (by decide +kernel) (by decide +kernel)
theorem x_min (hc : X.calm = true) (hm : X.mg "min" = none) (ha : PE X a (tO P E f)) (hb : PE X b (tO P E g)) (hg : Gl X "min" := by rfl) (hs : starEach [a, b] X.env = (false, eval a X.env) :: starEach [b] X.env := by rfl) (hs' : starEach [b] X.env = (false, eval b X.env) :: starEach [] X.env := by rfl) :
    PE X (.Call (.Name "min" p) [a, b] [] pos) (tE P E (e2 oMin f g)) :=
  x_cb2 (call_min2 hc) (fun T M O H v w x y z Q om fr rx ry e q => by
    unfold oMin at e
    split at e
    · obtain rfl := rx.int
      obtain rfl := ry.int
      cases e
      exact ⟨_, _, rfl, q _ H (Same.refl H) (show Rep _ _ _ _ _ _ from .int _)⟩
    · cases e) (by decide +kernel) hm hg ha hb hs hs' (by decide +kernel) (by decide +kernel)
/-- gcd, brought in from math -/
theorem x_gcd (hm : X.mg "gcd" = some (.builtin "math.gcd")) (ha : PE X a (tO P E f)) (hb : PE X b (tO P E g)) (hg : Gl X "gcd" := by rfl) (hs : starEach [a, b] X.env = (false, eval a X.env) :: starEach [b] X.env := by rfl) (hs' : starEach [b] X.env = (false, eval b X.env) :: starEach [] X.env := by rfl) :
    PE X (.Call (.Name "gcd" p) [a, b] [] pos) (tE P E (e2 oGcd f g)) :=
  PE.mono (pe_callBfun cr_gcd hg hm (pa2 ha hb hs hs') (by decide +kernel) hs (by rw [hs'] <;> rfl)) fun _ _ _ h => t_cb2 (fun T M O H v w x y z Q om fr rx ry e q => by
    unfold oGcd at e
    split at e
    · obtain rfl := rx.int
      obtain rfl := ry.int
      cases e
      exact ⟨_, _, rfl, q _ H (Same.refl H) (show Rep _ _ _ _ _ _ from .int _)⟩
    · cases e) h
end
end
end Ev

/-! Ev6: lists of arguments, displays, tests, calls: own work. -/
namespace Ev
open PySem PySem.Spec PyProof.Rows L2
section
variable {X : Cx} {P : Pm} {E : XK}
/-! ### arguments, displays -/
theorem x_nil : PA X [] (tA P E aNil) := PA.mono pa_nil fun σ H Q ⟨G, env, s, fs, c⟩ => c [] H fs (Ext.refl _ _) .nil
theorem x_cons {e : Expr} {es : List Expr} {f : Sm RV} {a : Sm (List D)} (h : PE X e (tE P E f)) (h' : PA X es (tA P E a)) (hs : starEach (e :: es) X.env = (false, eval e X.env) :: starEach es X.env := by rfl) : PA X (e :: es) (tA P E (aCons f a)) :=
  PA.mono (pa_cons h h' hs) fun σ H Q h => by
    refine (tG_bind (R1 := RE P) (k := fun x env s => (a env s).bind fun xs s => .ok (x.d :: xs) s) h).mono fun v H1 ⟨G, env, s, x, f1, e1, r1, c, s0, f0⟩ => ?_
    refine (Cont_bind (R1 := RA P) f1 e1 c).mono fun w H2 ⟨s2, y, f2, e2, r2, c2⟩ => ?_
    exact c2 (v :: w) H2 f2 (e1.trans e2) (.cons ((RepR.rep r1 fun p => f0.fresh).ext f1.st f1.mtx e2) r2)
theorem x_tup {es : List Expr} {a : Sm (List D)} {j : Nat} {pos : Pos} (h : PA X es (tA P E a)) : PE X (.Tuple es j pos) (tE P E (eTup a)) :=
  PE.mono (pe_tup h) fun σ H Q h => (tG_bind (R1 := RA P) (k := fun (xs : List D) (env : Lo) (s : DS) => if xs.length ≤ sizeLine then Res.ok (RV.im (D.tup xs)) s else Res.stuck) h).mono fun v H1 ⟨G, env, s, x, f1, e1, r1, c, s0, f0⟩ => by
    have r1 : Reps _ _ _ _ v x := r1
    have l := r1.len
    by_cases hl : x.length ≤ sizeLine
    · rw [if_pos hl] at c
      refine ⟨by omega, fun p hp => c _ _ (f1.same (Same.new hp)) (e1.trans (.of (Same.new hp))) ?_⟩
      exact RepR.newT hp (by omega) (Reps.new hp r1)
    · rw [if_neg hl] at c
      exact c.elim
theorem x_lst {es : List Expr} {a : Sm (List D)} {pos : Pos} (h : PA X es (tA P E a)) : PE X (.List es pos) (tE P E (eLst a)) :=
  PE.mono (pe_lst h) fun σ H Q h => (tG_bind (R1 := RA P) (k := fun (xs : List D) (env : Lo) (s : DS) => if xs.length ≤ sizeLine then Res.ok (RV.mu xs) s else Res.stuck) h).mono fun v H1 ⟨G, env, s, x, f1, e1, r1, c, s0, f0⟩ => by
    have r1 : Reps _ _ _ _ v x := r1
    have l := r1.len
    by_cases hl : x.length ≤ sizeLine
    · rw [if_pos hl] at c
      refine ⟨by omega, fun p hp => c _ _ (f1.same (Same.new hp)) (e1.trans (.of (Same.new hp))) ?_⟩
      exact RepR.from (RepR.newL hp (by omega) r1) fun p q => FS.dm f1.st e1 q
    · rw [if_neg hl] at c
      exact c.elim
/-! ### tests -/
theorem x_cmpV {op : CmpOp} {a b : Expr} {f g : Sm D} {o : D → D → Option Bool} {r : R2} {pos : Pos} (ho : OpR X (compareOp op) r) (ok : Ok2T P.K o r) (ha : PE X a (tO P E f)) (hb : PE X b (tO P E g)) (hm : behindInMarks op b = false) : PE X (.Compare a [op] [b] pos) (tTV P E (tCmp o f g)) :=
  PE.mono (pe_cmpR ho ha hb hm) fun _ _ _ h => t_cmp ok h fun _ _ q => q
theorem x_cmpT {op : CmpOp} {a b : Expr} {f g : Sm D} {o : D → D → Option Bool} {r : R2} {pos : Pos} (ho : OpR X (compareOp op) r) (ok : Ok2T P.K o r) (ha : PE X a (tO P E f)) (hb : PE X b (tO P E g)) (hm : behindInMarks op b = false) : PT X (.Compare a [op] [b] pos) (tT P E (tCmp o f g)) :=
  PT.mono (pt_cmpR ho ha hb hm) fun _ _ _ h => t_cmp ok h fun k _ q => ⟨k, rfl, q⟩
/-- a test: as a value, as a test -/
structure XT (X : Cx) (P : Pm) (E : XK) (e : Expr) (t : Sm Bool) : Prop where
  v : PE X e (tTV P E t)
  t : PT X e (tT P E t)
theorem x_eT {e : Expr} {t : Sm Bool} (h : XT X P E e t) : PE X e (tE P E (eT t)) := PE.mono h.v fun _ _ _ q => t_eT q
section
variable {a b : Expr} {f g : Sm D} {pos : Pos}
theorem x_cmp {op : CmpOp} {o : D → D → Option Bool} {r : R2} (ho : OpR X (compareOp op) r) (ok : Ok2T P.K o r) (ha : PE X a (tO P E f)) (hb : PE X b (tO P E g)) (hm : behindInMarks op b = false) : XT X P E (.Compare a [op] [b] pos) (tCmp o f g) := ⟨x_cmpV ho ok ha hb hm, x_cmpT ho ok ha hb hm⟩
theorem x_lt (ha : PE X a (tO P E f)) (hb : PE X b (tO P E g)) : XT X P E (.Compare a [.Lt] [b] pos) (tCmp oLt f g) := x_cmp op_lt ok_lt ha hb (nomark _)
theorem x_le (ha : PE X a (tO P E f)) (hb : PE X b (tO P E g)) : XT X P E (.Compare a [.LtE] [b] pos) (tCmp oLe f g) := x_cmp op_le ok_le ha hb (nomark _)
theorem x_gt (ha : PE X a (tO P E f)) (hb : PE X b (tO P E g)) : XT X P E (.Compare a [.Gt] [b] pos) (tCmp oGt f g) := x_cmp op_gt ok_gt ha hb (nomark _)
theorem x_ge (ha : PE X a (tO P E f)) (hb : PE X b (tO P E g)) : XT X P E (.Compare a [.GtE] [b] pos) (tCmp oGe f g) := x_cmp op_ge ok_ge ha hb (nomark _)
theorem x_eq (hu : X.A.units + 64 < cLine) (ha : PE X a (tO P E f)) (hb : PE X b (tO P E g)) (hK : P.K = X.K := by rfl) : XT X P E (.Compare a [.Eq] [b] pos) (tCmp oEq f g) := x_cmp (hK ▸ op_eqD hu) ok_eq ha hb (nomark _)
theorem x_ne (hu : X.A.units + 64 < cLine) (ha : PE X a (tO P E f)) (hb : PE X b (tO P E g)) (hK : P.K = X.K := by rfl) : XT X P E (.Compare a [.NotEq] [b] pos) (tCmp oNe f g) := x_cmp (hK ▸ op_neD hu) ok_ne ha hb (nomark _)
end
/-- a test of one operand -/
theorem t_t1 {k : D → Bool} {f : Sm D} {r : V → Hp → VK → Prop} {σ : L2.St} {H : Hp} {Q' : Bool → Hp → Prop} {Q : VK} (ok : ∀ T M O H v x (Q : VK), RepP P.K T M O H v x → (∀ H', Same H H' → Q (.bl (k x)) H') → r v H Q)
    (h : tT P E (fun env s => (f env s).bind fun x s => .ok (k x) s) σ H Q') (m : ∀ k H1, Q' k H1 → Q (.bl k) H1) : tO P E f σ H fun v H1 => r v H1 Q := by
  refine (tG_bind (R1 := RO P) (k := fun x env s => Res.ok (k x) s) h).mono fun v H1 ⟨G, env, s, x, f1, e1, r1, c, s0, f0⟩ => ?_
  exact ok _ _ _ H1 v x Q r1 fun H' sm => m _ _ (c (k x) H' (f1.same sm) (e1.trans (.of sm)) rfl)
theorem isNon_rep {K : PySem.W.Frag} {T : Tk} {M O : Addr → Prop} {H : Hp} {v : V} {x : D} (h : RepP K T M O H v x) : decide (v = V.non) = x.isNon := by
  rcases h with h | ⟨_, _, _, rfl, rfl, _⟩
  · cases h <;> rfl
  · rfl
section
variable {a : Expr} {f : Sm D} {pos pos' : Pos} {j : Nat}
theorem x_isN (ha : PE X a (tO P E f)) : XT X P E (.Compare a [.Is] [.Constant .none j pos'] pos) (tIsN f) :=
  have g : ∀ {σ : L2.St} {H : Hp} {Q' : Bool → Hp → Prop} {Q : VK}, tT P E (tIsN f) σ H Q' → (∀ k H1, Q' k H1 → Q (.bl k) H1) → tOp (fun x y H Q => y = .non ∧ Q (.bl (decide (x = .non))) H) (tO P E f) (tC .non) σ H Q := fun h m =>
    t_t1 (k := D.isNon) (r := fun v H Q => V.non = .non ∧ Q (.bl (decide (v = .non))) H) (fun T M O H v x Q r q => ⟨rfl, by rw [isNon_rep r]; exact q H (Same.refl H)⟩) h m
  ⟨PE.mono (pe_cmpR op_isN ha pe_non (nomark _)) fun _ _ _ h => g h fun _ _ q => q, PT.mono (pt_cmpR op_isN ha pe_non (nomark _)) fun _ _ _ h => g h fun k _ q => ⟨k, rfl, q⟩⟩
theorem x_notN (ha : PE X a (tO P E f)) : XT X P E (.Compare a [.IsNot] [.Constant .none j pos'] pos) (tNot (tIsN f)) :=
  have g : ∀ {σ : L2.St} {H : Hp} {Q' : Bool → Hp → Prop} {Q : VK}, tT P E (tNot (tIsN f)) σ H Q' → (∀ k H1, Q' k H1 → Q (.bl k) H1) → tOp (fun x y H Q => y = .non ∧ Q (.bl (!decide (x = .non))) H) (tO P E f) (tC .non) σ H Q := fun {σ H Q' Q} h m => by
    have h' : tT P E (fun env s => (f env s).bind fun x s => .ok (!x.isNon) s) σ H Q' := by
      obtain ⟨G, env, s, fs, c⟩ := h
      refine ⟨G, env, s, fs, ?_⟩
      have e : tNot (tIsN f) env s = ((f env s).bind fun x s => .ok (!x.isNon) s) := by
        unfold tNot tIsN
        cases f env s <;> rfl
      rw [e] at c
      exact c
    exact t_t1 (k := fun x => !x.isNon) (r := fun v H Q => V.non = .non ∧ Q (.bl (!decide (v = .non))) H) (fun T M O H v x Q r q => ⟨rfl, by rw [isNon_rep r]; exact q H (Same.refl H)⟩) h' m
  ⟨PE.mono (pe_cmpR op_notN ha pe_non (nomark _)) fun _ _ _ h => g h fun _ _ q => q, PT.mono (pt_cmpR op_notN ha pe_non (nomark _)) fun _ _ _ h => g h fun k _ q => ⟨k, rfl, q⟩⟩
end
/-! ### and, or, not -/
theorem t_not {t : Sm Bool} {σ : L2.St} {H : Hp} {Q : Bool → Hp → Prop} (h : tT P E (tNot t) σ H Q) : tT P E t σ H fun k H1 => Q (!k) H1 :=
  (tG_bind (R1 := RB P) (k := fun k env s => Res.ok (!k) s) h).mono fun v H1 ⟨G, env, s, x, f1, e1, r1, c, s0, f0⟩ => by
    obtain rfl : v = x := r1
    exact c _ H1 f1 e1 rfl
theorem t_and {t u : Sm Bool} {σ : L2.St} {H : Hp} {Q : Bool → Hp → Prop} (h : tT P E (tAnd t u) σ H Q) : tT P E t σ H fun k H1 => if k = true then tT P E u σ H1 Q else Q false H1 :=
  (tG_bind (R1 := RB P) (k := fun (k : Bool) env s => if k then u env s else Res.ok false s) h).mono fun v H1 ⟨G, env, s, x, f1, e1, r1, c, s0, f0⟩ => by
    obtain rfl : v = x := r1
    cases v with
    | true => exact ⟨G, env, s, f1, Cont.later c e1 fun _ _ _ _ _ q => q⟩
    | false => exact c _ H1 f1 e1 rfl
theorem t_or {t u : Sm Bool} {σ : L2.St} {H : Hp} {Q : Bool → Hp → Prop} (h : tT P E (tOr t u) σ H Q) : tT P E t σ H fun k H1 => if k = true then Q true H1 else tT P E u σ H1 Q :=
  (tG_bind (R1 := RB P) (k := fun (k : Bool) env s => if k then Res.ok true s else u env s) h).mono fun v H1 ⟨G, env, s, x, f1, e1, r1, c, s0, f0⟩ => by
    obtain rfl : v = x := r1
    cases v with
    | true => exact c _ H1 f1 e1 rfl
    | false => exact ⟨G, env, s, f1, Cont.later c e1 fun _ _ _ _ _ q => q⟩
theorem x_not {a : Expr} {t : Sm Bool} {pos : Pos} (h : XT X P E a t) : XT X P E (.UnaryOp .Not a pos) (tNot t) :=
  ⟨PE.mono (pe_not h.v) fun σ H Q q => (t_not q).mono fun v H1 z => ⟨v, rfl, z⟩, PT.mono (pt_not h.t) fun σ H Q q => t_not q⟩
/-- a chain of and, or: as a value, as a test whatever its whole is -/
structure XW (X : Cx) (P : Pm) (E : XK) (e : Expr) (t : Sm Bool) : Prop where
  v : PE X e (tTV P E t)
  w : PW X e (tT P E t)
theorem PW.mono {e : Expr} {t t' : TT} (h : PW X e t) (m : ∀ σ H Q, t' σ H Q → t σ H Q) : PW X e t' := ⟨fun wh pins s σ H Q I q => h.run wh pins s σ H Q I (m σ H Q q)⟩
section
variable {a b : Expr} {rest : List Expr} {t u : Sm Bool} {pos : Pos}
theorem x_and1 (h : XT X P E a t) : XW X P E (.BoolOp .And [a] pos) t := ⟨pe_one h.v, pw_and1 h.t⟩
theorem x_or1 (h : XT X P E a t) : XW X P E (.BoolOp .Or [a] pos) t := ⟨pe_one h.v, pw_or1 h.t⟩
theorem x_andC (h : XT X P E a t) (h' : XW X P E (.BoolOp .And (b :: rest) pos) u) : XW X P E (.BoolOp .And (a :: b :: rest) pos) (tAnd t u) :=
  ⟨PE.mono (pe_and h.v h'.v) fun σ H Q q => (t_and q).mono fun v H1 z => ⟨v, rfl, z⟩, PW.mono (pw_and h.t h'.w) fun σ H Q q => t_and q⟩
theorem x_orC (h : XT X P E a t) (h' : XW X P E (.BoolOp .Or (b :: rest) pos) u) : XW X P E (.BoolOp .Or (a :: b :: rest) pos) (tOr t u) :=
  ⟨PE.mono (pe_or h.v h'.v) fun σ H Q q => (t_or q).mono fun v H1 z => ⟨v, rfl, z⟩, PW.mono (pw_or h.t h'.w) fun σ H Q q => t_or q⟩
theorem XW.xt {e : Expr} (h : XW X P E e t) : XT X P E e t := ⟨h.v, h.w.pt⟩
end
/-- a value that is a truth, as a test -/
theorem x_val {e : Expr} {f : Sm D} (h : PE X e (tO P E f)) (he : ∀ whole, isTrue e X.env whole = (do let v ← whole; standAt e.pos; holding [v] (truthy v)) := by intro _; rfl) : XT X P E e (tVal f) :=
  have g : ∀ {σ : L2.St} {H : Hp} {Q' : Bool → Hp → Prop}, tT P E (tVal f) σ H Q' → tO P E f σ H fun v H1 => ∃ k, v = .bl k ∧ Q' k H1 := fun {σ H Q'} h =>
    (tG_bind (R1 := RO P) (k := fun x env s => lift x.truth s) h).mono fun v H1 ⟨G, env, s, x, f1, e1, r1, c, s0, f0⟩ => by
      cases x with
      | bl b =>
        have r1 : RepP _ _ _ _ _ _ _ := r1
        obtain rfl := r1.bl
        exact ⟨b, rfl, c b H1 f1 e1 rfl⟩
      | _ => exact c.elim
  ⟨PE.mono h fun σ H Q q => (g q).mono fun v H1 ⟨k, e, z⟩ => by rw [e]; exact z, PT.mono (pt_val h he) fun σ H Q q => g q⟩
/-! ### a if t else b -/
theorem x_if {c a b : Expr} {t : Sm Bool} {f g : Sm RV} {pos : Pos} (h : XT X P E c t) (ha : PE X a (tE P E f)) (hb : PE X b (tE P E g)) : PE X (.IfExp c a b pos) (tE P E (eIf t f g)) :=
  PE.mono (pe_ifExp h.t ha hb) fun σ H Q q => (tG_bind (R1 := RB P) (k := fun (k : Bool) env s => if k then f env s else g env s) q).mono fun v H1 ⟨G, env, s, x, f1, e1, r1, c, s0, f0⟩ => by
    obtain rfl : v = x := r1
    cases v with
    | true => exact ⟨G, env, s, f1, Cont.laterE c e1 f1⟩
    | false => exact ⟨G, env, s, f1, Cont.laterE c e1 f1⟩
/-! ### isinstance -/
theorem kit_all {K : PySem.W.Frag} {x : D} {n : String} (h : x.ty = some n) (t : Ty) : PySem.W.kitOne K (.type n) (.type t.nm) = some (isaT n t) := by
  cases x <;> simp only [D.ty, Option.some.injEq, reduceCtorEq] at h <;> subst h <;> cases t <;> exact kit_ty (by decide +kernel)
theorem rep_ty {K : PySem.W.Frag} {T : Tk} {M O : Addr → Prop} {H : Hp} {v : V} {x : D} {n : String} (h : x.ty = some n) (r : RepP K T M O H v x) : TyX K H v (.type n) := by
  cases x <;> simp only [D.ty, Option.some.injEq, reduceCtorEq] at h <;> subst h
  · rcases r with r | ⟨_, _, _, _, e, _⟩
    · cases r; exact .base .non
    · cases e
  · obtain rfl := r.bl; exact .base (.bl _)
  · obtain rfl := r.int; exact .base (.int _)
  · obtain ⟨rfl, _⟩ := r.str; exact .base (.str _)
  · obtain ⟨a, vs, rfl, h1, _⟩ := r.tup
    rcases h1 with (h1 | ⟨o, h1⟩) | ⟨o, _, _, h1, h2, _⟩
    · exact .base (.tup h1)
    · exact .fTuple h1
    · exact .kTuple h1 h2
  · obtain ⟨a, vs, rfl, h1, _⟩ := r.lst
    exact .base (.lst h1)
  · rcases r with r | ⟨_, _, _, _, e, _⟩
    · cases r with
      | edic _ h1 => exact .base (.dK h1)
    · cases e
theorem t_opt {o : D → Option Bool} {f : Sm D} {r : V → Hp → VK → Prop} {σ : L2.St} {H : Hp} {Q' : Bool → Hp → Prop} {Q : VK} (ok : ∀ T M O H v x k (Q : VK), RepP P.K T M O H v x → o x = some k → (∀ H', Same H H' → Q (.bl k) H') → r v H Q)
    (h : tT P E (fun env s => (f env s).bind fun x s => lift (o x) s) σ H Q') (m : ∀ k H1, Q' k H1 → Q (.bl k) H1) : tO P E f σ H fun v H1 => r v H1 Q := by
  refine (tG_bind (R1 := RO P) (k := fun x env s => lift (o x) s) h).mono fun v H1 ⟨G, env, s, x, f1, e1, r1, c, s0, f0⟩ => ?_
  cases hz : o x with
  | none => rw [hz] at c; exact c.elim
  | some z =>
    rw [hz] at c
    exact ok _ _ _ H1 v x z Q r1 hz fun H' sm => m _ _ (c z H' (f1.same sm) (e1.trans (.of sm)) rfl)
section
variable {e : Expr} {f : Sm D} {p pos q q' : Pos} {j : Nat}
/-- isinstance(e, T), T a built-in class -/
theorem x_isa1 {c : Str} (t : Ty) (hm : X.mg "isinstance" = none) (hmc : X.mg c = none) (hv : bootBuiltins c = some (.type t.nm)) (h : PE X e (tO P E f)) (hg : Gl X "isinstance" := by rfl) (hgc : Gl X c := by rfl) (hs : starEach [e, .Name c q] X.env = (false, eval e X.env) :: starEach [.Name c q] X.env := by rfl)
    (hn : c ≠ "__name__" := by decide +kernel) (hd : (c == ("__debug__" : Str)) = false := by decide +kernel) (hK : P.K = X.K := by rfl) : XT X P E (.Call (.Name "isinstance" p) [e, .Name c q] [] pos) (tIsa [t] f) :=
  have g : ∀ {σ : L2.St} {H : Hp} {Q' : Bool → Hp → Prop} {Q : VK}, tT P E (tIsa [t] f) σ H Q' → (∀ k H1, Q' k H1 → Q (.bl k) H1) → tCB (rIsi X.K) (tCons (tO P E f) (tCons (tC (.ty t.nm)) tNil)) σ H Q := fun h m =>
    t_opt (o := oIsa [t]) (r := fun v H Q => rIsi X.K [v, .ty t.nm] H Q) (fun T M O H v x k Q r e q => by
      unfold oIsa at e
      cases en : x.ty with
      | none => rw [en] at e; cases e
      | some n =>
        rw [en] at e
        have e : some (isaT n t || false) = some k := e
        rw [Bool.or_false] at e
        cases e
        rw [hK] at r
        exact ⟨v, _, _, _, _, rfl, .ty _, rep_ty en r, kit_all en t, q H (Same.refl H)⟩) h m
  have pe : PE X (.Call (.Name "isinstance" p) [e, .Name c q] [] pos) (tCB (rIsi X.K) (tCons (tO P E f) (tCons (tC (.ty t.nm)) tNil))) := pe_callB call_isi hg hm (by decide +kernel) (pa2 h (pe_bltn hgc hmc hv rfl hn hd) hs rfl) (by decide +kernel) (by decide +kernel) hs rfl
  ⟨PE.mono pe fun _ _ _ h => g h fun _ _ q => q, PT.mono (pt_val pe (by intro _; rfl)) fun _ _ _ h => g h fun k _ q => ⟨k, rfl, q⟩⟩
/-- isinstance(e, (T, T')) -/
theorem x_isa2 {c c' : Str} (t t' : Ty) (hm : X.mg "isinstance" = none) (hmc : X.mg c = none) (hmc' : X.mg c' = none) (hv : bootBuiltins c = some (.type t.nm)) (hv' : bootBuiltins c' = some (.type t'.nm)) (h : PE X e (tO P E f)) (hg : Gl X "isinstance" := by rfl) (hgc : Gl X c := by rfl) (hgc' : Gl X c' := by rfl)
    {qt : Pos} (hs : starEach [e, .Tuple [.Name c q, .Name c' q'] j qt] X.env = (false, eval e X.env) :: starEach [.Tuple [.Name c q, .Name c' q'] j qt] X.env := by rfl)
    (hn : c ≠ "__name__" := by decide +kernel) (hd : (c == ("__debug__" : Str)) = false := by decide +kernel) (hn' : c' ≠ "__name__" := by decide +kernel) (hd' : (c' == ("__debug__" : Str)) = false := by decide +kernel) (hK : P.K = X.K := by rfl) :
    XT X P E (.Call (.Name "isinstance" p) [e, .Tuple [.Name c q, .Name c' q'] j qt] [] pos) (tIsa [t, t'] f) :=
  have g : ∀ {σ : L2.St} {H : Hp} {Q' : Bool → Hp → Prop} {Q : VK}, tT P E (tIsa [t, t'] f) σ H Q' → (∀ k H1, Q' k H1 → Q (.bl k) H1) →
      tCB (rIsiT X.K) (tCons (tO P E f) (tCons (tTup (tCons (tC (.ty t.nm)) (tCons (tC (.ty t'.nm)) tNil))) tNil)) σ H Q := fun {σ H Q' Q} h m =>
    t_opt (o := oIsa [t, t']) (r := fun v H Q => ([V.ty t.nm, V.ty t'.nm].length ≤ sizeLine ∧ ∀ p, H p = none → rIsiT X.K [v, .ref p] (upd H p (.tup [.ty t.nm, .ty t'.nm])) Q)) (fun T M O H v x k Q r e q => by
      refine ⟨by show 2 ≤ sizeLine; decide, fun p hp => ?_⟩
      unfold oIsa at e
      cases en : x.ty with
      | none => rw [en] at e; cases e
      | some n =>
        rw [en] at e
        have e : some (isaT n t || (isaT n t' || false)) = some k := e
        rw [Bool.or_false] at e
        cases e
        rw [hK] at r
        have r' := RepP.new (o := .tup [.ty t.nm, .ty t'.nm]) hp r
        refine ⟨v, p, _, _, _, _, rfl, upd_same, .cons (.ty _) (.cons (.ty _) .nil), rep_ty en r', ?_, q _ (Same.new hp)⟩
        refine kitAny_cons (kit_all en t) (fun h0 => kitAny_cons (kit_all en t') (fun h1 => ?_) fun h1 => ?_) fun h0 => ?_
        · rw [h0, h1]; rfl
        · rw [h1]; simp
        · rw [h0]; rfl) h m
  have pe : PE X (.Call (.Name "isinstance" p) [e, .Tuple [.Name c q, .Name c' q'] j qt] [] pos) (tCB (rIsiT X.K) (tCons (tO P E f) (tCons (tTup (tCons (tC (.ty t.nm)) (tCons (tC (.ty t'.nm)) tNil))) tNil))) :=
    pe_callB call_isiT hg hm (by decide +kernel) (pa2 h (pe_tup (pa2 (pe_bltn hgc hmc hv rfl hn hd) (pe_bltn hgc' hmc' hv' rfl hn' hd') rfl rfl)) hs rfl) (by decide +kernel) (by decide +kernel) hs rfl
  ⟨PE.mono pe fun _ _ _ h => g h fun _ _ q => q, PT.mono (pt_val pe (by intro _; rfl)) fun _ _ _ h => g h fun k _ q => ⟨k, rfl, q⟩⟩
end
end
end Ev

/-! Ev7: statements, defs, calls: own work. -/
namespace Ev
open PySem PySem.Spec PyProof.Rows L2
section
variable {P : Pm} {G : Gh} {σ : L2.St} {H H0 H1 : Hp} {env : Lo} {s s0 s1 : DS}
theorem set_get {α : Type} {l : List α} {i j : Nat} {x y : α} (h : (l.set i x)[j]? = some y) : (j = i ∧ y = x) ∨ (j ≠ i ∧ l[j]? = some y) := by
  by_cases e : i = j
  · subst e
    left
    by_cases hl : i < l.length
    · rw [List.getElem?_set_self hl] at h
      exact ⟨rfl, (Option.some.inj h).symm⟩
    · rw [List.getElem?_eq_none (by rw [List.length_set]; omega)] at h
      cases h
  · rw [List.getElem?_set_ne e] at h
    exact .inr ⟨fun z => e z.symm, h⟩
/-- a slot is stored -/
theorem FS.set {i : Nat} {v : V} {r : RV} (f0 : FS P G σ H0 env s0) (f1 : FS P G σ H1 env s1) (e : Ext G.T H0 H1) (rr : RepR P.K G.T (Mx G σ env) H0 H1 v r) : FS P G (σ.set i (some v)) H1 (env.set i r.slot) s1 := by
  have sub : ∀ b, Mx G (σ.set i (some v)) (env.set i r.slot) b → Mx G σ env b ∨ ∃ xs, r = .mu xs ∧ v = .ref b := by
    rintro b (z | ⟨j, xs, z1, z2⟩)
    · exact .inl (.inl z)
    · rcases set_get z1 with ⟨rfl, q⟩ | ⟨n, q⟩
      · right
        cases r with
        | im d => cases q
        | mu ys =>
          refine ⟨ys, rfl, ?_⟩
          rcases set_get z2 with ⟨_, q2⟩ | ⟨n, _⟩
          · exact (Option.some.inj q2).symm
          · exact absurd rfl n
      · left
        rcases set_get z2 with ⟨q2, _⟩ | ⟨_, q2⟩
        · exact absurd q2 n
        · exact .inr ⟨j, xs, q, q2⟩
  have tm : ∀ a, G.T.has a → Mx G σ env a := f0.mtx
  -- what stood is told of the new mutable ones
  have keep : ∀ {ws : List V} {ds : List D}, Reps P.K G.T (Mx G σ env) H0 ws ds → Reps P.K G.T (Mx G (σ.set i (some v)) (env.set i r.slot)) H1 ws ds := fun {ws ds} q => by
    cases r with
    | im d =>
      refine (q.ext f0.st tm e).less fun b z => ?_
      rcases sub b z with z | ⟨xs, z, _⟩
      · exact z
      · cases z
    | mu ys =>
      obtain ⟨p, vs, rfl, hp, _⟩ := rr
      refine ((q.more hp).ext f0.st (fun a z => .inl (tm a z)) e).less fun b z => ?_
      rcases sub b z with z | ⟨xs, _, z⟩
      · exact .inl z
      · exact .inr (V.ref.inj z).symm
  have keep1 : ∀ {w : V} {d : D}, Rep P.K G.T (Mx G σ env) H0 w d → Rep P.K G.T (Mx G (σ.set i (some v)) (env.set i r.slot)) H1 w d := fun {w d} q => by
    cases keep (.cons q .nil) with
    | cons h _ => exact h
  refine ⟨f1.st, f1.mt, f1.dom, fun a z => ⟨(f1.md a z).1, (f1.md a z).2.1, ?_⟩, f1.ext, by rw [List.length_set, List.length_set]; exact f1.len, fun j d h => ?_, fun j xs h => ?_, fun j k xs ys a h1 h2 h3 h4 => ?_, fun p h => keep1 (f0.held p h), fun j k h => ?_, (fun p h => ⟨e _ _ (f0.hel p h).1 fun z => (f0.hel p h).2 (tm _ z), fun z => ?_⟩), f0.tb, fun p h => e _ _ (f0.hex p h) (f0.st.ext_of (f0.hex p h))⟩
  · rintro ⟨j, xs, z1, z2⟩
    rcases set_get z1 with ⟨rfl, q⟩ | ⟨n, q⟩
    · cases r with
      | im d => cases q
      | mu ys =>
        obtain ⟨p, vs, rfl, hp, _⟩ := rr
        rcases set_get z2 with ⟨_, q2⟩ | ⟨n, _⟩
        · cases q2
          exact (f0.md _ z).2.1 hp
        · exact absurd rfl n
    · rcases set_get z2 with ⟨q2, _⟩ | ⟨_, q2⟩
      · exact absurd q2 n
      · exact (f0.md a z).2.2 ⟨j, xs, q, q2⟩
  · rcases set_get h with ⟨rfl, q⟩ | ⟨n, q⟩
    · cases r with
      | mu ys => cases q
      | im d' =>
        cases q
        have hj : j < σ.length := by
          rw [← f1.len]
          have z := (List.getElem?_eq_some_iff.mp h).1
          rwa [List.length_set] at z
        refine ⟨v, List.getElem?_set_self hj, Rep.less (show Rep _ _ _ _ v d from rr) fun b z => ?_⟩
        rcases sub b z with z | ⟨xs, z, _⟩
        · exact z
        · cases z
    · obtain ⟨w, h1, h2⟩ := f0.im j d q
      exact ⟨w, by rw [List.getElem?_set_ne (Ne.symm n)]; exact h1, keep1 h2⟩
  · rcases set_get h with ⟨rfl, q⟩ | ⟨n, q⟩
    · cases r with
      | im d => cases q
      | mu ys =>
        cases q
        have hj : j < σ.length := by
          rw [← f1.len]
          have z := (List.getElem?_eq_some_iff.mp h).1
          rwa [List.length_set] at z
        obtain ⟨p, vs, rfl, hp, h2, h3, h4⟩ := rr
        refine ⟨p, vs, List.getElem?_set_self hj, ?_, h2, h3, h4.less fun b z => ?_⟩
        · cases z : G.Hc p with
          | none => rfl
          | some o =>
            by_cases t : G.T.has p
            · exact absurd hp (f0.st.some_of t)
            · rw [f0.ext p o z t] at hp; cases hp
        · rcases sub b z with z | ⟨xs, _, z⟩
          · exact .inl z
          · exact .inr (V.ref.inj z).symm
    · obtain ⟨a, vs, h1, h2, h3, h4, h5⟩ := f0.mu j xs q
      refine ⟨a, vs, by rw [List.getElem?_set_ne (Ne.symm n)]; exact h1, h2, e _ _ h3 fun z => f0.domT z h2, h4, keep h5⟩
  · have other : ∀ {j : Nat} {xs : List D} {a : Addr}, (env.set i r.slot)[j]? = some (.mu xs) → (σ.set i (some v))[j]? = some (some (.ref a)) → j ≠ i → H0 a ≠ none ∧ env[j]? = some (.mu xs) ∧ σ[j]? = some (some (.ref a)) := fun {j xs a} q1 q2 n => by
      rw [List.getElem?_set_ne (Ne.symm n)] at q1 q2
      obtain ⟨b, vs, z1, _, z3, _⟩ := f0.mu j xs q1
      rw [q2] at z1; cases z1
      exact ⟨by rw [z3]; simp, q1, q2⟩
    have self : ∀ {xs : List D} {a : Addr}, (env.set i r.slot)[i]? = some (.mu xs) → (σ.set i (some v))[i]? = some (some (.ref a)) → H0 a = none := fun {xs a} q1 q2 => by
      rcases set_get q1 with ⟨_, q⟩ | ⟨n, _⟩
      · cases r with
        | im d => cases q
        | mu ys =>
          obtain ⟨p, vs, rfl, hp, _⟩ := rr
          rcases set_get q2 with ⟨_, z⟩ | ⟨n, _⟩
          · cases z; exact hp
          · exact absurd rfl n
      · exact absurd rfl n
    by_cases hj : j = i
    · by_cases hk : k = i
      · rw [hj, hk]
      · subst hj
        exact absurd (self h1 h3) (other h2 h4 hk).1
    · by_cases hk : k = i
      · subst hk
        exact absurd (self h2 h4) (other h1 h3 hj).1
      · exact f0.sep j k xs ys a (other h1 h3 hj).2.1 (other h2 h4 hk).2.1 (other h1 h3 hj).2.2 (other h2 h4 hk).2.2
  · rcases set_get h with ⟨rfl, q⟩ | ⟨n, q⟩
    · cases r <;> cases q
    · obtain ⟨a, φ, z1, z2, z3⟩ := f0.fn j k q
      exact ⟨a, φ, by rw [List.getElem?_set_ne (Ne.symm n)]; exact z1, z2, fun p hp => e _ _ (z3 p hp) (f0.st.ext_of (z3 p hp))⟩
  · rcases sub _ z with z | ⟨xs, z1, z2⟩
    · exact (f0.hel p h).2 z
    · subst z1
      obtain ⟨q, vs, z3, z4, _⟩ := rr
      rw [z3] at z2
      cases z2
      have w := (f0.hel p h).1
      rw [z4] at w
      cases w
/-- a slot is stored with what is not mutable -/
theorem FS.put {i : Nat} {v : V} {d : D} (f : FS P G σ H env s) (rr : Rep P.K G.T (Mx G σ env) H v d) : FS P G (σ.set i (some v)) H (env.set i (.im d)) s :=
  FS.set (r := .im d) f f (Ext.refl _ _) rr
theorem Mx.put {i : Nat} {v : V} {d : D} : ∀ b, Mx G (σ.set i (some v)) (env.set i (.im d)) b → Mx G σ env b := by
  rintro b (z | ⟨j, xs, z1, z2⟩)
  · exact .inl z
  · rcases set_get z1 with ⟨rfl, q⟩ | ⟨n, q⟩
    · cases q
    · rcases set_get z2 with ⟨q2, _⟩ | ⟨_, q2⟩
      · exact absurd q2 n
      · exact .inr ⟨j, xs, q, q2⟩
end
end Ev

/-! Ev8: statements: own work. -/
namespace Ev
open PySem PySem.Spec PyProof.Rows L2
section
variable {P : Pm} {G : Gh} {σ : L2.St} {H H0 H1 : Hp} {env : Lo} {s s0 s1 : DS}
/-- the list at a slot has changed -/
theorem FS.chg {i : Nat} {xs xs' : List D} {a : Addr} {vs' : List V} (f : FS P G σ H env s) (he : env[i]? = some (.mu xs)) (hs : σ[i]? = some (some (.ref a))) (l : vs'.length ≤ sizeLine) (r : Reps P.K G.T (Mx G σ env) H vs' xs') :
    FS P G σ (upd H a (.lst vs')) (env.set i (.mu xs')) s := by
  obtain ⟨b, vs, h1, h2, h3, h4, h5⟩ := f.mu i xs he
  rw [hs] at h1
  cases h1
  have hi : i < env.length := (List.getElem?_eq_some_iff.mp he).1
  have nT : ¬ G.T.has a := fun z => f.domT z h2
  have ma : Mx G σ env a := .inr ⟨i, xs, he, hs⟩
  have own : ∀ c, Mx G σ (env.set i (.mu xs')) c → Mx G σ env c := by
    rintro c (z | ⟨j, ys, z1, z2⟩)
    · exact .inl z
    · rcases set_get z1 with ⟨rfl, _⟩ | ⟨n, q⟩
      · exact .inr ⟨j, xs, he, z2⟩
      · exact .inr ⟨j, ys, q, z2⟩
  have keep : ∀ {ws : List V} {ds : List D}, Reps P.K G.T (Mx G σ env) H ws ds → Reps P.K G.T (Mx G σ (env.set i (.mu xs'))) (upd H a (.lst vs')) ws ds := fun {ws ds} q => by
    refine (q.keep (fun c u z nl => ?_) (fun c us z n => ?_)).less own
    · rw [upd_ne (fun w => by rw [w, h3] at z; exact nl _ (Option.some.inj z).symm)]
      exact z
    · rw [upd_ne (fun w => n (by rw [w]; exact ma))]
      exact z
  have st : ∀ {c : Addr}, G.T.has c → upd H a (.lst vs') c = H c := fun {c} z => upd_ne fun w => nT (by rw [← w]; exact z)
  refine ⟨f.st.move fun b u h z => by
    by_cases q : b = a
    · subst q
      rcases z with z | ⟨φ, z⟩
      · exact absurd z nT
      · rw [h3, z] at h; cases h
    · rw [upd_ne q]; exact h, f.mt, f.dom, fun c z => ⟨(f.md c z).1, ?_, ?_⟩, fun c o z n => ?_, by rw [List.length_set]; exact f.len, fun j d h => ?_, fun j ys h => ?_, fun j k ys zs c q1 q2 q3 q4 => ?_, fun p h => by
    cases keep (.cons (f.held p h) .nil) with
    | cons z _ => exact z, fun j k h => ?_, (fun p h => ⟨by rw [upd_ne (fun w => (f.hel p h).2 (by rw [w]; exact ma))]; exact (f.hel p h).1, fun z => (f.hel p h).2 (own _ z)⟩), f.tb, fun p h => by rw [upd_ne (fun w => by have z := f.hex p h; rw [w, h3] at z; cases z)]; exact f.hex p h⟩
  · rw [upd_ne (fun w => (f.md c z).2.2 (by rw [w]; exact ⟨i, xs, he, hs⟩))]
    exact (f.md c z).2.1
  · rintro ⟨j, ys, z1, z2⟩
    rcases set_get z1 with ⟨rfl, _⟩ | ⟨n, q⟩
    · exact (f.md c z).2.2 ⟨j, xs, he, z2⟩
    · exact (f.md c z).2.2 ⟨j, ys, q, z2⟩
  · rw [upd_ne (fun w => by rw [w, h2] at z; cases z)]
    exact f.ext c o z n
  · rcases set_get h with ⟨_, q⟩ | ⟨_, q⟩
    · cases q
    · obtain ⟨v, z1, z2⟩ := f.im j d q
      refine ⟨v, z1, ?_⟩
      cases keep (.cons z2 .nil) with
      | cons z _ => exact z
  · rcases set_get h with ⟨rfl, q⟩ | ⟨n, q⟩
    · cases q
      exact ⟨a, vs', hs, h2, upd_same, l, keep r⟩
    · obtain ⟨b, us, z1, z2, z3, z4, z5⟩ := f.mu j ys q
      refine ⟨b, us, z1, z2, ?_, z4, keep z5⟩
      rw [upd_ne (fun w => n (f.sep j i ys xs a q he (by rw [← w]; exact z1) hs))]
      exact z3
  · have back : ∀ {j : Nat} {ys : List D}, (env.set i (.mu xs'))[j]? = some (Slot.mu ys) → ∃ zs, env[j]? = some (Slot.mu zs) := fun {j ys} h => by
      rcases set_get h with ⟨rfl, _⟩ | ⟨_, q⟩
      · exact ⟨xs, he⟩
      · exact ⟨ys, q⟩
    obtain ⟨_, w1⟩ := back q1
    obtain ⟨_, w2⟩ := back q2
    exact f.sep j k _ _ c w1 w2 q3 q4
  · rcases set_get h with ⟨_, q⟩ | ⟨_, q⟩
    · cases q
    · obtain ⟨b, φ, z1, z2, z3⟩ := f.fn j k q
      exact ⟨b, φ, z1, z2, fun p hp => by rw [upd_ne (fun w => by have z := z3 p hp; rw [w, h3] at z; cases z)]; exact z3 p hp⟩
/-- a list of one's own is not changed from here on -/
theorem FS.frz {i : Nat} {xs : List D} (f : FS P G σ H env s) (he : env[i]? = some (.mu xs)) : FS P G σ H (env.set i (.im (.lst xs))) s := by
  obtain ⟨a, vs, h1, h2, h3, h4, h5⟩ := f.mu i xs he
  have hi : i < env.length := (List.getElem?_eq_some_iff.mp he).1
  have own : ∀ c, Mx G σ (env.set i (.im (.lst xs))) c → Mx G σ env c := by
    rintro c (z | ⟨j, ys, z1, z2⟩)
    · exact .inl z
    · rcases set_get z1 with ⟨rfl, q⟩ | ⟨n, q⟩
      · cases q
      · exact .inr ⟨j, ys, q, z2⟩
  have na : ¬ Mx G σ (env.set i (.im (.lst xs))) a := by
    rintro (z | ⟨j, ys, z1, z2⟩)
    · rcases f.dom a z with w | w
      · exact w h2
      · exact (f.md a w).2.2 ⟨i, xs, he, h1⟩
    · rcases set_get z1 with ⟨rfl, q⟩ | ⟨n, q⟩
      · cases q
      · exact n (f.sep j i ys xs a q he z2 h1)
  refine ⟨f.st, f.mt, f.dom, fun c z => ⟨(f.md c z).1, (f.md c z).2.1, ?_⟩, f.ext, by rw [List.length_set]; exact f.len, fun j d h => ?_, fun j ys h => ?_, fun j k ys zs c q1 q2 q3 q4 => ?_, fun p h => (f.held p h).less own, fun j k h => ?_, (fun p h => ⟨(f.hel p h).1, fun z => (f.hel p h).2 (own _ z)⟩), f.tb, f.hex⟩
  · rintro ⟨j, ys, z1, z2⟩
    rcases set_get z1 with ⟨_, q⟩ | ⟨n, q⟩
    · cases q
    · exact (f.md c z).2.2 ⟨j, ys, q, z2⟩
  · rcases set_get h with ⟨rfl, q⟩ | ⟨_, q⟩
    · cases q
      exact ⟨.ref a, h1, .lst na h3 h4 (h5.less own)⟩
    · obtain ⟨v, z1, z2⟩ := f.im j d q
      exact ⟨v, z1, z2.less own⟩
  · rcases set_get h with ⟨rfl, q⟩ | ⟨n, q⟩
    · cases q
    · obtain ⟨b, us, z1, z2, z3, z4, z5⟩ := f.mu j ys q
      exact ⟨b, us, z1, z2, z3, z4, z5.less own⟩
  · have back : ∀ {j : Nat} {ys : List D}, (env.set i (.im (.lst xs)))[j]? = some (Slot.mu ys) → env[j]? = some (Slot.mu ys) := fun {j ys} h => by
      rcases set_get h with ⟨rfl, q⟩ | ⟨_, q⟩
      · cases q
      · exact q
    exact f.sep j k _ _ c (back q1) (back q2) q3 q4
  · rcases set_get h with ⟨_, q⟩ | ⟨_, q⟩
    · cases q
    · exact f.fn j k q
end
/-! ### readings of statements -/
def ContS (P : Pm) (E : XK) (G : Gh) (o : Out) (D : Ends) : Prop := match o with
  | .nx env s => ∀ σ H, FS P G σ H env s → D.nx σ H
  | .bk env s => ∀ σ H, FS P G σ H env s → D.bk σ H
  | .ct env s => ∀ σ H, FS P G σ H env s → D.ct σ H
  | .rt r s => ∀ v H, StOk G.T H s → Ext G.T G.Hc H → RepR P.K G.T G.Mc G.Hc H v r → D.rt v H
  | .exc c p s => ∀ cls d H, StOk G.T H s → Ext G.T G.Hc H → P.xi c p cls d H → E cls d H
  | .stuck => False
def tS (P : Pm) (E : XK) (f : Stm) : TS := fun D σ H => ∃ G env s, FS P G σ H env s ∧ ContS P E G (f env s) D
section
variable {X : Cx} {P : Pm} {E : XK} {σ : L2.St} {H : Hp}
theorem out_bind {α β : Type} {R1 : Rl α β} {f : Sm α} {k : α → Stm} {D : Ends} (h : tS P E (fun env s => (f env s).out fun a s => k a env s) D σ H) :
    tG P E R1 f σ H fun v H1 => ∃ G env s a, FS P G σ H1 env s ∧ Ext G.T H H1 ∧ R1 G σ env H H1 v a ∧ ContS P E G (k a env s) D ∧ ∃ s0, FS P G σ H env s0 := by
  obtain ⟨G, env, s, fs, c⟩ := h
  refine ⟨G, env, s, fs, ?_⟩
  have c : ContS P E G ((f env s).out fun a s => k a env s) D := c
  cases hf : f env s with
  | ok a s1 =>
    rw [hf] at c
    exact fun v H1 f1 e1 r1 => ⟨G, env, s1, a, f1, e1, r1, c, s, fs⟩
  | exc x p s1 =>
    rw [hf] at c
    exact fun cls d H' f' e' q => c cls d H' f'.st f'.ext q
  | stuck =>
    rw [hf] at c
    exact c
theorem s_nil : PSs X [] (tS P E sNil) := PSs.mono pss_nil fun D σ H ⟨G, env, s, fs, c⟩ => c σ H fs
theorem s_seq {a : Stmt} {rest : List Stmt} {f g : Stm} (h : PS X a (tS P E f)) (h' : PSs X rest (tS P E g)) : PSs X (a :: rest) (tS P E (sSeq f g)) :=
  PSs.mono (pss_cons h h') fun D σ H ⟨G, env, s, fs, c⟩ => by
    refine ⟨G, env, s, fs, ?_⟩
    unfold sSeq at c
    cases hf : f env s with
    | nx env' s' => rw [hf] at c; exact fun σ' H' fs' => ⟨G, env', s', fs', c⟩
    | rt r s' => rw [hf] at c; exact c
    | bk e s' => rw [hf] at c; exact c
    | ct e s' => rw [hf] at c; exact c
    | exc x p s' => rw [hf] at c; exact c
    | stuck => rw [hf] at c; exact c
theorem s_one {a : Stmt} {f : Stm} (h : PS X a (tS P E f)) : PSs X [a] (tS P E f) := pss_one h
/-- a step of the plain reading alone ahead of a block -/
theorem s_pre {rest : List Stmt} {f g : Stm} (hf : ∀ (D : Ends) (σ : L2.St) (H : Hp), tS P E (sSeq f g) D σ H → tS P E g D σ H) (h : PSs X rest (tS P E g)) : PSs X rest (tS P E (sSeq f g)) := PSs.mono h hf
theorem s_frz {rest : List Stmt} {i : Nat} {g : Stm} (h : PSs X rest (tS P E g)) : PSs X rest (tS P E (sSeq (sFrz i) g)) := s_pre (fun D σ H ⟨G, env, s, fs, c⟩ => by
  unfold sSeq sFrz at c
  cases he : env[i]? with
  | none => rw [he] at c; exact c.elim
  | some sl =>
    rw [he] at c
    cases sl with
    | un => exact c.elim
    | fn k => exact c.elim
    | im d => exact ⟨G, env, s, fs, c⟩
    | mu xs => exact ⟨G, _, s, fs.frz he, c⟩) h
theorem s_brk {pos : Pos} : PS X (.Break pos) (tS P E sBrk) := PS.mono ps_break fun D σ H ⟨G, env, s, fs, c⟩ => c σ H fs
theorem s_cont {pos : Pos} : PS X (.Continue pos) (tS P E sCont) := PS.mono ps_continue fun D σ H ⟨G, env, s, fs, c⟩ => c σ H fs
theorem s_pass {pos : Pos} : PS X (.Pass pos) (tS P E sNil) := PS.mono ps_pass fun D σ H ⟨G, env, s, fs, c⟩ => c σ H fs
theorem s_drop {e : Expr} {f : Sm RV} {pos : Pos} (h : PE X e (tE P E f)) (hs : swapsWith e none pos.line X.env = pure false := by rfl) : PS X (.Expr e pos) (tS P E (sDrop f)) :=
  PS.mono (ps_expr h hs) fun D σ H q => (out_bind (R1 := RE P) (k := fun r env s => Out.nx env s) q).mono fun v H1 ⟨G, env, s, x, f1, e1, r1, c, s0, f0⟩ => c σ H1 f1
theorem s_ret {e : Expr} {f : Sm RV} {pos : Pos} (h : PE X e (tE P E f)) : PS X (.Return (some e) pos) (tS P E (sRet f)) :=
  PS.mono (ps_ret h) fun D σ H q => (out_bind (R1 := RE P) (k := fun r env s => Out.rt r s) q).mono fun v H1 ⟨G, env, s, x, f1, e1, r1, c, s0, f0⟩ => by
    refine c v H1 f1.st f1.ext ?_
    have r1 : RepR _ _ _ _ _ _ _ := r1
    cases x with
    | im d => exact Rep.less (show Rep _ _ _ _ v d from r1) fun b z => .inl z
    | mu xs =>
      obtain ⟨p, vs, rfl, h1, h2, h3, h4⟩ := r1
      refine ⟨p, vs, rfl, FS.dm f0.st f0.ext h1, h2, h3, h4.less fun b z => ?_⟩
      rcases z with z | z
      · exact .inl (.inl z)
      · exact .inr z
theorem s_retN {pos : Pos} : PS X (.Return none pos) (tS P E sRetN) := PS.mono ps_retN fun D σ H ⟨G, env, s, fs, c⟩ => c .non H fs.st fs.ext (show Rep _ _ _ _ _ _ from .non)
theorem s_retV (i : Nat) {x : Str} {p pos : Pos} (hN : X.N[i]? = some x := by rfl) (hv : Vis X.env.scope x := by first | exact Or.inl rfl | exact Or.inr (Or.inl rfl) | exact Or.inr (Or.inr rfl)) (hd : (x == ("__debug__" : Str)) = false := by decide +kernel)
    (hcd : (x == ("__classdict__" : Str)) = false := by decide +kernel) : PS X (.Return (some (.Name x p)) pos) (tS P E (sRetV i)) :=
  PS.mono (ps_ret (pe_var hN hv hd hcd)) fun D σ H ⟨G, env, s, fs, c⟩ => by
    unfold sRetV at c
    split at c
    · rename_i d e
      obtain ⟨v, h1, h2⟩ := fs.im i d e
      exact ⟨v, h1, c v H fs.st fs.ext (show Rep _ _ _ _ _ _ from h2.less fun b z => .inl z)⟩
    · rename_i xs e
      obtain ⟨a, vs, h1, h2, h3, h4, h5⟩ := fs.mu i xs e
      refine ⟨.ref a, h1, c _ H fs.st fs.ext ⟨a, vs, rfl, h2, h3, h4, h5.less fun b z => ?_⟩⟩
      rcases z with z | z
      · exact .inl z
      · exact .inr ⟨i, xs, e, by rw [z]; exact h1⟩
    · exact c.elim
theorem s_if {c : Expr} {a b : List Stmt} {t : Sm Bool} {f g : Stm} {pos : Pos} (h : XT X P E c t) (ha : PSs X a (tS P E f)) (hb : PSs X b (tS P E g)) : PS X (.If c a b pos) (tS P E (sIf t f g)) :=
  PS.mono (ps_if h.t ha hb) fun D σ H q => (out_bind (R1 := RB P) (k := fun (k : Bool) env s => if k then f env s else g env s) q).mono fun v H1 ⟨G, env, s, x, f1, e1, r1, c, s0, f0⟩ => by
    obtain rfl : v = x := r1
    cases v with
    | true => exact ⟨G, env, s, f1, c⟩
    | false => exact ⟨G, env, s, f1, c⟩
theorem s_set {i : Nat} {x : Str} {e : Expr} {f : Sm RV} {pos pos' : Pos} (h : PE X e (tE P E f)) (hN : X.N.Nodup) (hi : X.N[i]? = some x := by rfl) (hx : Loc X.env.scope x := by first | exact Or.inl rfl | exact Or.inr rfl) (hs : swapsWith e (some (.Name x pos')) pos.line X.env = pure false := by rfl)
    (hf : X.fn x = true ∨ X.env.scope.names.lookup x = some .local := by first | exact .inl rfl | exact .inr rfl) : PS X (.Assign [.Name x pos'] e pos) (tS P E (sSet i f)) :=
  PS.mono (ps_set hN hi hx h hs hf) fun D σ H q => (out_bind (R1 := RE P) (k := fun (r : RV) env s => Out.nx (env.set i r.slot) s) q).mono fun v H1 ⟨G, env, s, x, f1, e1, r1, c, s0, f0⟩ => c _ H1 (f0.set f1 e1 r1)
end
end Ev

/-! Ev9: lists changed, targets, loops: own work. -/
namespace Ev
open PySem PySem.Spec PyProof.Rows L2
section
variable {X : Cx} {P : Pm} {E : XK} {σ : L2.St} {H : Hp} {G : Gh} {env : Lo}
theorem tyV_lst {K : PySem.W.Frag} {a : Addr} {vs : List V} (h : H a = some (.lst vs)) : tyV K "list" (.ref a) H := .inl ⟨rfl, vs, SqL.of h⟩
/-- an expression within a statement, at a known frame -/
theorem out_at {α β : Type} {R1 : Rl α β} {f : Sm α} {k : α → DS → Out} {D : Ends} {s : DS} (fs : FS P G σ H env s) (c : ContS P E G ((f env s).out k) D) :
    tG P E R1 f σ H fun v H1 => ∃ s1 a, FS P G σ H1 env s1 ∧ Ext G.T H H1 ∧ R1 G σ env H H1 v a ∧ ContS P E G (k a s1) D := by
  refine ⟨G, env, s, fs, ?_⟩
  cases hf : f env s with
  | ok a s1 =>
    rw [hf] at c
    exact fun v H1 f1 e1 r1 => ⟨s1, a, f1, e1, r1, c⟩
  | exc x p s1 =>
    rw [hf] at c
    exact fun cls d H' f' e' q => c cls d H' f'.st f'.ext q
  | stuck =>
    rw [hf] at c
    exact c
section
variable {x : Str} {i : Nat} {e : Expr} {f : Sm RV} {p apos cpos pos : Pos}
theorem s_app (i : Nat) (h : PE X e (tE P E f)) (hN : X.N[i]? = some x := by rfl) (hv : Vis X.env.scope x := by first | exact Or.inl rfl | exact Or.inr (Or.inl rfl) | exact Or.inr (Or.inr rfl)) (hd : (x == ("__debug__" : Str)) = false := by decide +kernel) (hcd : (x == ("__classdict__" : Str)) = false := by decide +kernel)
    (hbase : attributeBase (.Name x p) "append" X.env (eval (.Name x p) X.env) = eval (.Name x p) X.env := by rfl)
    (hfew : ((backTo cpos (starEach [e] X.env)).all (fun x => !x.1) && (backToKw cpos (keywordEach [] X.env)).all (fun x => x.1.isSome) && decide (([e] : List Expr).length + ([] : List Keyword).length + (if ([] : List Keyword).isEmpty then 0 else 1) < 30)) = true := by rfl)
    (hline : (apos.endLine == cpos.line) = true := by rfl) (hs : starEach [e] X.env = (false, eval e X.env) :: starEach [] X.env := by rfl)
    (hsw : swapsWith (.Call (.Attribute (.Name x p) "append" apos) [e] [] cpos) none pos.line X.env = pure false := by rfl) :
    PS X (.Expr (.Call (.Attribute (.Name x p) "append" apos) [e] [] cpos) pos) (tS P E (sApp i f)) :=
  PS.mono (ps_expr (pe_bm PySem.F.plainAttrs_list PySem.F.slot_list_append PySem.F.type_list_append mt_append (pe_var (i := i) hN hv hd hcd) (pa1 h hs) hbase hfew hline hs rfl) hsw) fun D σ H ⟨G, env, s, fs, c⟩ => by
    unfold sApp at c
    cases he : env[i]? with
    | none => rw [he] at c; exact c.elim
    | some sl => cases sl with
      | un => rw [he] at c; exact c.elim
      | fn k => rw [he] at c; exact c.elim
      | im d => rw [he] at c; exact c.elim
      | mu xs =>
        rw [he] at c
        obtain ⟨a, vs, h1, h2, h3, h4, h5⟩ := fs.mu i xs he
        refine ⟨.ref a, h1, tyV_lst h3, (out_at (R1 := RE P) fs c).mono fun v H1 ⟨s1, r, f1, e1, r1, c1⟩ => ?_⟩
        obtain ⟨b, ws, q1, q2, q3, q4, q5⟩ := f1.mu i xs he
        rw [h1] at q1
        cases q1
        by_cases hl : xs.length < sizeLine
        · rw [if_pos hl] at c1
          have ln := q5.len
          refine ⟨a, ws, v, rfl, rfl, q3, by omega, c1 _ _ (f1.chg he h1 (by rw [List.length_append, List.length_singleton]; omega) (q5.app (.cons ?_ .nil)))⟩
          exact RepR.rep r1 fun p z => fs.fresh z
        · rw [if_neg hl] at c1
          exact c1.elim
theorem s_ext (i : Nat) (h : PE X e (tE P E f)) (hN : X.N[i]? = some x := by rfl) (hv : Vis X.env.scope x := by first | exact Or.inl rfl | exact Or.inr (Or.inl rfl) | exact Or.inr (Or.inr rfl)) (hd : (x == ("__debug__" : Str)) = false := by decide +kernel) (hcd : (x == ("__classdict__" : Str)) = false := by decide +kernel)
    (hbase : attributeBase (.Name x p) "extend" X.env (eval (.Name x p) X.env) = eval (.Name x p) X.env := by rfl)
    (hfew : ((backTo cpos (starEach [e] X.env)).all (fun x => !x.1) && (backToKw cpos (keywordEach [] X.env)).all (fun x => x.1.isSome) && decide (([e] : List Expr).length + ([] : List Keyword).length + (if ([] : List Keyword).isEmpty then 0 else 1) < 30)) = true := by rfl)
    (hline : (apos.endLine == cpos.line) = true := by rfl) (hs : starEach [e] X.env = (false, eval e X.env) :: starEach [] X.env := by rfl)
    (hsw : swapsWith (.Call (.Attribute (.Name x p) "extend" apos) [e] [] cpos) none pos.line X.env = pure false := by rfl) :
    PS X (.Expr (.Call (.Attribute (.Name x p) "extend" apos) [e] [] cpos) pos) (tS P E (sExt i f)) :=
  PS.mono (ps_expr (pe_bm PySem.F.plainAttrs_list PySem.F.slot_list_extend PySem.F.type_list_extend mt_extend (pe_var (i := i) hN hv hd hcd) (pa1 h hs) hbase hfew hline hs rfl) hsw) fun D σ H ⟨G, env, s, fs, c⟩ => by
    unfold sExt at c
    cases he : env[i]? with
    | none => rw [he] at c; exact c.elim
    | some sl => cases sl with
      | un => rw [he] at c; exact c.elim
      | fn k => rw [he] at c; exact c.elim
      | im d => rw [he] at c; exact c.elim
      | mu xs =>
        rw [he] at c
        obtain ⟨a, vs, h1, h2, h3, h4, h5⟩ := fs.mu i xs he
        refine ⟨.ref a, h1, tyV_lst h3, (out_at (R1 := RE P) fs c).mono fun v H1 ⟨s1, r, f1, e1, r1, c1⟩ => ?_⟩
        obtain ⟨b, ws, q1, q2, q3, q4, q5⟩ := f1.mu i xs he
        rw [h1] at q1
        cases q1
        have rr := RepR.rep r1 fun p z => fs.fresh z
        cases hd : r.d with
        | lst ys =>
          rw [hd] at c1 rr
          by_cases hl : xs.length + ys.length ≤ sizeLine
          · have c1 : ContS P E G (if xs.length + ys.length ≤ sizeLine then .nx (env.set i (.mu (xs ++ ys))) s1 else .stuck) D := c1
            rw [if_pos hl] at c1
            have ln := q5.len
            cases rr with
            | lst z1 z2 z3 z4 =>
              have ln2 := z4.len
              exact ⟨a, _, ws, _, rfl, rfl, q3, z2, by omega, c1 _ _ (f1.chg he h1 (by rw [List.length_append]; omega) (q5.app z4))⟩
          · have c1 : ContS P E G (if xs.length + ys.length ≤ sizeLine then .nx (env.set i (.mu (xs ++ ys))) s1 else .stuck) D := c1
            rw [if_neg hl] at c1
            exact c1.elim
        | _ => rw [hd] at c1; exact c1.elim
end
theorem Reps.last {K : PySem.W.Frag} {T : Tk} {M : Addr → Prop} {vs : List V} {ds : List D} (h : Reps K T M H vs ds) : Reps K T M H vs.dropLast ds.dropLast := by
  rw [List.dropLast_eq_take, List.dropLast_eq_take, h.len]
  exact h.take _
section
variable {x : Str} {p apos cpos pos : Pos}
theorem s_pop (i : Nat) (hN : X.N[i]? = some x := by rfl) (hv : Vis X.env.scope x := by first | exact Or.inl rfl | exact Or.inr (Or.inl rfl) | exact Or.inr (Or.inr rfl)) (hd : (x == ("__debug__" : Str)) = false := by decide +kernel) (hcd : (x == ("__classdict__" : Str)) = false := by decide +kernel)
    (hbase : attributeBase (.Name x p) "pop" X.env (eval (.Name x p) X.env) = eval (.Name x p) X.env := by rfl) (hline : (apos.endLine == cpos.line) = true := by rfl)
    (hsw : swapsWith (.Call (.Attribute (.Name x p) "pop" apos) [] [] cpos) none pos.line X.env = pure false := by rfl) :
    PS X (.Expr (.Call (.Attribute (.Name x p) "pop" apos) [] [] cpos) pos) (tS P E (sPop i)) :=
  PS.mono (ps_expr (pe_bm0 PySem.F.plainAttrs_list PySem.F.slot_list_pop PySem.F.type_list_pop mt_pop (pe_var (i := i) hN hv hd hcd) hbase hline) hsw) fun D σ H ⟨G, env, s, fs, c⟩ => by
    unfold sPop at c
    cases he : env[i]? with
    | none => rw [he] at c; exact c.elim
    | some sl => cases sl with
      | un => rw [he] at c; exact c.elim
      | fn k => rw [he] at c; exact c.elim
      | im d => rw [he] at c; exact c.elim
      | mu xs =>
        rw [he] at c
        obtain ⟨a, vs, h1, h2, h3, h4, h5⟩ := fs.mu i xs he
        by_cases hl : xs = []
        · have c : ContS P E G (if xs = [] then .stuck else .nx (env.set i (.mu xs.dropLast)) s) D := c
          rw [if_pos hl] at c
          exact c.elim
        · have c : ContS P E G (if xs = [] then .stuck else .nx (env.set i (.mu xs.dropLast)) s) D := c
          rw [if_neg hl] at c
          have ln := h5.len
          have hp : 0 < vs.length := by
            rw [ln]
            exact List.length_pos_iff.mpr hl
          refine ⟨.ref a, h1, tyV_lst h3, a, vs, vs[vs.length - 1], rfl, rfl, h3, List.getElem?_eq_getElem (by omega), c _ _ (fs.chg he h1 ?_ h5.last)⟩
          rw [List.length_dropLast]
          omega
theorem s_popTo (j i : Nat) {y : Str} {py : Pos} (hNd : X.N.Nodup) (hj : X.N[j]? = some y := by rfl) (hy : Loc X.env.scope y := by first | exact Or.inl rfl | exact Or.inr rfl) (hN : X.N[i]? = some x := by rfl) (hv : Vis X.env.scope x := by first | exact Or.inl rfl | exact Or.inr (Or.inl rfl) | exact Or.inr (Or.inr rfl)) (hd : (x == ("__debug__" : Str)) = false := by decide +kernel) (hcd : (x == ("__classdict__" : Str)) = false := by decide +kernel)
    (hbase : attributeBase (.Name x p) "pop" X.env (eval (.Name x p) X.env) = eval (.Name x p) X.env := by rfl) (hline : (apos.endLine == cpos.line) = true := by rfl)
    (hsw : swapsWith (.Call (.Attribute (.Name x p) "pop" apos) [] [] cpos) (some (.Name y py)) pos.line X.env = pure false := by rfl) (hf : X.fn y = true ∨ X.env.scope.names.lookup y = some .local := by first | exact .inl rfl | exact .inr rfl) :
    PS X (.Assign [.Name y py] (.Call (.Attribute (.Name x p) "pop" apos) [] [] cpos) pos) (tS P E (sPopTo j i)) :=
  PS.mono (ps_set hNd hj hy (pe_bm0 PySem.F.plainAttrs_list PySem.F.slot_list_pop PySem.F.type_list_pop mt_pop (pe_var (i := i) hN hv hd hcd) hbase hline) hsw hf) fun D σ H ⟨G, env, s, fs, c⟩ => by
    unfold sPopTo at c
    cases he : env[i]? with
    | none => rw [he] at c; exact c.elim
    | some sl => cases sl with
      | un => rw [he] at c; exact c.elim
      | fn k => rw [he] at c; exact c.elim
      | im d => rw [he] at c; exact c.elim
      | mu xs =>
        rw [he] at c
        obtain ⟨a, vs, h1, h2, h3, h4, h5⟩ := fs.mu i xs he
        have c : ContS P E G (match xs[xs.length - 1]? with
          | some x => .nx ((env.set i (.mu xs.dropLast)).set j (.im x)) s
          | none => .stuck) D := c
        cases hx : xs[xs.length - 1]? with
        | none => rw [hx] at c; exact c.elim
        | some d =>
          rw [hx] at c
          obtain ⟨v, z1, z2⟩ := h5.get hx
          rw [← h5.len] at z1
          have f1 := fs.chg (vs' := vs.dropLast) he h1 (by rw [List.length_dropLast]; omega) h5.last
          refine ⟨.ref a, h1, tyV_lst h3, a, vs, v, rfl, rfl, h3, z1, c _ _ (f1.put ?_)⟩
          -- the popped one stands as it stood
          have hi : i < env.length := (List.getElem?_eq_some_iff.mp he).1
          have g2 := f1.mu i xs.dropLast (List.getElem?_set_self hi)
          have f2 := fs.chg (vs' := vs) he h1 h4 h5
          have e2 : upd (upd H a (.lst vs.dropLast)) a (.lst vs) = upd H a (.lst vs) := upd_upd
          -- by the very steps of chg, for one value more
          have f3 := fs.chg (vs' := v :: vs.dropLast) he h1 (by rw [List.length_cons, List.length_dropLast]; have := (List.getElem?_eq_some_iff.mp z1).1; omega) (.cons z2 h5.last)
          obtain ⟨b, us, w1, w2, w3, w4, w5⟩ := f3.mu i _ (List.getElem?_set_self hi)
          rw [h1] at w1
          cases w1
          rw [upd_same] at w3
          cases w3
          cases w5 with
          | cons w5 _ =>
            have ma : Mx G σ (env.set i (.mu (d :: xs.dropLast))) a := .inr ⟨i, _, List.getElem?_set_self hi, h1⟩
            have z := Reps.keep (H' := upd H a (.lst vs.dropLast)) (.cons w5 .nil) (fun c u z nl => by
                by_cases q : c = a
                · rw [q, upd_same] at z; exact absurd (Option.some.inj z).symm (nl _)
                · rw [upd_ne q] at z ⊢; exact z) fun c us z n => by
                by_cases q : c = a
                · exact absurd (q ▸ ma) n
                · rw [upd_ne q] at z ⊢; exact z
            cases z with
            | cons z _ =>
              refine z.less fun b q => ?_
              rcases q with q | ⟨k, ys, q1, q2⟩
              · exact .inl q
              · rcases set_get q1 with ⟨rfl, _⟩ | ⟨n, q⟩
                · exact .inr ⟨k, _, List.getElem?_set_self hi, q2⟩
                · exact .inr ⟨k, ys, by rw [List.getElem?_set_ne (Ne.symm n)]; exact q, q2⟩
end
end
end Ev

/-! Ev10: targets, loops, comprehensions: own work. -/
namespace Ev
open PySem PySem.Spec PyProof.Rows L2
section
variable {X : Cx} {P : Pm} {E : XK} {σ : L2.St} {H : Hp} {G : Gh} {env : Lo}
/-! ### x[k] = e -/
theorem s_putAt (i : Nat) {x : Str} {p pos tpos : Pos} {e ke : Expr} {f : Sm RV} {k : Sm D} (h : PE X e (tE P E f)) (hk : PE X ke (tO P E k)) (hN : X.N[i]? = some x := by rfl) (hv : Vis X.env.scope x := by first | exact Or.inl rfl | exact Or.inr (Or.inl rfl) | exact Or.inr (Or.inr rfl)) (hd : (x == ("__debug__" : Str)) = false := by decide +kernel) (hcd : (x == ("__classdict__" : Str)) = false := by decide +kernel)
    (ha : ∀ v, assign (.Subscript (.Name x p) ke tpos) X.env v = (do
      let ov ← holding [v] (eval (.Name x p) X.env)
      let iv ← holding [v, ov] (eval ke X.env)
      standAt tpos
      holding [v, ov, iv] (setItem ov iv v)
      release [v, ov, iv] []) := by intro _; rfl)
    (hs : swapsWithSole [.Subscript (.Name x p) ke tpos] e pos.line X.env = pure false := by rfl) (hw : swappedStores [.Subscript (.Name x p) ke tpos] e X.env = pure none := by rfl)
    (h1 : (assignEach [.Subscript (.Name x p) ke tpos] X.env).map (·.2) = [assign (.Subscript (.Name x p) ke tpos) X.env] := by rfl) :
    PS X (.Assign [.Subscript (.Name x p) ke tpos] e pos) (tS P E (sPutAt i k f)) :=
  PS.mono (ps_asg h (pg_sub (pe_var (i := i) hN hv hd hcd) hk set_list ha) hs hw h1) fun D σ H ⟨G, env, s, fs, c⟩ => by
    unfold sPutAt at c
    refine (out_at (R1 := RE P) fs c).mono fun v H1 ⟨s1, r, f1, e1, r1, c1⟩ => ?_
    have rr := RepR.rep r1 fun p z => fs.fresh z
    cases he : env[i]? with
    | none => rw [he] at c1; exact c1.elim
    | some sl => cases sl with
      | un => rw [he] at c1; exact c1.elim
      | fn k => rw [he] at c1; exact c1.elim
      | im d => rw [he] at c1; exact c1.elim
      | mu xs =>
        rw [he] at c1
        obtain ⟨a, vs, z1, z2, z3, z4, z5⟩ := f1.mu i xs he
        refine ⟨.ref a, z1, (out_at (R1 := RO P) f1 c1).mono fun w H2 ⟨s2, n, f2, e2, r2, c2⟩ => ?_⟩
        cases n with
        | int n =>
          have r2 : RepP _ _ _ _ _ _ _ := r2
          obtain rfl := r2.int
          have c2 : ContS P E G (match L2.ixN xs.length n with
            | some m => .nx (env.set i (.mu (xs.set m r.d))) s2
            | none => .stuck) D := c2
          obtain ⟨b, ws, q1, q2, q3, q4, q5⟩ := f2.mu i xs he
          rw [z1] at q1
          cases q1
          cases hm : L2.ixN xs.length n with
          | none => rw [hm] at c2; exact c2.elim
          | some m =>
            rw [hm] at c2
            refine ⟨a, ws, n, m, rfl, rfl, q3, by rw [q5.len]; exact hm, c2 _ _ (f2.chg he z1 (by rw [List.length_set]; exact q4) (Reps.set (rr.ext f1.st f1.mtx e2) m q5))⟩
        | _ => exact c2.elim
/-! ### targets -/
def gLstT (K : PySem.W.Frag) (n : Nat) (t : TGs) : TG := fun v σ H Q => gTup K n t v σ H Q ∨ gLst K n t v σ H Q
theorem pg_seq {es : List Expr} {k : Nat} {t : TGs} {n : Nat} {pos : Pos} (hc : X.calm = true) (h : PGs X es t) (hn : (assignEach es X.env).length = n) (hst : (assignEach es X.env).findIdx? (·.1) = none) : PG X (.Tuple es k pos) (gLstT X.K n t) :=
  ⟨fun pins s σ H v u Q I r h' => h'.elim (fun z => (pg_tup hc h hn hst).run pins s σ H v u Q I r z) fun z => (pg_lst hc h hn hst).run pins s σ H v u Q I r z⟩
mutual
def gT (K : PySem.W.Frag) : Tgt → TG
  | .nm i => gName i
  | .tp ts => gLstT K ts.length (gTs K ts)
def gTs (K : PySem.W.Frag) : List Tgt → TGs
  | [] => gNil
  | t :: ts => gCons (gT K t) (gTs K ts)
end
mutual
theorem t_put : ∀ (t : Tgt) {d : D} {env env' : Lo} {σ : L2.St} {v : V} {s : DS} {Q : L2.St → Hp → Prop}, FS P G σ H env s → Rep P.K G.T (Mx G σ env) H v d → t.put d env = some env' →
    (∀ σ', FS P G σ' H env' s → (∀ b, Mx G σ' env' b → Mx G σ env b) → Q σ' H) → gT P.K t v σ H Q
  | .nm i, d, env, env', σ, v, s, Q, fs, r, e, q => by
    unfold Tgt.put at e
    cases e
    unfold gT
    exact q _ (fs.put r) Mx.put
  | .tp ts, d, env, env', σ, v, s, Q, fs, r, e, q => by
    unfold gT
    cases d with
    | tup xs =>
      have e : Tgt.puts ts xs env = some env' := by unfold Tgt.put at e; exact e
      cases r with
      | tup h1 h2 h3 =>
        refine .inl ⟨_, _, rfl, h1, ?_, t_puts ts fs h3 e q⟩
        rw [h3.len]
        exact puts_len ts xs e
    | lst xs =>
      have e : Tgt.puts ts xs env = some env' := by unfold Tgt.put at e; exact e
      cases r with
      | lst h0 h1 h2 h3 =>
        refine .inr ⟨_, _, rfl, SqL.of h1, ?_, t_puts ts fs h3 e q⟩
        rw [h3.len]
        exact puts_len ts xs e
    | _ => unfold Tgt.put at e; cases e
theorem t_puts : ∀ (ts : List Tgt) {ds : List D} {env env' : Lo} {σ : L2.St} {vs : List V} {s : DS} {Q : L2.St → Hp → Prop}, FS P G σ H env s → Reps P.K G.T (Mx G σ env) H vs ds → Tgt.puts ts ds env = some env' →
    (∀ σ', FS P G σ' H env' s → (∀ b, Mx G σ' env' b → Mx G σ env b) → Q σ' H) → gTs P.K ts vs σ H Q
  | [], ds, env, env', σ, vs, s, Q, fs, r, e, q => by
    cases r with
    | nil =>
      unfold Tgt.puts at e
      cases e
      exact ⟨rfl, q σ fs fun _ z => z⟩
    | cons _ _ => unfold Tgt.puts at e; cases e
  | t :: ts, ds, env, env', σ, vs, s, Q, fs, r, e, q => by
    cases r with
    | nil => unfold Tgt.puts at e; cases e
    | cons h1 h2 =>
      rename_i v vs d ds
      unfold Tgt.puts at e
      cases h : t.put d env with
      | none => rw [h] at e; cases e
      | some env1 =>
        rw [h] at e
        unfold gTs
        exact ⟨v, vs, rfl, t_put t fs h1 h fun σ1 f1 m1 => t_puts ts f1 (h2.less m1) e fun σ2 f2 m2 => q σ2 f2 fun b z => m1 b (m2 b z)⟩
theorem puts_len : ∀ (ts : List Tgt) (ds : List D) {env env' : Lo}, Tgt.puts ts ds env = some env' → ds.length = ts.length
  | [], [], _, _, _ => rfl
  | [], _ :: _, _, _, e => by unfold Tgt.puts at e; cases e
  | _ :: _, [], _, _, e => by unfold Tgt.puts at e; cases e
  | t :: ts, d :: ds, env, env', e => by
    unfold Tgt.puts at e
    cases h : t.put d env with
    | none => rw [h] at e; cases e
    | some env1 =>
      rw [h] at e
      exact congrArg Nat.succ (puts_len ts ds e)
end
theorem g_nm (i : Nat) {x : Str} {pos : Pos} (hN : X.N.Nodup) (hi : X.N[i]? = some x := by rfl) (hx : Loc X.env.scope x := by first | exact Or.inl rfl | exact Or.inr rfl) (hf : X.fn x = true ∨ X.env.scope.names.lookup x = some .local := by first | exact .inl rfl | exact .inr rfl) : PG X (.Name x pos) (gT P.K (.nm i)) := by
  unfold gT
  exact pg_name hN hi hx hf
theorem g_nil : PGs X [] (gTs P.K []) := by
  unfold gTs
  exact pgs_nil
theorem g_cons {e : Expr} {es : List Expr} {t : Tgt} {ts : List Tgt} (h : PG X e (gT P.K t)) (h' : PGs X es (gTs P.K ts)) (hs : (assignEach (e :: es) X.env).map (·.2) = assign e X.env :: (assignEach es X.env).map (·.2) := by rfl) : PGs X (e :: es) (gTs P.K (t :: ts)) := by
  unfold gTs
  exact pgs_cons h h' hs
theorem g_tp {es : List Expr} {k : Nat} {ts : List Tgt} {pos : Pos} (hc : X.calm = true) (h : PGs X es (gTs P.K ts)) (hn : (assignEach es X.env).length = ts.length := by rfl) (hst : (assignEach es X.env).findIdx? (·.1) = none := by rfl) (hK : P.K = X.K := by rfl) : PG X (.Tuple es k pos) (gT P.K (.tp ts)) := by
  unfold gT
  rw [hK] at h ⊢
  exact pg_seq hc h hn hst
theorem s_put {tg e : Expr} {t : Tgt} {f : Sm RV} {pos : Pos} (h : PE X e (tE P E f)) (hg : PG X tg (gT P.K t)) (hs : swapsWithSole [tg] e pos.line X.env = pure false := by rfl) (hw : swappedStores [tg] e X.env = pure none := by rfl)
    (h1 : (assignEach [tg] X.env).map (·.2) = [assign tg X.env] := by rfl) : PS X (.Assign [tg] e pos) (tS P E (sPut t f)) :=
  PS.mono (ps_asg h hg hs hw h1) fun D σ H q => by
    refine (out_bind (R1 := RE P) (k := fun (r : RV) env s => match r with
      | .im d => match t.put d env with
        | some env => Out.nx env s
        | none => .stuck
      | .mu _ => .stuck) q).mono fun v H1 ⟨G, env, s, x, f1, e1, r1, c, s0, f0⟩ => ?_
    cases x with
    | mu xs => exact c.elim
    | im d =>
      have c : ContS P E G (match t.put d env with
        | some env => Out.nx env s
        | none => .stuck) D := c
      cases hp : t.put d env with
      | none => rw [hp] at c; exact c.elim
      | some env' =>
        rw [hp] at c
        exact t_put t f1 (show Rep _ _ _ _ v d from r1) hp fun σ' f' _ => c σ' H1 f'
/-! ### i, j = a, b -/
theorem s_par {i j : Nat} {x y : Str} {a b : Expr} {f g : Sm RV} {px py pt pos : Pos} {kt : Nat} {k2 : Nat} {pt2 : Pos} (hc : X.calm = true) (ha : PE X a (tE P E f)) (hb : PE X b (tE P E g)) (hN : X.N.Nodup) (hi : X.N[i]? = some x := by rfl) (hj : X.N[j]? = some y := by rfl) (hij : i ≠ j := by decide)
    (hx : X.env.scope.names.lookup x = some .local := by rfl) (hy : X.env.scope.names.lookup y = some .local := by rfl)
    (hw : swappedStores [.Tuple [.Name x px, .Name y py] kt pt] (.Tuple [a, b] k2 pt2) X.env = pure (some [x, y]) := by rfl) (hs : swapsWithSole [.Tuple [.Name x px, .Name y py] kt pt] (.Tuple [a, b] k2 pt2) pos.line X.env = pure false := by rfl)
    (h1 : starEach [a, b] X.env = (false, eval a X.env) :: starEach [b] X.env := by rfl) (h2 : starEach [b] X.env = (false, eval b X.env) :: starEach [] X.env := by rfl) :
    PS X (.Assign [.Tuple [.Name x px, .Name y py] kt pt] (.Tuple [a, b] k2 pt2) pos) (tS P E (sPar i j f g)) :=
  PS.mono (ps_par (i := i) (j := j) hc hN hi hj hij hx hy (pa2 ha hb h1 h2) hw hs) fun D σ H ⟨G, env, s, fs, c⟩ => by
    unfold sPar at c
    refine (out_at (R1 := RE P) fs c).mono fun v H1 ⟨s1, r, f1, e1, r1, c1⟩ => ?_
    refine (out_at (R1 := RE P) f1 c1).mono fun w H2 ⟨s2, q, f2, e2, r2, c2⟩ => ?_
    refine ⟨v, w, rfl, ?_⟩
    -- the first one at the later heap
    have r1' : RepR P.K G.T (Mx G σ env) H H2 v r := by
      have r1 : RepR P.K G.T (Mx G σ env) H H1 v r := r1
      cases r with
      | im d => exact Rep.ext (show Rep _ _ _ _ v d from r1) f1.st f1.mtx e2
      | mu xs =>
        obtain ⟨p, vs, e, z1, z2, z3, z4⟩ := r1
        exact ⟨p, vs, e, z1, e2 _ _ z2 fun t => fs.st.some_of t z1, z3, z4.ext f1.st (fun a z => .inl (f1.mtx a z)) e2⟩
    have fa : FS P G (σ.set i (some v)) H2 (env.set i r.slot) s2 := fs.set f2 (e1.trans e2) r1'
    have fb : FS P G (σ.set i (some v)) H1 (env.set i r.slot) s1 := fs.set f1 e1 r1
    have sub : ∀ b, Mx G (σ.set i (some v)) (env.set i r.slot) b → Mx G σ env b ∨ ∃ xs, r = .mu xs := by
      rintro b (z | ⟨k, xs, z1, z2⟩)
      · exact .inl (.inl z)
      · rcases set_get z1 with ⟨rfl, q⟩ | ⟨n, q⟩
        · cases r with
          | im d => cases q
          | mu ys => exact .inr ⟨ys, rfl⟩
        · rcases set_get z2 with ⟨q2, _⟩ | ⟨_, q2⟩
          · exact absurd q2 n
          · exact .inl (.inr ⟨k, xs, q, q2⟩)
    cases r with
    | im d =>
      have c2 : ContS P E G (.nx ((env.set i (RV.im d).slot).set j q.slot) s2) D := c2
      refine c2 _ H2 (fb.set fa e2 ?_)
      have r2 : RepR P.K G.T (Mx G σ env) H1 H2 w q := r2
      have sub' : ∀ b, Mx G (σ.set i (some v)) (env.set i (RV.im d).slot) b → Mx G σ env b := fun b z => by
        rcases sub b z with z | ⟨xs, z⟩
        · exact z
        · cases z
      cases q with
      | im d' => exact Rep.less (show Rep _ _ _ _ w d' from r2) sub'
      | mu ys =>
        obtain ⟨p, vs, e, z1, z2, z3, z4⟩ := r2
        exact ⟨p, vs, e, z1, z2, z3, z4.less fun b z => z.imp (sub' b) id⟩
    | mu xs =>
      have c2 : ContS P E G (if q.flat then .nx ((env.set i (RV.mu xs).slot).set j q.slot) s2 else .stuck) D := c2
      by_cases hq : q.flat = true
      · rw [if_pos hq] at c2
        refine c2 _ H2 (fb.set fa e2 ?_)
        have r2 : RepR P.K G.T (Mx G σ env) H1 H2 w q := r2
        cases q with
        | im d' => exact Rep.flat (show d'.imm = true from hq) (show Rep _ _ _ _ w d' from r2)
        | mu ys =>
          obtain ⟨p, vs, e, z1, z2, z3, z4⟩ := r2
          exact ⟨p, vs, e, z1, z2, z3, z4.flat hq⟩
      · rw [if_neg hq] at c2
        exact c2.elim
/-! ### x += e -/
theorem s_aug {i : Nat} {x : Str} {e : Expr} {f : Sm D} {pos pos' : Pos} (h : PE X e (tO P E f)) (hN : X.N.Nodup) (hi : X.N[i]? = some x := by rfl) (hx : Loc X.env.scope x := by first | exact Or.inl rfl | exact Or.inr rfl) (hf : X.fn x = true ∨ X.env.scope.names.lookup x = some .local := by first | exact .inl rfl | exact .inr rfl) :
    PS X (.AugAssign (.Name x pos') .Add e pos) (tS P E (sAugI i f)) :=
  PS.mono (ps_aug hN hi hx h ip_add hf) fun D σ H ⟨G, env, s, fs, c⟩ => by
    unfold sAugI at c
    cases he : env[i]? with
    | none => rw [he] at c; exact c.elim
    | some sl => cases sl with
      | un => rw [he] at c; exact c.elim
      | fn k => rw [he] at c; exact c.elim
      | mu d => rw [he] at c; exact c.elim
      | im d =>
        rw [he] at c
        obtain ⟨v, h1, h2⟩ := fs.im i d he
        refine ⟨v, h1, ?_⟩
        refine (out_at (R1 := RO P) fs c).mono fun w H1 ⟨s1, y, f1, e1, r1, c1⟩ => ?_
        cases d with
        | int n => cases y with
          | int m =>
            cases h2
            have r1 : RepP _ _ _ _ _ _ _ := r1
            obtain rfl := r1.int
            exact ⟨n, m, rfl, rfl, c1 _ H1 (f1.put (.int _))⟩
          | _ => exact c1.elim
        | _ => exact c1.elim
end
end Ev

/-! Ev11: enumerate over a tuple: own work. -/
namespace PySem
open Sem (wp)
set_option maxHeartbeats 1000000 in
theorem evMeetsEnum {src : Value} {ob : Obj} {HH : Heap → Prop} (BB : Begins src ob HH) :
    Meets (Builtin.«enumerate.__new__» ⟨[.type "enumerate", src], []⟩) (fun _ Rr sh => HH sh.heap ∧
      Rr (.ok (.ret (.ref (sh.heap.push ob).objs.size))) { sh with heap := (sh.heap.push ob).push { cls := .type "enumerate", data := .fields #[.none, .bool false, .ref sh.heap.objs.size, rawInt 0, .none, .none] } }) :=
  .of_wp fun prog w A Rr sh hyp => by
    obtain ⟨hp, gg, dd, tt, ss⟩ := sh
    obtain ⟨hyp1, hyp2⟩ := hyp
    have hsb := sub_enumerate
    have itr : ∀ {A' : Around} {E' : Value → Shared → Prop} {Q' : Value → Shared → Prop}, Q' (.ref hp.objs.size) ⟨hp.push ob, gg, dd, tt, ss⟩ → wpAny (model prog w) A' (pyIter src) Q' E' ⟨hp, gg, dd, tt, ss⟩ := fun z => BB.iter prog w _ _ ⟨hp, gg, dd, tt, ss⟩ _ hyp1 z
    wp_walk using itr
    refine wpAny_stack_any fun _ => wpAny_pure ?_
    split
    · rename_i cl _ _ _ _ _
      cases (cl == Value.type "enumerate")
      all_goals
        wp_walk using itr
        exact ⟨_, rfl, hyp2⟩
    · wp_walk using itr
      exact ⟨_, rfl, hyp2⟩
theorem evEnumBegins {prog : Program} {w : World} {A : Around} {E : Value → Shared → Prop} {sh : Shared} {src : Value} {ob : Obj} {HH : Heap → Prop} {Q : Value → Shared → Prop} (BB : Begins src ob HH) (hyp : HH sh.heap)
    (nxt : ∀ h2, IsEnum h2 (sh.heap.objs.size + 1) sh.heap.objs.size 0 .none → h2.get? sh.heap.objs.size = some ob → h2.objs.size = sh.heap.objs.size + 2 → (∀ c u, sh.heap.get? c = some u → h2.get? c = some u) → Q (.ref (sh.heap.objs.size + 1)) { sh with heap := h2 }) :
    wpAny (model prog w) A (call (.type "enumerate") [src]) Q E sh := by
  refine callType_new F.called_enumerate (by decide) (F.typeCall_enumerate_1 src) (F.newCall_enumerate_1 src) (fun obj => F.args_object_init_2 obj src) F.entry_enumerate_new (evMeetsEnum BB) ⟨hyp, ?_⟩
  have sz1 : (sh.heap.push ob).objs.size = sh.heap.objs.size + 1 := Heap.size_push ..
  show _ ∧ _
  rw [sz1]
  have en : IsEnum ((sh.heap.push ob).push { cls := .type "enumerate", data := .fields #[.none, .bool false, .ref sh.heap.objs.size, rawInt 0, .none, .none] }) (sh.heap.objs.size + 1) sh.heap.objs.size 0 .none := by
    have q := Heap.get?_push_size (sh.heap.push ob) (o := { cls := .type "enumerate", data := .fields #[.none, .bool false, .ref sh.heap.objs.size, rawInt 0, .none, .none] }) rfl
    rw [sz1] at q
    exact q
  refine ⟨⟨_, en, rfl⟩, nxt _ en (Heap.get?_push_of_some _ (Heap.get?_push_size _ BB.free)) ?_ fun c u z => Heap.get?_push_of_some _ (Heap.get?_push_of_some _ z)⟩
  rw [Heap.size_push, sz1]
end PySem
namespace Ev
open PySem PySem.Spec PyProof.Rows L2
/-- the tuple at a, each item in a new pair with its number -/
def ItEt (K : PySem.W.Frag) (a : Addr) : It :=
  ⟨fun i H => ∃ (xs : List V) (x : V), SqT K H a xs ∧ xs[i]? = some x, fun i H v H' => ∃ T x, v = .ref T ∧ H T = none ∧ H' = upd H T (.tup [.int (i : Nat), x]) ∧ ∀ xs, SqT K H a xs → xs[i]? = some x, fun i H => ∃ xs : List V, SqT K H a xs ∧ i = xs.length⟩
theorem turn_et {P : Program} {w : World} {K : PySem.W.Frag} {elts : List Expr} {kk : Nat} {tpos : Pos} (a e it : Addr) :
    Turn P w K (.Tuple elts kk tpos) (ItEt K a) [e, it] e (fun i h => (∃ old, IsEnum h e it ((i : Nat) : Int) old) ∧ h.IsTupleIter it a i ∧ e ≠ it) where
  mem := List.mem_cons_self ..
  obj := fun i h st b hb => by
    obtain ⟨⟨old, en⟩, ⟨o, ho, _, hd⟩, _⟩ := st
    rcases List.mem_cons.mp hb with z | z
    · subst z; exact ⟨_, en, fun v q => nomatch q⟩
    · obtain rfl := List.mem_singleton.mp z
      exact ⟨o, ho, fun v q => by rw [hd] at q; cases q⟩
  keep := fun i h h' st k => by
    obtain ⟨⟨old, en⟩, hi, ne⟩ := st
    exact ⟨⟨old, k e (by simp) _ en⟩, hi.at fun o q => k it (by simp) o q, ne⟩
  item := by
    intro X hP hw hK hc i pins s σ H E I hf st hg
    subst hP hw hK
    obtain ⟨⟨old, en⟩, hit, ne⟩ := st
    obtain ⟨xs, x, hq, hx⟩ := hg
    obtain ⟨its, rv, p, hz⟩ := I.tuple hq
    obtain ⟨u, hu, ru⟩ := rv.get hx
    have elt : e < s.heap.objs.size := Heap.lt_size en
    have ilt : it < s.heap.objs.size := by obtain ⟨_, q, _⟩ := hit; exact Heap.lt_size q
    have pt : s.heap.IsTuple a its.toArray := p
    have nai : a ≠ it := fun z => by
      subst z
      obtain ⟨o1, q1, q2, _⟩ := pt
      obtain ⟨o2, w1, w2, _⟩ := hit
      rw [q1] at w1; cases w1
      rw [q2] at w2
      simp at w2
    have nae : a ≠ e := fun z => by
      subst z
      obtain ⟨o1, q1, q2, _⟩ := pt
      have w1 : s.heap.get? a = _ := en
      rw [q1] at w1; cases w1
      simp at q2
    have hcA : X.A.in1.handled = none := I.ok.hd hc
    have hil : i < its.toArray.size := by
      rw [List.size_toArray]
      exact (List.getElem?_eq_some_iff.mp hu).1
    refine wpAny_pyNext_enum_itemC (Draws.tuple hcA it a nai its.toArray) en ⟨hit, pt⟩ hil ne (by simp [ne, Ne.symm nae]) fun y h' tk hy ho hs' hT hsz hk => ?_
    obtain rfl : y = u := by
      have q : its.toArray[i]? = some y := hy
      rw [List.getElem?_toArray, hu] at q
      exact (Option.some.inj q).symm
    refine ⟨_, rfl, wpAny_letOwnedTupleGo_enum (s := { s with heap := h', toks := tk + 1 }) ho fun h'' he' sb => ?_⟩
    have hT2 : h''.get? s.heap.objs.size = some { cls := .type "tuple", data := .seq #[.int i tk, y] } := (sb.2 _ (Nat.ne_of_gt elt)).trans hT
    have nw : ObjOk X.prog X.w (upd H s.heap.objs.size (.tup [.int (i : Nat), x])) h'' s.heap.objs.size (.tup [.int (i : Nat), x]) :=
      ⟨by show 2 ≤ sizeLine; decide, [.int i tk, y], .cons ⟨_, rfl⟩ (.cons ru .nil), ⟨_, hT2, rfl, _, rfl⟩⟩
    have kk : ∀ b ob, b ∉ [e, it] → s.heap.get? b = some ob → h''.get? b = some ob := fun b ob hb q => by
      have b1 : b ≠ e := fun z => hb (by simp [z])
      have b2 : b ≠ it := fun z => hb (by simp [z])
      exact (sb.2 b b1).trans (hk b ob b1 b2 q)
    have I1 := I.turnedNew (t' := tk + 1) kk hf (Nat.le_refl _) nw
    refine ⟨.ref s.heap.objs.size, _, I1, rfl, ⟨_, x, rfl, I.hok.fresh (Nat.le_refl _), rfl, fun ys hy => by rw [I.tuple_inj hy hq]; exact hx⟩, ⟨⟨y, ?_⟩, hs'.1.at fun o q => (sb.2 it (Ne.symm ne)).trans q, ne⟩, fun b hb => ?_⟩
    · rw [show ((i + 1 : Nat) : Int) = (i : Int) + 1 by omega]
      exact he'
    · have hlt : b < s.heap.objs.size := by
        rcases List.mem_cons.mp hb with z | z
        · rw [z]; exact elt
        · rw [List.mem_singleton.mp z]; exact ilt
      rw [upd_ne (Nat.ne_of_lt hlt)]
      exact (hf b hb).1
  done := by
    intro X hP hw hK hc i pins s σ H E I hf st hg
    subst hP hw hK
    obtain ⟨⟨old, en⟩, hit, ne⟩ := st
    obtain ⟨xs, hq, rfl⟩ := hg
    obtain ⟨its, rv, p, hz⟩ := I.tuple hq
    have pt : s.heap.IsTuple a its.toArray := p
    have nai : a ≠ it := fun z => by
      subst z
      obtain ⟨o1, q1, q2, _⟩ := pt
      obtain ⟨o2, w1, w2, _⟩ := hit
      rw [q1] at w1; cases w1
      rw [q2] at w2
      simp at w2
    have hcA : X.A.in1.handled = none := I.ok.hd hc
    have hl : xs.length = its.toArray.size := by rw [List.size_toArray]; exact rv.length
    rw [hl] at hit
    exact wpAny_pyNext_enum_endD (Draws.tuple hcA it a nai its.toArray) en ⟨hit, pt⟩ fun h' eb =>
      ⟨rfl, I.turnedL (t' := s.toks) (ch := [e, it]) (fun b o hb q => eb b o (fun z => hb (by simp [z])) q) hf⟩
  self := fun A i s Q E st h => by
    obtain ⟨⟨_, en⟩, _⟩ := st
    exact wpAny_pyIter_enum en h
def iEnumT (K : PySem.W.Frag) (ta : TA) : TI := fun σ H R => ta σ H fun vs H1 => ∃ a xs, vs = [.ref a] ∧ SqT K H1 a xs ∧ R (ItEt K a) H1
theorem pi_enumT {X : Cx} {e : Expr} {ta : TA} {p pos tpos : Pos} {elts : List Expr} {kk : Nat} (hg : Gl X "enumerate") (hm : X.mg "enumerate" = none) (ha : PA X [e] ta) (hs : starEach [e] X.env = [(false, eval e X.env)] := by rfl) :
    PI X (.Tuple elts kk tpos) (.Call (.Name "enumerate" p) [e] [] pos) (iEnumT X.K ta) := by
  refine ⟨fun pins s σ H R I h => ?_⟩
  refine Call_ (ld_blt I hg hm boot_enumerate (PyProof.Rows.callWith_type1 (thn (ha.run pos pins s σ H _ I h) fun us s1 z => ?_) hs rfl))
  obtain ⟨vs, H1, I1, r1, a, xs, ex, hq, q⟩ := z
  subst ex
  obtain ⟨u, rfl, ru⟩ : ∃ u, us = [u] ∧ RelV (.ref a) u := by
    cases r1 with
    | cons r rr => cases rr; exact ⟨_, rfl, r⟩
  cases ru
  obtain ⟨its, rv, p', hz⟩ := I1.tuple hq
  have pt : s1.heap.IsTuple a its.toArray := p'
  refine evEnumBegins (begins_tuple a its.toArray) pt fun h2 en hit hsz hk => wpAny_pyIter_enum en ?_
  have I2 : Inv X pins σ H1 { s1 with heap := h2 } := I1.kept (t' := s1.toks) hk
  refine ⟨s1.heap.objs.size + 1, [s1.heap.objs.size + 1, s1.heap.objs.size], _, _, H1, rfl, I2, turn_et a (s1.heap.objs.size + 1) s1.heap.objs.size, ⟨⟨.none, en⟩, ⟨_, hit, rfl, rfl⟩, Nat.succ_ne_self _⟩, fun b hb => ?_, q⟩
  have hle : s1.heap.objs.size ≤ b := by
    rcases List.mem_cons.mp hb with z | z
    · rw [z]; exact Nat.le_succ _
    · rw [List.mem_singleton.mp z]; exact Nat.le_refl _
  exact I1.fpOk hle (I1.hok.fresh hle)
theorem walk_et {K : PySem.W.Frag} {a : Addr} {xs : List V} : Walk (ItEt K a) xs.length (fun H => SqT K H a xs) (YPair (fun i => some (.int (i : Nat))) (fun i => xs[i]?)) := by
  refine ⟨fun i _ hi q => ⟨xs, xs[i], q, by simp [hi]⟩, fun _ q => ⟨xs, q, rfl⟩, fun i H v H' _ q y => ?_⟩
  obtain ⟨T, x, z1, z2, z3, z4⟩ := y
  exact ⟨T, .int (i : Nat), x, z1, z2, z3, rfl, z4 xs q⟩
end Ev

/-! Ev12: what is walked: own work. -/
namespace Ev
open PySem PySem.Spec PyProof.Rows L2
/-- what is held in the meantime -/
def Gh.hold (G : Gh) (hs : List (V × D)) : Gh := { G with hd := hs ++ G.hd }
section
variable {P : Pm} {G : Gh} {σ : L2.St} {H : Hp} {env : Lo} {s : DS} {hs : List (V × D)}
theorem FS.hold (f : FS P G σ H env s) (h : ∀ p ∈ hs, Rep P.K G.T (Mx G σ env) H p.1 p.2) : FS P (G.hold hs) σ H env s :=
  ⟨f.st, f.mt, f.dom, f.md, f.ext, f.len, f.im, f.mu, f.sep, fun p hp => (List.mem_append.mp hp).elim (h p) (f.held p), f.fn, f.hel, f.tb, f.hex⟩
theorem FS.drop (f : FS P (G.hold hs) σ H env s) : FS P G σ H env s :=
  ⟨f.st, f.mt, f.dom, f.md, f.ext, f.len, f.im, f.mu, f.sep, fun p hp => f.held p (List.mem_append_right _ hp), f.fn, f.hel, f.tb, f.hex⟩
theorem FS.holds (f : FS P (G.hold hs) σ H env s) : ∀ p ∈ hs, Rep P.K G.T (Mx G σ env) H p.1 p.2 := fun p hp => f.held p (List.mem_append_left _ hp)
end
/-- an iterator that goes through ds while hs are held -/
structure ItOk (K : PySem.W.Frag) (T : Tk) (hs : List (V × D)) (ds : List D) (J : It) : Prop where
  go : ∀ (M : Addr → Prop) (H : Hp) (i : Nat), (∀ p ∈ hs, Rep K T M H p.1 p.2) → i < ds.length → J.go i H
  stop : ∀ (M : Addr → Prop) (H : Hp), (∀ p ∈ hs, Rep K T M H p.1 p.2) → J.stop ds.length H
  yld : ∀ (M : Addr → Prop) (H : Hp) (i : Nat) (x : V) (H' : Hp), (∀ p ∈ hs, Rep K T M H p.1 p.2) → i < ds.length → J.yld i H x H' → Same H H' ∧ ∃ d, ds[i]? = some d ∧ Rep K T M H' x d
theorem ItOk.walk {K : PySem.W.Frag} {T : Tk} {hs : List (V × D)} {ds : List D} {J : It} (h : ItOk K T hs ds J) :
    Walk J ds.length (fun H => ∃ M : Addr → Prop, ∀ p ∈ hs, Rep K T M H p.1 p.2) (fun i H x H' => ∀ M : Addr → Prop, (∀ p ∈ hs, Rep K T M H p.1 p.2) → Same H H' ∧ ∃ d, ds[i]? = some d ∧ Rep K T M H' x d) :=
  ⟨fun i H hi ⟨M, g⟩ => h.go M H i g hi, fun H ⟨M, g⟩ => h.stop M H g, fun i H x H' hi ⟨M, g⟩ y M' g' => h.yld M' H i x H' g' hi y⟩
def ContI (P : Pm) (E : XK) (G : Gh) (σ : L2.St) (env : Lo) (H : Hp) (R : It → Hp → Prop) (r : Res (List D)) : Prop := match r with
  | .ok ds s => ∀ J hs H', FS P (G.hold hs) σ H' env s → Ext G.T H H' → ItOk P.K G.T hs ds J → R J H'
  | .exc c p s => ∀ cls d H', FS P G σ H' env s → Ext G.T H H' → P.xi c p cls d H' → E cls d H'
  | .stuck => False
def tI (P : Pm) (E : XK) (f : Sm (List D)) : TI := fun σ H R => ∃ G env s, FS P G σ H env s ∧ ContI P E G σ env H R (f env s)
theorem PI.by {X : Cx} {tg e : Expr} {t : TI} (h : ∀ σ H R, t σ H R → ∃ t', PI X tg e t' ∧ t' σ H R) : PI X tg e t :=
  ⟨fun pins s σ H R I q => let ⟨_, p, q'⟩ := h σ H R q; p.run pins s σ H R I q'⟩
section
variable {K : PySem.W.Frag} {T : Tk}
theorem it_list {a : Addr} {ds : List D} : ItOk K T [(.ref a, .lst ds)] ds (Itl K a) where
  go := fun M H i h lt => by
    cases h _ (List.mem_cons_self ..) with
    | lst h0 h1 h2 h3 =>
      have l := h3.len
      exact ⟨_, _, SqL.of h1, List.getElem?_eq_getElem (by omega)⟩
  stop := fun M H h => by
    cases h _ (List.mem_cons_self ..) with
    | lst h0 h1 h2 h3 => exact ⟨_, SqL.of h1, Nat.le_of_eq h3.len⟩
  yld := fun M H i x H' h lt y => by
    cases h _ (List.mem_cons_self ..) with
    | lst h0 h1 h2 h3 =>
      obtain ⟨rfl, y⟩ := y
      obtain ⟨d, e1, e2⟩ := h3.getV (y _ (SqL.of h1))
      exact ⟨Same.refl _, d, e1, e2⟩
theorem it_tup {a : Addr} {ds : List D} : ItOk K T [(.ref a, .tup ds)] ds (Itt K a) where
  go := fun M H i h lt => by
    cases h _ (List.mem_cons_self ..) with
    | tup h1 h2 h3 =>
      have l := h3.len
      exact ⟨_, _, h1, List.getElem?_eq_getElem (by omega)⟩
  stop := fun M H h => by
    cases h _ (List.mem_cons_self ..) with
    | tup h1 h2 h3 => exact ⟨_, h1, Nat.le_of_eq h3.len⟩
  yld := fun M H i x H' h lt y => by
    cases h _ (List.mem_cons_self ..) with
    | tup h1 h2 h3 =>
      obtain ⟨rfl, y⟩ := y
      obtain ⟨d, e1, e2⟩ := h3.getV (y _ h1)
      exact ⟨Same.refl _, d, e1, e2⟩
theorem it_str {x : Str} : ItOk K T [] (x.cps.toList.map fun c => .str ⟨#[c]⟩) (Its x) where
  go := fun M H i h lt => by
    rw [List.length_map, Array.length_toList] at lt
    exact lt
  stop := fun M H h => by
    rw [List.length_map, Array.length_toList]
    exact Nat.le_refl _
  yld := fun M H i x' H' h lt y => by
    obtain ⟨rfl, c, e1, rfl⟩ := y
    refine ⟨Same.refl _, .str ⟨#[c]⟩, ?_, .str _ (by show 1 ≤ sizeLine; decide)⟩
    rw [List.getElem?_map, Array.getElem?_toList, e1]
    rfl
theorem it_rng {i : Int} {n : Nat} : ItOk K T [] (rangeD i n) (Itr i n) where
  go := fun M H k h lt => by
    rw [rangeD, List.length_map, List.length_range] at lt
    exact lt
  stop := fun M H h => by
    rw [rangeD, List.length_map, List.length_range]
    exact Nat.le_refl n
  yld := fun M H k x H' h lt y => by
    rw [rangeD, List.length_map, List.length_range] at lt
    obtain ⟨rfl, rfl⟩ := y
    exact ⟨Same.refl _, .int (i + k), by rw [rangeD, List.getElem?_map, List.getElem?_range lt]; rfl, .int _⟩
theorem it_rngD {i : Int} {n : Nat} : ItOk K T [] ((List.range n).map fun (k : Nat) => .int (i - (k : Int))) (Itc i (-1) n) where
  go := fun M H k h lt => by
    rw [List.length_map, List.length_range] at lt
    exact lt
  stop := fun M H h => by
    rw [List.length_map, List.length_range]
    exact Nat.le_refl n
  yld := fun M H k x H' h lt y => by
    rw [List.length_map, List.length_range] at lt
    obtain ⟨rfl, rfl⟩ := y
    refine ⟨Same.refl _, .int (i - k), by rw [List.getElem?_map, List.getElem?_range lt]; rfl, ?_⟩
    rw [show i + (k : Int) * (-1) = i - (k : Int) by omega]
    exact .int _
/-- a new pair -/
theorem pair_rep {M : Addr → Prop} {H : Hp} {p : Addr} {x y : V} {d e : D} (n : H p = none) (rx : Rep K T M H x d) (ry : Rep K T M H y e) : Same H (upd H p (.tup [x, y])) ∧ Rep K T M (upd H p (.tup [x, y])) (.ref p) (.tup [d, e]) :=
  ⟨Same.new n, .tup (SqT.of upd_same) (by show 2 ≤ sizeLine; decide) (Reps.new n (.cons rx (.cons ry .nil)))⟩
theorem enumD_len (xs : List D) : (enumD xs).length = xs.length := by rw [enumD, List.length_map, List.length_zipIdx]
theorem enumD_get {xs : List D} {i : Nat} {d : D} (h : xs[i]? = some d) : (enumD xs)[i]? = some (.tup [.int (i : Nat), d]) := by
  rw [enumD, List.getElem?_map, List.getElem?_zipIdx, h]
  simp
theorem it_enumL {a : Addr} {ds : List D} : ItOk K T [(.ref a, .lst ds)] (enumD ds) (Ite K a) where
  go := fun M H i h lt => by
    rw [enumD_len] at lt
    cases h _ (List.mem_cons_self ..) with
    | lst h0 h1 h2 h3 =>
      have l := h3.len
      exact ⟨_, _, SqL.of h1, List.getElem?_eq_getElem (by omega)⟩
  stop := fun M H h => by
    rw [enumD_len]
    cases h _ (List.mem_cons_self ..) with
    | lst h0 h1 h2 h3 => exact ⟨_, SqL.of h1, Nat.le_of_eq h3.len⟩
  yld := fun M H i x H' h lt y => by
    cases h _ (List.mem_cons_self ..) with
    | lst h0 h1 h2 h3 =>
      obtain ⟨p, x, rfl, hp, rfl, y⟩ := y
      obtain ⟨d, e1, e2⟩ := h3.getV (y _ (SqL.of h1))
      have z := pair_rep hp (.int (i : Nat)) e2
      exact ⟨z.1, _, enumD_get e1, z.2⟩
theorem it_enumT {a : Addr} {ds : List D} : ItOk K T [(.ref a, .tup ds)] (enumD ds) (ItEt K a) where
  go := fun M H i h lt => by
    rw [enumD_len] at lt
    cases h _ (List.mem_cons_self ..) with
    | tup h1 h2 h3 =>
      have l := h3.len
      exact ⟨_, _, h1, List.getElem?_eq_getElem (by omega)⟩
  stop := fun M H h => by
    rw [enumD_len]
    cases h _ (List.mem_cons_self ..) with
    | tup h1 h2 h3 => exact ⟨_, h1, h3.len.symm⟩
  yld := fun M H i x H' h lt y => by
    cases h _ (List.mem_cons_self ..) with
    | tup h1 h2 h3 =>
      obtain ⟨p, x, rfl, hp, rfl, y⟩ := y
      obtain ⟨d, e1, e2⟩ := h3.getV (y _ h1)
      have z := pair_rep hp (.int (i : Nat)) e2
      exact ⟨z.1, _, enumD_get e1, z.2⟩
theorem zipD_len (xs ys : List D) : (zipD xs ys).length = min xs.length ys.length := by rw [zipD, List.length_map, List.length_zip]
theorem zipD_get {xs ys : List D} {i : Nat} {d e : D} (h : xs[i]? = some d) (h' : ys[i]? = some e) : (zipD xs ys)[i]? = some (.tup [d, e]) := by
  rw [zipD, List.getElem?_map, List.getElem?_zip_eq_some (z := (d, e)) |>.mpr ⟨h, h'⟩]
  rfl
theorem it_zipL {a b : Addr} {ds es : List D} : ItOk K T [(.ref a, .lst ds), (.ref b, .lst es)] (zipD ds es) (Itz K a b) where
  go := fun M H i h lt => by
    rw [zipD_len] at lt
    cases h _ (List.mem_cons_self ..) with
    | lst h0 h1 h2 h3 => cases h _ (List.mem_cons_of_mem _ (List.mem_cons_self ..)) with
      | lst k0 k1 k2 k3 =>
        have l := h3.len
        have l' := k3.len
        exact ⟨_, _, _, _, SqL.of h1, SqL.of k1, List.getElem?_eq_getElem (by omega), List.getElem?_eq_getElem (by omega)⟩
  stop := fun M H h => by
    rw [zipD_len]
    cases h _ (List.mem_cons_self ..) with
    | lst h0 h1 h2 h3 => cases h _ (List.mem_cons_of_mem _ (List.mem_cons_self ..)) with
      | lst k0 k1 k2 k3 =>
        have l := h3.len
        have l' := k3.len
        exact ⟨_, _, SqL.of h1, SqL.of k1, by omega⟩
  yld := fun M H i x H' h lt y => by
    cases h _ (List.mem_cons_self ..) with
    | lst h0 h1 h2 h3 => cases h _ (List.mem_cons_of_mem _ (List.mem_cons_self ..)) with
      | lst k0 k1 k2 k3 =>
        obtain ⟨p, x, y, rfl, hp, rfl, y1, y2⟩ := y
        obtain ⟨d, e1, e2⟩ := h3.getV (y1 _ (SqL.of h1))
        obtain ⟨e, e3, e4⟩ := k3.getV (y2 _ (SqL.of k1))
        have z := pair_rep hp e2 e4
        exact ⟨z.1, _, zipD_get e1 e3, z.2⟩
theorem it_zipT {a b : Addr} {ds es : List D} : ItOk K T [(.ref a, .tup ds), (.ref b, .tup es)] (zipD ds es) (RZ.ItzT K a b) where
  go := fun M H i h lt => by
    rw [zipD_len] at lt
    cases h _ (List.mem_cons_self ..) with
    | tup h1 h2 h3 => cases h _ (List.mem_cons_of_mem _ (List.mem_cons_self ..)) with
      | tup k1 k2 k3 =>
        have l := h3.len
        have l' := k3.len
        exact ⟨_, _, _, _, h1, k1, List.getElem?_eq_getElem (by omega), List.getElem?_eq_getElem (by omega)⟩
  stop := fun M H h => by
    rw [zipD_len]
    cases h _ (List.mem_cons_self ..) with
    | tup h1 h2 h3 => cases h _ (List.mem_cons_of_mem _ (List.mem_cons_self ..)) with
      | tup k1 k2 k3 =>
        have l := h3.len
        have l' := k3.len
        exact ⟨_, _, h1, k1, by omega⟩
  yld := fun M H i x H' h lt y => by
    cases h _ (List.mem_cons_self ..) with
    | tup h1 h2 h3 => cases h _ (List.mem_cons_of_mem _ (List.mem_cons_self ..)) with
      | tup k1 k2 k3 =>
        obtain ⟨p, x, y, rfl, hp, rfl, y1, y2⟩ := y
        obtain ⟨d, e1, e2⟩ := h3.getV (y1 _ h1)
        obtain ⟨e, e3, e4⟩ := k3.getV (y2 _ k1)
        have z := pair_rep hp e2 e4
        exact ⟨z.1, _, zipD_get e1 e3, z.2⟩
end
section
variable {X : Cx} {P : Pm} {E : XK} {tg : Expr}
/-- a value that is walked by one of two rules -/
theorem ti_of {f : Sm RV} {k : D → Option (List D)} {t' : D → TI} {e : Expr} (hp : ∀ d ds, k d = some ds → PI X tg e (t' d))
    (hk : ∀ G env s σ H R r s1 ds, FS P G σ H env s → f env s = .ok r s1 → k r.d = some ds → ContI P E G σ env H R (.ok ds s1) → t' r.d σ H R)
    (hx : ∀ G env s σ H R c p s1, FS P G σ H env s → f env s = .exc c p s1 → ContI P E G σ env H R (.exc c p s1) → ∃ t, PI X tg e t ∧ t σ H R) :
    PI X tg e (tI P E fun env s => (f env s).bind fun r s => lift (k r.d) s) := PI.by fun σ H R ⟨G, env, s, fs, c⟩ => by
  have c : ContI P E G σ env H R ((f env s).bind fun r s => lift (k r.d) s) := c
  cases hf : f env s with
  | ok r s1 =>
    rw [hf] at c
    have c : ContI P E G σ env H R (lift (k r.d) s1) := c
    cases hk' : k r.d with
    | none => rw [hk'] at c; exact c.elim
    | some ds =>
      rw [hk'] at c
      exact ⟨_, hp _ _ hk', hk G env s σ H R r s1 ds fs hf hk' c⟩
  | exc c' p s1 =>
    rw [hf] at c
    exact hx G env s σ H R c' p s1 fs hf c
  | stuck =>
    rw [hf] at c
    exact c.elim
theorem i_seq {e : Expr} {f : Sm RV} (h : PE X e (tE P E f)) (hK : P.K = X.K := by rfl) : PI X tg e (tI P E (iP f)) := by
  refine ti_of (k := D.seq) (t' := fun d => match d with
    | .tup _ => iTup X.K (tE P E f)
    | .lst _ => iList X.K (tE P E f)
    | _ => iStr (tE P E f)) (fun d ds _ => ?_) (fun G env s σ H R r s1 ds fs hf hk c => ?_) fun G env s σ H R c p s1 fs hf c => ⟨_, pi_tup h, G, env, s, fs, by rw [hf]; exact c⟩
  · split
    · exact pi_tup h
    · exact pi_list h
    · exact pi_str h
  · have go : ∀ v H', FS P G σ H' env s1 → RE P G σ env H H' v r → Rep P.K G.T (Mx G σ env) H' v r.d := fun v H' f1 q => RepR.rep q fun p z => fs.fresh z
    cases hd : r.d with
    | tup xs =>
      rw [hd] at hk go
      cases hk
      refine ⟨G, env, s, fs, ?_⟩
      rw [hf]
      refine fun v H' f1 e1 q => ?_
      have z := go v H' f1 q
      cases z with
      | @tup a vs _ h1 h2 h3 => exact ⟨a, rfl, ⟨vs, by rw [← hK]; exact h1⟩, by rw [← hK]; exact c (Itt P.K a) [(.ref a, .tup _)] H' (f1.hold fun p hp => by rw [List.mem_singleton.mp hp]; exact .tup h1 h2 h3) e1 it_tup⟩
    | lst xs =>
      rw [hd] at hk go
      cases hk
      refine ⟨G, env, s, fs, ?_⟩
      rw [hf]
      refine fun v H' f1 e1 q => ?_
      have z := go v H' f1 q
      cases z with
      | @lst a vs _ h0 h1 h2 h3 => exact ⟨a, rfl, ⟨vs, SqL.of h1⟩, by rw [← hK]; exact c (Itl P.K a) [(.ref a, .lst _)] H' (f1.hold fun p hp => by rw [List.mem_singleton.mp hp]; exact .lst h0 h1 h2 h3) e1 it_list⟩
    | str x =>
      rw [hd] at hk go
      cases hk
      refine ⟨G, env, s, fs, ?_⟩
      rw [hf]
      refine fun v H' f1 e1 q => ?_
      have z := go v H' f1 q
      cases z with
      | str _ _ => exact ⟨x, rfl, c (Its x) [] H' (f1.hold fun p hp => by cases hp) e1 it_str⟩
    | _ => rw [hd] at hk; cases hk
theorem i_enum {e : Expr} {f : Sm RV} {p pos tpos : Pos} {elts : List Expr} {kk : Nat} (h : PE X e (tE P E f)) (hg : Gl X "enumerate") (hm : X.mg "enumerate" = none) (hs : starEach [e] X.env = (false, eval e X.env) :: starEach [] X.env := by rfl) (hK : P.K = X.K := by rfl) :
    PI X (.Tuple elts kk tpos) (.Call (.Name "enumerate" p) [e] [] pos) (tI P E (iEnum f)) := by
  refine ti_of (k := fun d => d.items.map enumD) (t' := fun d => match d with
    | .tup _ => iEnumT X.K (tCons (tE P E f) tNil)
    | _ => L2.iEnum X.K (tCons (tE P E f) tNil)) (fun d ds _ => ?_) (fun G env s σ H R r s1 ds fs hf hk c => ?_) fun G env s σ H R c p s1 fs hf c => ⟨_, pi_enumT hg hm (pa_cons h pa_nil hs) hs, G, env, s, fs, by rw [hf]; exact c⟩
  · split
    · exact pi_enumT hg hm (pa_cons h pa_nil hs) hs
    · exact pi_enum hg hm (pa_cons h pa_nil hs) hs
  · have go : ∀ v H', FS P G σ H' env s1 → RE P G σ env H H' v r → Rep P.K G.T (Mx G σ env) H' v r.d := fun v H' f1 q => RepR.rep q fun p z => fs.fresh z
    cases hd : r.d with
    | tup xs =>
      rw [hd] at hk go
      cases hk
      refine ⟨G, env, s, fs, ?_⟩
      rw [hf]
      refine fun v H' f1 e1 q => ?_
      have z := go v H' f1 q
      cases z with
      | @tup a vs _ h1 h2 h3 => exact ⟨a, vs, rfl, by rw [← hK]; exact h1, by rw [← hK]; exact c (ItEt P.K a) [(.ref a, .tup xs)] H' (f1.hold fun p hp => by rw [List.mem_singleton.mp hp]; exact .tup h1 h2 h3) e1 it_enumT⟩
    | lst xs =>
      rw [hd] at hk go
      cases hk
      refine ⟨G, env, s, fs, ?_⟩
      rw [hf]
      refine fun v H' f1 e1 q => ?_
      have z := go v H' f1 q
      cases z with
      | @lst a vs _ h0 h1 h2 h3 => exact ⟨a, vs, rfl, SqL.of h1, by rw [← hK]; exact c (Ite P.K a) [(.ref a, .lst xs)] H' (f1.hold fun p hp => by rw [List.mem_singleton.mp hp]; exact .lst h0 h1 h2 h3) e1 it_enumL⟩
    | _ => rw [hd] at hk; cases hk
theorem i_zip {e e2 : Expr} {f g : Sm RV} {p pos tpos : Pos} {elts : List Expr} {kk : Nat} (h : PE X e (tE P E f)) (h2 : PE X e2 (tE P E g)) (hg : Gl X "zip") (hm : X.mg "zip" = none)
    (hs : starEach [e, e2] X.env = (false, eval e X.env) :: starEach [e2] X.env := by rfl) (hs2 : starEach [e2] X.env = (false, eval e2 X.env) :: starEach [] X.env := by rfl) (hpl : (backTo pos (starEach [e2] X.env)).any (·.1) = false := by rfl) (hK : P.K = X.K := by rfl) :
    PI X (.Tuple elts kk tpos) (.Call (.Name "zip" p) [e, e2] [] pos) (tI P E (Ev.iZip f g)) := PI.by fun σ H R ⟨G, env, s, fs, c⟩ => by
  refine ⟨_, RZ.pi_zipA hg hm (pa_cons h (pa_cons h2 pa_nil hs2) hs) hs hpl, G, env, s, fs, ?_⟩
  unfold Ev.iZip at c
  cases hf : f env s with
  | stuck => rw [hf] at c; exact c.elim
  | exc c' p' s1 => rw [hf] at c; exact c
  | ok r s1 =>
    rw [hf] at c
    refine fun v H1 f1 e1 q1 => ⟨G, env, s1, f1, ?_⟩
    have c : ContI P E G σ env H R ((g env s1).bind fun q s => lift (zipR r.d q.d) s) := c
    cases hg' : g env s1 with
    | stuck => rw [hg'] at c; exact c.elim
    | exc c' p' s2 =>
      rw [hg'] at c
      exact fun cls d H' f' e' q => c cls d H' f' (e1.trans e') q
    | ok r2 s2 =>
      rw [hg'] at c
      refine fun w H2 f2 e2 q2 => ?_
      have c : ContI P E G σ env H R (lift (zipR r.d r2.d) s2) := c
      have rv : Rep P.K G.T (Mx G σ env) H2 v r.d := (RepR.rep q1 fun p z => fs.fresh z).ext f1.st f1.mtx e2
      have rw' : Rep P.K G.T (Mx G σ env) H2 w r2.d := RepR.rep q2 fun p z => f1.fresh z
      cases hd : r.d with
      | tup xs => cases hd2 : r2.d with
        | tup ys =>
          rw [hd] at rv c
          rw [hd2] at rw' c
          cases rv with
          | @tup a vs _ h1 h2 h3 => cases rw' with
            | @tup b ws _ k1 k2 k3 =>
              refine ⟨a, b, vs, ws, rfl, .inr ⟨by rw [← hK]; exact h1, by rw [← hK]; exact k1, ?_⟩⟩
              rw [← hK]
              refine c _ [(.ref a, .tup xs), (.ref b, .tup ys)] H2 (f2.hold fun p hp => ?_) (e1.trans e2) it_zipT
              rcases List.mem_cons.mp hp with z | z
              · rw [z]; exact .tup h1 h2 h3
              · rw [List.mem_singleton.mp z]; exact .tup k1 k2 k3
        | _ => rw [hd, hd2] at c; exact c.elim
      | lst xs => cases hd2 : r2.d with
        | lst ys =>
          rw [hd] at rv c
          rw [hd2] at rw' c
          cases rv with
          | @lst a vs _ h0 h1 h2 h3 => cases rw' with
            | @lst b ws _ k0 k1 k2 k3 =>
              refine ⟨a, b, vs, ws, rfl, .inl ⟨SqL.of h1, SqL.of k1, ?_⟩⟩
              rw [← hK]
              refine c _ [(.ref a, .lst xs), (.ref b, .lst ys)] H2 (f2.hold fun p hp => ?_) (e1.trans e2) it_zipL
              rcases List.mem_cons.mp hp with z | z
              · rw [z]; exact .lst h0 h1 h2 h3
              · rw [List.mem_singleton.mp z]; exact .lst k0 k1 k2 k3
        | _ => rw [hd, hd2] at c; exact c.elim
      | _ => rw [hd] at c; exact c.elim
end
end Ev

/-! Ev13: ranges, for, while, comprehensions: own work. -/
namespace Ev
open PySem PySem.Spec PyProof.Rows L2
section
variable {X : Cx} {P : Pm} {E : XK} {tg : Expr} {p pos : Pos}
/-- an operand, then what is told of it -/
theorem ti_op {f : Sm D} {k : D → DS → Res (List D)} {R : It → Hp → Prop} {G : Gh} {env : Lo} {s : DS} {σ : L2.St} {H : Hp} (fs : FS P G σ H env s) (c : ContI P E G σ env H R ((f env s).bind k)) :
    tO P E f σ H fun v H1 => ∃ s1 d, FS P G σ H1 env s1 ∧ Ext G.T H H1 ∧ RepP P.K G.T (Mx G σ env) (Own σ env) H1 v d ∧ ContI P E G σ env H R (k d s1) := by
  refine ⟨G, env, s, fs, ?_⟩
  cases hf : f env s with
  | ok d s1 =>
    rw [hf] at c
    exact fun v H1 f1 e1 q => ⟨s1, d, f1, e1, q, c⟩
  | exc c' p s1 => rw [hf] at c; exact c
  | stuck => rw [hf] at c; exact c.elim
theorem nohold {P : Pm} {G : Gh} {σ : L2.St} {H : Hp} {env : Lo} {s : DS} (f : FS P G σ H env s) : FS P (G.hold []) σ H env s := f.hold fun p hp => by cases hp
theorem ext_trans2 {P : Pm} {E : XK} {G : Gh} {σ : L2.St} {env : Lo} {H H1 : Hp} {R : It → Hp → Prop} {r : Res (List D)} (e : Ext G.T H H1) (c : ContI P E G σ env H R r) : ContI P E G σ env H1 R r := by
  cases r with
  | ok ds s => exact fun J hs H' f e' i => c J hs H' f (e.trans e') i
  | exc c' p s => exact fun cls d H' f e' q => c cls d H' f (e.trans e') q
  | stuck => exact c
theorem i_range1 {a : Expr} {f : Sm D} (h : PE X a (tO P E f)) (hg : Gl X "range") (hm : X.mg "range" = none) (hs : starEach [a] X.env = (false, eval a X.env) :: starEach [] X.env := by rfl) : PI X tg (.Call (.Name "range" p) [a] [] pos) (tI P E (iRange1 f)) :=
  PI.by fun σ H R ⟨G, env, s, fs, c⟩ => by
    refine ⟨_, pi_range1 hg hm (pa_cons h pa_nil hs) hs, ?_⟩
    refine (ti_op fs c).mono fun v H1 ⟨s1, d, f1, e1, q, c1⟩ => ?_
    cases d with
    | int j =>
      obtain rfl := q.int
      by_cases hj : j.toNat ≤ sizeLine ∧ -(2 ^ 62) ≤ j
      · have c1 : ContI P E G σ env H R (if j.toNat ≤ sizeLine ∧ -(2 ^ 62) ≤ j then .ok (rangeD 0 j.toNat) s1 else .stuck) := c1
        rw [if_pos hj] at c1
        have ln : sizeLine < 2 ^ 61 := by decide
        exact ⟨j, rfl, hj.2, by omega, c1 _ [] H1 (nohold f1) e1 it_rng⟩
      · have c1 : ContI P E G σ env H R (if j.toNat ≤ sizeLine ∧ -(2 ^ 62) ≤ j then .ok (rangeD 0 j.toNat) s1 else .stuck) := c1
        rw [if_neg hj] at c1
        exact c1.elim
    | _ => exact c1.elim
theorem i_range2 {a b : Expr} {f g : Sm D} (h : PE X a (tO P E f)) (h2 : PE X b (tO P E g)) (hg : Gl X "range") (hm : X.mg "range" = none) (hs : starEach [a, b] X.env = (false, eval a X.env) :: starEach [b] X.env := by rfl) (hs2 : starEach [b] X.env = (false, eval b X.env) :: starEach [] X.env := by rfl) :
    PI X tg (.Call (.Name "range" p) [a, b] [] pos) (tI P E (iRange2 f g)) :=
  PI.by fun σ H R ⟨G, env, s, fs, c⟩ => by
    refine ⟨_, pi_range2 hg hm (pa_cons h (pa_cons h2 pa_nil hs2) hs) (hs.trans (by rw [hs2]; rfl)) hs2, ?_⟩
    refine (ti_op fs c).mono fun v H1 ⟨s1, d, f1, e1, q, c1⟩ => ?_
    refine (ti_op f1 (ext_trans2 e1 c1)).mono fun w H2 ⟨s2, d2, f2, e2, q2, c2⟩ => ?_
    cases d with
    | int i => cases d2 with
      | int j =>
        obtain rfl := q.int
        obtain rfl := q2.int
        have c2 : ContI P E G σ env H1 R (if (j - i).toNat ≤ sizeLine ∧ -(2 ^ 62) ≤ i ∧ i < 2 ^ 62 ∧ -(2 ^ 62) ≤ j ∧ j < 2 ^ 62 then .ok (rangeD i (j - i).toNat) s2 else .stuck) := c2
        by_cases hj : (j - i).toNat ≤ sizeLine ∧ -(2 ^ 62) ≤ i ∧ i < 2 ^ 62 ∧ -(2 ^ 62) ≤ j ∧ j < 2 ^ 62
        · rw [if_pos hj] at c2
          exact ⟨i, j, rfl, hj.2, c2 _ [] H2 (nohold f2) e2 it_rng⟩
        · rw [if_neg hj] at c2
          exact c2.elim
      | _ => exact c2.elim
    | _ => exact c2.elim
theorem i_rangeD {a b c0 : Expr} {f g : Sm D} (h : PE X a (tO P E f)) (h2 : PE X b (tO P E g)) (hg : Gl X "range") (hm : X.mg "range" = none) (h3 : PE X c0 fun _ H Q => Q (.int (-1)) H)
    (hs : starEach [a, b, c0] X.env = (false, eval a X.env) :: starEach [b, c0] X.env := by rfl) (hs2 : starEach [b, c0] X.env = (false, eval b X.env) :: starEach [c0] X.env := by rfl) (hs3 : starEach [c0] X.env = (false, eval c0 X.env) :: starEach [] X.env := by rfl) (hpl : (backTo pos (starEach [b, c0] X.env)).any (·.1) = false := by rfl) :
    PI X tg (.Call (.Name "range" p) [a, b, c0] [] pos) (tI P E (iRangeD f g)) :=
  PI.by fun σ H R ⟨G, env, s, fs, c⟩ => by
    refine ⟨_, pi_range3 hg hm (pa_cons h (pa_cons h2 (pa_cons h3 pa_nil hs3) hs2) hs) hs hpl, ?_⟩
    refine (ti_op fs c).mono fun v H1 ⟨s1, d, f1, e1, q, c1⟩ => ?_
    refine (ti_op f1 (ext_trans2 e1 c1)).mono fun w H2 ⟨s2, d2, f2, e2, q2, c2⟩ => ?_
    cases d with
    | int i => cases d2 with
      | int j =>
        obtain rfl := q.int
        obtain rfl := q2.int
        have c2 : ContI P E G σ env H1 R (if (i - j).toNat ≤ sizeLine ∧ -(2 ^ 62) ≤ i ∧ i < 2 ^ 62 ∧ -(2 ^ 62) ≤ j ∧ j < 2 ^ 62 then .ok ((List.range (i - j).toNat).map fun (k : Nat) => .int (i - (k : Int))) s2 else .stuck) := c2
        by_cases hj : (i - j).toNat ≤ sizeLine ∧ -(2 ^ 62) ≤ i ∧ i < 2 ^ 62 ∧ -(2 ^ 62) ≤ j ∧ j < 2 ^ 62
        · rw [if_pos hj] at c2
          exact ⟨i, j, -1, _, rfl, RgC.neg hj.2.1 hj.2.2.1 hj.2.2.2.1 hj.2.2.2.2, c2 _ [] H2 (nohold f2) e2 it_rngD⟩
        · rw [if_neg hj] at c2
          exact c2.elim
      | _ => exact c2.elim
    | _ => exact c2.elim
/-! ### for -/
theorem s_for {iter : Expr} {body : List Stmt} {it : Sm (List D)} {t : Tgt} {b : Stm} (hp : PassesOwn (model X.prog X.w) X.A X.env X.xe) (hc : X.calm = true) (hi : PI X tg iter (tI P E it)) (hg : PG X tg (gT P.K t)) (hb : PSs X body (tS P E b)) (hs : ∀ x, foldedSetIterable iter X.env x = pure x := by intro _; rfl) :
    PS X (.For tg iter body [] pos) (tS P E (sFor it t b)) :=
  PS.mono (ps_for hp hc hi hg hb hs) fun D σ H ⟨G, env, s, fs, c⟩ => by
    refine ⟨G, env, s, fs, ?_⟩
    have c : ContS P E G ((it env s).out fun xs s => forL t b xs env s) D := c
    cases hf : it env s with
    | stuck => rw [hf] at c; exact c.elim
    | exc c' p s1 =>
      rw [hf] at c
      exact fun cls d H' f e q => c cls d H' f.st f.ext q
    | ok ds s1 =>
      rw [hf] at c
      refine fun J hs' H' f1 e1 ok => for_it ok.walk (fun i σ H => ∃ env s, FS P (G.hold hs') σ H env s ∧ ContS P E G (forL t b (ds.drop i) env s) D) ⟨env, s1, f1, c⟩ (fun i σ H _ ⟨env, s, f, _⟩ => ⟨_, f.holds⟩) (fun i x σ H H' lt ⟨env, s, f, c⟩ y => ?_) fun σ H ⟨env, s, f, c⟩ => ?_
      · obtain ⟨sm, d, e2, r⟩ := y _ f.holds
        have ed : ds.drop i = d :: ds.drop (i + 1) := by
          rw [List.drop_eq_getElem_cons lt]
          rw [List.getElem?_eq_getElem lt] at e2
          rw [Option.some.inj e2]
        rw [ed] at c
        unfold forL at c
        cases hpt : t.put d env with
        | none => rw [hpt] at c; exact c.elim
        | some env' =>
          rw [hpt] at c
          refine t_put t (G := G.hold hs') (f.same sm) r hpt fun σ' f' _ => ⟨G.hold hs', env', s, f', ?_⟩
          have c : ContS P E G (match b env' s with
            | .nx env s => forL t b (ds.drop (i + 1)) env s
            | .ct env s => forL t b (ds.drop (i + 1)) env s
            | .bk env s => .nx env s
            | o => o) D := c
          cases hbd : b env' s with
          | nx e2 s2 => rw [hbd] at c; exact fun σ H f => ⟨e2, s2, f, c⟩
          | ct e2 s2 => rw [hbd] at c; exact fun σ H f => ⟨e2, s2, f, c⟩
          | bk e2 s2 => rw [hbd] at c; exact fun σ H f => c σ H f.drop
          | rt r s2 => rw [hbd] at c; exact c
          | exc c' p s2 => rw [hbd] at c; exact c
          | stuck => rw [hbd] at c; exact c
      · rw [List.drop_length] at c
        exact c σ H f.drop
/-! ### while -/
theorem s_while {cnd : Expr} {body : List Stmt} {t : Sm Bool} {b : Stm} (W : Nat) (hp : PassesOwn (model X.prog X.w) X.A X.env X.xe) (hc : XT X P E cnd t) (hb : PSs X body (tS P E b)) : PS X (.While cnd body [] pos) (tS P E (sWhile W t b)) :=
  PS.mono (ps_while hp hc.t hb) fun D σ H ⟨G, env, s, fs, c⟩ => by
    refine ⟨fun m σ H => ∃ env s, FS P G σ H env s ∧ ContS P E G (whileN t b m env s) D, ⟨W, env, s, fs, c⟩, fun m σ H ⟨env, s, f, c⟩ => ?_⟩
    cases m with
    | zero => exact c.elim
    | succ m =>
      unfold whileN at c
      refine (out_at (R1 := RB P) f c).mono fun v H1 ⟨s1, k, f1, e1, r1, c1⟩ => ?_
      obtain rfl : v = k := r1
      cases v with
      | false => exact c1 σ H1 f1
      | true =>
        rw [if_pos rfl]
        refine ⟨fun σ H => ∃ env s, FS P G σ H env s ∧ ContS P E G (whileN t b m env s) D, fun σ' H' z => ⟨m, Nat.lt_succ_self m, z⟩, G, env, s1, f1, ?_⟩
        have c1 : ContS P E G (match b env s1 with
            | .nx env s => whileN t b m env s
            | .ct env s => whileN t b m env s
            | .bk env s => .nx env s
            | o => o) D := c1
        cases hbd : b env s1 with
        | nx e2 s2 => rw [hbd] at c1; exact fun σ H f => ⟨e2, s2, f, c1⟩
        | ct e2 s2 => rw [hbd] at c1; exact fun σ H f => ⟨e2, s2, f, c1⟩
        | bk e2 s2 => rw [hbd] at c1; exact c1
        | rt r s2 => rw [hbd] at c1; exact c1
        | exc c' p s2 => rw [hbd] at c1; exact c1
        | stuck => rw [hbd] at c1; exact c1
end
end Ev

/-! Ev14: comprehensions: own work. -/
namespace Ev
open PySem PySem.Spec PyProof.Rows L2
section
variable {P : Pm} {G : Gh} {σ : L2.St} {H : Hp} {env : Lo} {s : DS}
theorem Own.ne {i : Nat} {v : Option V} {sl : Slot} (hn : ∀ xs, sl ≠ .mu xs) {a : Addr} (h : Own (σ.set i v) (env.set i sl) a) : Own σ env a := by
  obtain ⟨j, xs, z1, z2⟩ := h
  rcases set_get z1 with ⟨rfl, q⟩ | ⟨n, q⟩
  · exact absurd q.symm (hn xs)
  · rcases set_get z2 with ⟨q2, _⟩ | ⟨_, q2⟩
    · exact absurd q2 n
    · exact ⟨j, xs, q, q2⟩
/-- a slot forgotten -/
theorem FS.unset {i : Nat} (f : FS P G σ H env s) : FS P G (σ.set i none) H (env.set i .un) s := by
  have sub : ∀ a, Mx G (σ.set i none) (env.set i .un) a → Mx G σ env a := by
    rintro a (z | z)
    · exact .inl z
    · exact .inr (z.ne fun xs q => by cases q)
  have old : ∀ {j : Nat} {sl : Slot}, (env.set i .un)[j]? = some sl → sl ≠ .un → j ≠ i ∧ env[j]? = some sl := fun {j sl} h n => by
    rcases set_get h with ⟨_, q⟩ | z
    · exact absurd q n
    · exact z
  refine ⟨f.st, f.mt, f.dom, fun a z => ⟨(f.md a z).1, (f.md a z).2.1, fun w => (f.md a z).2.2 (w.ne fun xs q => by cases q)⟩, f.ext, by rw [List.length_set, List.length_set]; exact f.len, fun j d h => ?_, fun j xs h => ?_, fun j k xs ys a h1 h2 h3 h4 => ?_, fun p h => (f.held p h).less sub, fun j k h => ?_, (fun p h => ⟨(f.hel p h).1, fun z => (f.hel p h).2 (sub _ z)⟩), f.tb, f.hex⟩
  · obtain ⟨n, h⟩ := old h (by simp)
    obtain ⟨v, h1, h2⟩ := f.im j d h
    exact ⟨v, by rw [List.getElem?_set_ne (Ne.symm n)]; exact h1, h2.less sub⟩
  · obtain ⟨n, h⟩ := old h (by simp)
    obtain ⟨a, vs, h1, h2, h3, h4, h5⟩ := f.mu j xs h
    exact ⟨a, vs, by rw [List.getElem?_set_ne (Ne.symm n)]; exact h1, h2, h3, h4, h5.less sub⟩
  · obtain ⟨n1, h1⟩ := old h1 (by simp)
    obtain ⟨n2, h2⟩ := old h2 (by simp)
    rw [List.getElem?_set_ne (Ne.symm n1)] at h3
    rw [List.getElem?_set_ne (Ne.symm n2)] at h4
    exact f.sep j k xs ys a h1 h2 h3 h4
  · obtain ⟨n, h⟩ := old h (by simp)
    obtain ⟨a, φ, h1, h2, h3⟩ := f.fn j k h
    exact ⟨a, φ, by rw [List.getElem?_set_ne (Ne.symm n)]; exact h1, h2, h3⟩
theorem FS.wipe (f : FS P G σ H env s) : ∀ vs : List Nat, FS P G (L2.wipe σ vs) H (wipeE env vs) s
  | [] => f
  | v :: vs => (FS.wipe f vs).unset
theorem wipeE_out {i : Nat} : ∀ {vs : List Nat}, i ∉ vs → (wipeE env vs)[i]? = env[i]?
  | [], _ => rfl
  | v :: vs, h => by
    unfold wipeE
    rw [List.getElem?_set_ne fun z => h (by rw [z]; exact List.mem_cons_self ..)]
    exact wipeE_out fun z => h (List.mem_cons_of_mem _ z)
/-- what is one's own stays so -/
theorem Own.wiped {vs : List Nat} (ok : wipeOk env vs = true) {a : Addr} (h : Own σ env a) : Own (L2.wipe σ vs) (wipeE env vs) a := by
  obtain ⟨i, xs, h1, h2⟩ := h
  have n : i ∉ vs := fun z => by
    unfold wipeOk at ok
    rw [List.all_eq_true] at ok
    have q := ok i z
    rw [h1] at q
    cases q
  exact ⟨i, xs, by rw [wipeE_out n]; exact h1, by rw [L2.wipe_out n]; exact h2⟩
theorem wipe_set {i : Nat} {v : Option V} : ∀ {vs : List Nat}, i ∈ vs → L2.wipe (σ.set i v) vs = L2.wipe σ vs
  | [], h => by cases h
  | w :: vs, h => by
    unfold L2.wipe
    by_cases e : i ∈ vs
    · rw [wipe_set e]
    · obtain rfl : i = w := (List.mem_cons.mp h).resolve_right e
      apply List.ext_getElem?
      intro j
      by_cases q : i = j
      · subst q
        by_cases hl : i < σ.length
        · rw [List.getElem?_set_self (by rw [L2.wipe_length, List.length_set]; exact hl), List.getElem?_set_self (by rw [L2.wipe_length]; exact hl)]
        · rw [List.getElem?_eq_none (by rw [List.length_set, L2.wipe_length, List.length_set]; omega), List.getElem?_eq_none (by rw [List.length_set, L2.wipe_length]; omega)]
      · rw [List.getElem?_set_ne q, List.getElem?_set_ne q]
        have go : ∀ us : List Nat, (L2.wipe (σ.set i v) us)[j]? = (L2.wipe σ us)[j]? := fun us => by
          by_cases m : j ∈ us
          · induction us with
            | nil => cases m
            | cons u us ih =>
              unfold L2.wipe
              by_cases q2 : u = j
              · subst q2
                by_cases hl : u < σ.length
                · rw [List.getElem?_set_self (by rw [L2.wipe_length, List.length_set]; exact hl), List.getElem?_set_self (by rw [L2.wipe_length]; exact hl)]
                · rw [List.getElem?_eq_none (by rw [List.length_set, L2.wipe_length, List.length_set]; omega), List.getElem?_eq_none (by rw [List.length_set, L2.wipe_length]; omega)]
              · rw [List.getElem?_set_ne q2, List.getElem?_set_ne q2]
                exact ih ((List.mem_cons.mp m).resolve_left fun z => q2 z.symm)
          · rw [L2.wipe_out m, L2.wipe_out m, List.getElem?_set_ne q]
        exact go vs
theorem wipe_wipe {i : Nat} : ∀ {vs us : List Nat}, (∀ i, i ∈ us → i ∈ vs) → L2.wipe (L2.wipe σ us) vs = L2.wipe σ vs
  | vs, [], _ => rfl
  | vs, u :: us, h => by
    rw [show L2.wipe σ (u :: us) = (L2.wipe σ us).set u none from rfl, wipe_set (h u (List.mem_cons_self ..))]
    exact wipe_wipe (i := i) fun j z => h j (List.mem_cons_of_mem _ z)
mutual
theorem gT_wipe {vs : List Nat} : ∀ (t : Tgt) {v : V} {σ : L2.St} {H : Hp} {Q : L2.St → Hp → Prop}, t.inn vs = true → gT P.K t v σ H Q → gT P.K t v σ H fun σ' H' => L2.wipe σ' vs = L2.wipe σ vs ∧ Q σ' H'
  | .nm i, v, σ, H, Q, e, h => by
    unfold gT at h ⊢
    unfold Tgt.inn at e
    exact ⟨wipe_set (by simpa using e), h⟩
  | .tp ts, v, σ, H, Q, e, h => by
    unfold gT at h ⊢
    unfold Tgt.inn at e
    rcases h with ⟨a, xs, h1, h2, h3, h4⟩ | ⟨a, xs, h1, h2, h3, h4⟩
    · exact .inl ⟨a, xs, h1, h2, h3, gTs_wipe ts e h4⟩
    · exact .inr ⟨a, xs, h1, h2, h3, gTs_wipe ts e h4⟩
theorem gTs_wipe {vs : List Nat} : ∀ (ts : List Tgt) {ws : List V} {σ : L2.St} {H : Hp} {Q : L2.St → Hp → Prop}, Tgt.inns vs ts = true → gTs P.K ts ws σ H Q → gTs P.K ts ws σ H fun σ' H' => L2.wipe σ' vs = L2.wipe σ vs ∧ Q σ' H'
  | [], ws, σ, H, Q, e, h => by
    unfold gTs at h ⊢
    exact ⟨h.1, rfl, h.2⟩
  | t :: ts, ws, σ, H, Q, e, h => by
    unfold gTs at h ⊢
    unfold Tgt.inns at e
    have e : t.inn vs = true ∧ Tgt.inns vs ts = true := by simpa using e
    obtain ⟨v, r, h1, h2⟩ := h
    exact ⟨v, r, h1, gT_mono t (gT_wipe t e.1 h2) fun σ' H' ⟨z1, z2⟩ => gTs_mono ts (gTs_wipe ts e.2 z2) fun σ'' H'' ⟨w1, w2⟩ => ⟨w1.trans z1, w2⟩⟩
theorem gT_mono : ∀ (t : Tgt) {v : V} {σ : L2.St} {H : Hp} {Q Q' : L2.St → Hp → Prop}, gT P.K t v σ H Q → (∀ σ' H', Q σ' H' → Q' σ' H') → gT P.K t v σ H Q'
  | .nm i, v, σ, H, Q, Q', h, m => by
    unfold gT at h ⊢
    exact m _ _ h
  | .tp ts, v, σ, H, Q, Q', h, m => by
    unfold gT at h ⊢
    rcases h with ⟨a, xs, h1, h2, h3, h4⟩ | ⟨a, xs, h1, h2, h3, h4⟩
    · exact .inl ⟨a, xs, h1, h2, h3, gTs_mono ts h4 m⟩
    · exact .inr ⟨a, xs, h1, h2, h3, gTs_mono ts h4 m⟩
theorem gTs_mono : ∀ (ts : List Tgt) {ws : List V} {σ : L2.St} {H : Hp} {Q Q' : L2.St → Hp → Prop}, gTs P.K ts ws σ H Q → (∀ σ' H', Q σ' H' → Q' σ' H') → gTs P.K ts ws σ H Q'
  | [], ws, σ, H, Q, Q', h, m => by
    unfold gTs at h ⊢
    exact ⟨h.1, m _ _ h.2⟩
  | t :: ts, ws, σ, H, Q, Q', h, m => by
    unfold gTs at h ⊢
    obtain ⟨v, r, h1, h2⟩ := h
    exact ⟨v, r, h1, gT_mono t h2 fun σ' H' z => gTs_mono ts z m⟩
end
/-- the target's slots alone change -/
theorem put_out {vs : List Nat} {j : Nat} (hj : j ∉ vs) : (∀ (t : Tgt) {d : D} {env env' : Lo}, t.inn vs = true → t.put d env = some env' → env'[j]? = env[j]?) ∧ ∀ (ts : List Tgt) {ds : List D} {env env' : Lo}, Tgt.inns vs ts = true → Tgt.puts ts ds env = some env' → env'[j]? = env[j]? := by
  refine ⟨fun t => ?_, fun ts => ?_⟩
  · exact Tgt.rec (motive_1 := fun t => ∀ {d : D} {env env' : Lo}, t.inn vs = true → t.put d env = some env' → env'[j]? = env[j]?) (motive_2 := fun ts => ∀ {ds : List D} {env env' : Lo}, Tgt.inns vs ts = true → Tgt.puts ts ds env = some env' → env'[j]? = env[j]?)
      (fun i d env env' e h => by
        unfold Tgt.put at h
        unfold Tgt.inn at e
        cases h
        exact List.getElem?_set_ne fun z => hj (by rw [← z]; simpa using e))
      (fun ts ih d env env' e h => by
        unfold Tgt.inn at e
        cases d with
        | tup xs => exact ih e (by unfold Tgt.put at h; exact h)
        | lst xs => exact ih e (by unfold Tgt.put at h; exact h)
        | _ => unfold Tgt.put at h; cases h)
      (fun {ds env env'} e h => by
        cases ds with
        | nil => unfold Tgt.puts at h; cases h; rfl
        | cons _ _ => unfold Tgt.puts at h; cases h)
      (fun t ts ih1 ih2 ds env env' e h => by
        unfold Tgt.inns at e
        have e : t.inn vs = true ∧ Tgt.inns vs ts = true := by simpa using e
        cases ds with
        | nil => unfold Tgt.puts at h; cases h
        | cons d ds =>
          unfold Tgt.puts at h
          cases hp : t.put d env with
          | none => rw [hp] at h; cases h
          | some env1 =>
            rw [hp] at h
            exact (ih2 e.2 h).trans (ih1 e.1 hp)) t
  · induction ts with
    | nil =>
      intro ds env env' e h
      cases ds with
      | nil => unfold Tgt.puts at h; cases h; rfl
      | cons _ _ => unfold Tgt.puts at h; cases h
    | cons t ts ih2 =>
      intro ds env env' e h
      unfold Tgt.inns at e
      have e : t.inn vs = true ∧ Tgt.inns vs ts = true := by simpa using e
      cases ds with
      | nil => unfold Tgt.puts at h; cases h
      | cons d ds =>
        unfold Tgt.puts at h
        cases hp : t.put d env with
        | none => rw [hp] at h; cases h
        | some env1 =>
          rw [hp] at h
          refine (ih2 e.2 h).trans ?_
          exact Tgt.rec (motive_1 := fun t => ∀ {d : D} {env env' : Lo}, t.inn vs = true → t.put d env = some env' → env'[j]? = env[j]?) (motive_2 := fun ts => ∀ {ds : List D} {env env' : Lo}, Tgt.inns vs ts = true → Tgt.puts ts ds env = some env' → env'[j]? = env[j]?)
            (fun i d env env' e h => by
              unfold Tgt.put at h
              unfold Tgt.inn at e
              cases h
              exact List.getElem?_set_ne fun z => hj (by rw [← z]; simpa using e))
            (fun ts ih d env env' e h => by
              unfold Tgt.inn at e
              cases d with
              | tup xs => exact ih e (by unfold Tgt.put at h; exact h)
              | lst xs => exact ih e (by unfold Tgt.put at h; exact h)
              | _ => unfold Tgt.put at h; cases h)
            (fun {ds env env'} e h => by
              cases ds with
              | nil => unfold Tgt.puts at h; cases h; rfl
              | cons _ _ => unfold Tgt.puts at h; cases h)
            (fun t ts ih1 ih2 ds env env' e h => by
              unfold Tgt.inns at e
              have e : t.inn vs = true ∧ Tgt.inns vs ts = true := by simpa using e
              cases ds with
              | nil => unfold Tgt.puts at h; cases h
              | cons d ds =>
                unfold Tgt.puts at h
                cases hp : t.put d env with
                | none => rw [hp] at h; cases h
                | some env1 =>
                  rw [hp] at h
                  exact (ih2 e.2 h).trans (ih1 e.1 hp)) t e.1 hp
end
end Ev

/-! Ev15: comprehensions: own work. -/
namespace Ev
open PySem PySem.Spec PyProof.Rows L2
/-- a list that is being made at p -/
def Gh.neu (G : Gh) (p : Addr) : Gh := { G with Mc := fun a => G.Mc a ∨ a = p, Md := fun a => G.Md a ∨ a = p }
section
variable {P : Pm} {G : Gh} {σ : L2.St} {H : Hp} {env : Lo} {s : DS}
theorem Mx.neu {p : Addr} : ∀ a, Mx (G.neu p) σ env a → Mx G σ env a ∨ a = p := by
  rintro a ((z | z) | z)
  · exact .inl (.inl z)
  · exact .inr z
  · exact .inl (.inr z)
theorem FS.neu {p : Addr} (f : FS P G σ H env s) (n : H p = none) : FS P (G.neu p) σ (upd H p (.lst [])) env s := by
  have sm : Same H (upd H p (.lst [])) := Same.new n
  have f1 := f.same sm
  have nT : ¬ G.T.has p := fun z => f.st.some_of z n
  have nO : ¬ Own σ env p := fun ⟨i, xs, h1, h2⟩ => by
    obtain ⟨a, vs, q1, _, q3, _⟩ := f.mu i xs h1
    rw [h2] at q1; cases q1
    rw [n] at q3; cases q3
  have rp : ∀ {v : V} {d : D}, Rep P.K G.T (Mx G σ env) H v d → Rep P.K G.T (Mx (G.neu p) σ env) (upd H p (.lst [])) v d := fun {v d} h =>
    ((h.more n).ext f.st (fun a z => .inl (f.mtx a z)) (.of sm)).less Mx.neu
  have rps : ∀ {v : List V} {d : List D}, Reps P.K G.T (Mx G σ env) H v d → Reps P.K G.T (Mx (G.neu p) σ env) (upd H p (.lst [])) v d := fun {v d} h =>
    ((h.more n).ext f.st (fun a z => .inl (f.mtx a z)) (.of sm)).less Mx.neu
  refine ⟨f1.st, fun a z => .inl (f.mt a z), fun a z => ?_, fun a z => ?_, f1.ext, f.len, fun i d h => ?_, fun i xs h => ?_, f.sep, fun q h => rp (f.held q h), fun i k h => ?_, fun q h => ⟨sm _ _ (f.hel q h).1, fun z => (Mx.neu _ z).elim (f.hel q h).2 fun w => by have y := (f.hel q h).1; rw [w, n] at y; cases y⟩, f.tb, fun q h => sm _ _ (f.hex q h)⟩
  · rcases z with z | z
    · rcases f.dom a z with w | w
      · exact .inl w
      · exact .inr (.inl w)
    · exact .inr (.inr z)
  · rcases z with z | z
    · exact f1.md a z
    · subst z
      exact ⟨nT, by rw [upd_same]; simp, nO⟩
  · obtain ⟨v, h1, h2⟩ := f.im i d h
    exact ⟨v, h1, rp h2⟩
  · obtain ⟨a, vs, h1, h2, h3, h4, h5⟩ := f.mu i xs h
    exact ⟨a, vs, h1, h2, sm _ _ h3, h4, rps h5⟩
  · obtain ⟨a, φ, h1, h2, h3⟩ := f.fn i k h
    exact ⟨a, φ, h1, h2, fun p hp => sm _ _ (h3 p hp)⟩
/-- the list that is being made grows -/
theorem keep_md {p : Addr} {M : Addr → Prop} {acc acc' : List V} (hp : H p = some (.lst acc)) (mp : M p) {T : Tk} {ws : List V} {ds : List D} (q : Reps P.K T M H ws ds) : Reps P.K T M (upd H p (.lst acc')) ws ds :=
  q.keep (fun c u z nl => by rw [upd_ne (fun w => by rw [w, hp] at z; exact nl _ (Option.some.inj z).symm)]; exact z) fun c us z n => by rw [upd_ne (fun w => n (by rw [w]; exact mp))]; exact z
theorem FS.grow {p : Addr} {acc acc' : List V} (f : FS P G σ H env s) (m : G.Md p) (mc : G.Mc p) (hc : G.Hc p = none) (hp : H p = some (.lst acc)) : FS P G σ (upd H p (.lst acc')) env s := by
  obtain ⟨nT, _, nO⟩ := f.md p m
  have rps : ∀ {v : List V} {d : List D}, Reps P.K G.T (Mx G σ env) H v d → Reps P.K G.T (Mx G σ env) (upd H p (.lst acc')) v d := fun {v d} h => keep_md hp (.inl mc) h
  have rp : ∀ {v : V} {d : D}, Rep P.K G.T (Mx G σ env) H v d → Rep P.K G.T (Mx G σ env) (upd H p (.lst acc')) v d := fun {v d} h => by
    cases rps (.cons h .nil) with
    | cons z _ => exact z
  have st : ∀ {c : Addr}, G.T.has c → upd H p (.lst acc') c = H c := fun {c} z => upd_ne fun w => nT (by rw [← w]; exact z)
  refine ⟨f.st.move fun b u h z => by
    by_cases q : b = p
    · subst q
      rcases z with z | ⟨φ, z⟩
      · exact absurd z nT
      · rw [hp, z] at h; cases h
    · rw [upd_ne q]; exact h, f.mt, f.dom, fun a z => ⟨(f.md a z).1, ?_, (f.md a z).2.2⟩, fun c o z n => ?_, f.len, fun i d h => ?_, fun i xs h => ?_, f.sep, fun q h => rp (f.held q h), fun i k h => ?_, fun q h => ⟨by rw [upd_ne fun w => (f.hel q h).2 (by rw [w]; exact .inl mc)]; exact (f.hel q h).1, (f.hel q h).2⟩, f.tb, fun q h => by rw [upd_ne (fun w => by have z := f.hex q h; rw [w, hp] at z; cases z)]; exact f.hex q h⟩
  · by_cases e : a = p
    · rw [e, upd_same]; simp
    · rw [upd_ne e]; exact (f.md a z).2.1
  · rw [upd_ne (fun w => by rw [w, hc] at z; cases z)]
    exact f.ext c o z n
  · obtain ⟨v, h1, h2⟩ := f.im i d h
    exact ⟨v, h1, rp h2⟩
  · obtain ⟨a, vs, h1, h2, h3, h4, h5⟩ := f.mu i xs h
    refine ⟨a, vs, h1, h2, ?_, h4, rps h5⟩
    rw [upd_ne (fun w => nO (by rw [← w]; exact ⟨i, xs, h, h1⟩))]
    exact h3
  · obtain ⟨a, φ, h1, h2, h3⟩ := f.fn i k h
    exact ⟨a, φ, h1, h2, fun q hq => by rw [upd_ne (fun w => by have z := h3 q hq; rw [w, hp] at z; cases z)]; exact h3 q hq⟩
end
/-- no refusal within -/
abbrev E0 : XK := fun _ _ _ => False
section
variable {X : Cx} {P : Pm} {E : XK}
/-- tests of a block's expressions -/
theorem tG_in {α β : Type} {R : Rl α β} {f : Sm α} {G : Gh} {σ : L2.St} {H : Hp} {env : Lo} {s : DS} {Q : β → Hp → Prop} (fs : FS P G σ H env s) {r : α} {s1 : DS} (hf : f env s = .ok r s1) (h : ∀ v H', FS P G σ H' env s1 → Ext G.T H H' → R G σ env H H' v r → Q v H') : tG P E0 R f σ H Q :=
  ⟨G, env, s, fs, by rw [hf]; exact h⟩
theorem lc_at {it : Sm (List D)} {t : Tgt} {c : Sm Bool} {f : Sm RV} {vs : List Nat} {σ : L2.St} {H : Hp} {Q : VK} : tE P E (eLc it t c f vs) σ H Q → tLc (tI P E it) (gT P.K t) (tT P E0 c) (tE P E0 f) vs σ H Q :=
  fun ⟨G, env, s, fs, cc⟩ => by
    refine ⟨G, env, s, fs, ?_⟩
    unfold eLc at cc
    cases hf : it env s with
    | stuck => rw [hf] at cc; exact cc.elim
    | exc c' p s1 => rw [hf] at cc; exact cc
    | ok ds s1 =>
      rw [hf] at cc
      intro J hs' H1 f1 e1 iok p hp
      have cc : Cont P E G σ env H (RE P G σ env H) (if ds.length ≤ sizeLine ∧ wipeOk env vs = true ∧ t.inn vs = true then (lcL t c f (wipeE env vs) ds s1).bind fun ys s => .ok (.mu ys) s else .stuck) Q := cc
      by_cases hz : ds.length ≤ sizeLine ∧ wipeOk env vs = true ∧ t.inn vs = true
      · rw [if_pos hz] at cc
        obtain ⟨hl, hw, hn⟩ := hz
        have fz := f1.drop
        have hH : H p = none := FS.dm f1.st e1 hp
        have hHc : G.Hc p = none := by
          cases q : G.Hc p with
          | none => rfl
          | some o =>
            by_cases tt : G.T.has p
            · exact absurd hH (fs.st.some_of tt)
            · rw [fs.ext p o q tt] at hH; cases hH
        -- the block's frame
        have fb : FS P ((G.hold hs').neu p) (L2.wipe σ vs) (upd H1 p (.lst [])) (wipeE env vs) s1 := (f1.neu hp).wipe vs
        have mx1 : ∀ a, Mx G σ env a ∨ a = p → Mx ((G.hold hs').neu p) (L2.wipe σ vs) (wipeE env vs) a := by
          rintro a ((z | z) | z)
          · exact .inl (.inl z)
          · exact .inr (z.wiped hw)
          · exact .inl (.inr z)
        refine lc_it iok.walk (fun i H2 => ∃ s acc accd, FS P ((G.hold hs').neu p) (L2.wipe σ vs) H2 (wipeE env vs) s ∧ Ext G.T H1 H2 ∧ H2 p = some (.lst acc) ∧ acc.length ≤ i ∧ Reps P.K G.T (Mx ((G.hold hs').neu p) (L2.wipe σ vs) (wipeE env vs)) H2 acc accd ∧
          Cont P E G σ env H (RE P G σ env H) ((lcL t c f (wipeE env vs) (ds.drop i) s).bind fun ys s => .ok (.mu (accd ++ ys)) s) Q) ⟨s1, [], [], fb, .of (Same.new hp), upd_same, Nat.le_refl _, .nil, cc⟩ (fun i H2 _ ⟨_, _, _, fq, _⟩ => ⟨_, fun q hq => fq.held q (List.mem_append_left _ hq)⟩)
          (fun i x H2 H3 lt ⟨s, acc, accd, f2, e2, hacc, hal, racc, c2⟩ y => ?_) fun H2 ⟨s, acc, accd, f2, e2, hacc, hal, racc, c2⟩ => ?_
        · obtain ⟨sm, d, ed, rd⟩ := y _ fun q hq => f2.held q (List.mem_append_left _ hq)
          have edr : ds.drop i = d :: ds.drop (i + 1) := by
            rw [List.drop_eq_getElem_cons lt]
            rw [List.getElem?_eq_getElem lt] at ed
            rw [Option.some.inj ed]
          rw [edr] at c2
          unfold lcL at c2
          have f3 := f2.same sm
          cases hpt : t.put d (wipeE env vs) with
          | none => rw [hpt] at c2; exact c2.elim
          | some env' =>
            rw [hpt] at c2
            have out := fun j (hj : j ∉ vs) => (put_out hj).1 t hn hpt
            refine gT_mono t (gT_wipe t hn (t_put t (Q := fun σ' H' => H' = H3 ∧ FS P ((G.hold hs').neu p) σ' H3 env' s) f3 rd hpt fun σ' f' _ => ⟨rfl, f'⟩)) fun σ' H3' ⟨hw', hh, f4⟩ => ?_
            subst hh
            refine ⟨by rw [hw', wipe_wipe (i := 0) fun _ z => z], ?_⟩
            have hw2 : L2.wipe σ' vs = L2.wipe σ vs := by rw [hw', wipe_wipe (i := 0) fun _ z => z]
            -- what is one's own in the block is so in the frame
            have mx2 : ∀ a, Mx ((G.hold hs').neu p) (L2.wipe σ vs) (wipeE env vs) a → Mx ((G.hold hs').neu p) σ' env' a := by
              rintro a (z | ⟨j, xs, z1, z2⟩)
              · exact .inl z
              · have nj : j ∉ vs := by
                  intro m
                  have q := (L2.wipe_some z2).2
                  exact q m
                refine .inr ⟨j, xs, by rw [out j nj]; exact z1, ?_⟩
                have q : (L2.wipe σ' vs)[j]? = some (some (V.ref a)) := by rw [hw2]; exact z2
                exact (L2.wipe_some q).1
            have back : ∀ {H5 : Hp} {s5 : DS}, FS P ((G.hold hs').neu p) σ' H5 env' s5 → Ext G.T H3' H5 → FS P ((G.hold hs').neu p) (L2.wipe σ vs) H5 (wipeE env vs) s5 := fun {H5 s5} f5 e5 => f3.go e5 f5.st
            have c2 : Cont P E G σ env H (RE P G σ env H) ((match c env' s with
              | .ok true s => match f env' s with
                | .ok y s => (lcL t c f (wipeE env vs) (ds.drop (i + 1)) s).bind fun ys s => .ok (y.d :: ys) s
                | _ => .stuck
              | .ok false s => lcL t c f (wipeE env vs) (ds.drop (i + 1)) s
              | _ => .stuck).bind fun ys s => .ok (.mu (accd ++ ys)) s) Q := c2
            cases hcs : c env' s with
            | stuck => rw [hcs] at c2; exact c2.elim
            | exc _ _ _ => rw [hcs] at c2; exact c2.elim
            | ok k s4 =>
              rw [hcs] at c2
              refine tG_in f4 hcs fun v H4 f5 e5 r5 => ?_
              obtain rfl : v = k := r5
              have b5 := back f5 e5
              have a5 : H4 p = some (.lst acc) := e5 _ _ (sm _ _ hacc) fun z => (f5.md p (.inr rfl)).1 z
              have ra5 : Reps P.K G.T (Mx ((G.hold hs').neu p) (L2.wipe σ vs) (wipeE env vs)) H4 acc accd := (racc.ext f2.st f2.mtx (.of sm)).ext f3.st f3.mtx e5
              cases v with
              | false =>
                rw [if_neg Bool.false_ne_true]
                exact ⟨s4, acc, accd, b5, (e2.trans (.of sm)).trans e5, a5, Nat.le_succ_of_le hal, ra5, c2⟩
              | true =>
                rw [if_pos rfl]
                cases hfs : f env' s4 with
                | stuck =>
                  have c2 : Cont P E G σ env H (RE P G σ env H) ((match f env' s4 with
                    | .ok y s => (lcL t c f (wipeE env vs) (ds.drop (i + 1)) s).bind fun ys s => .ok (y.d :: ys) s
                    | _ => .stuck).bind fun ys s => .ok (.mu (accd ++ ys)) s) Q := c2
                  rw [hfs] at c2; exact c2.elim
                | exc _ _ _ =>
                  have c2 : Cont P E G σ env H (RE P G σ env H) ((match f env' s4 with
                    | .ok y s => (lcL t c f (wipeE env vs) (ds.drop (i + 1)) s).bind fun ys s => .ok (y.d :: ys) s
                    | _ => .stuck).bind fun ys s => .ok (.mu (accd ++ ys)) s) Q := c2
                  rw [hfs] at c2; exact c2.elim
                | ok r s5 =>
                  have c2 : Cont P E G σ env H (RE P G σ env H) ((match f env' s4 with
                    | .ok y s => (lcL t c f (wipeE env vs) (ds.drop (i + 1)) s).bind fun ys s => .ok (y.d :: ys) s
                    | _ => .stuck).bind fun ys s => .ok (.mu (accd ++ ys)) s) Q := c2
                  rw [hfs] at c2
                  refine tG_in f5 hfs fun w H5 f6 e6 r6 => ?_
                  have rr := RepR.rep r6 fun q z => f5.fresh z
                  have b6 := b5.go e6 f6.st
                  have a6 : H5 p = some (.lst acc) := e6 _ _ a5 fun z => (f5.md p (.inr rfl)).1 z
                  have ra6 := ra5.ext b5.st b5.mtx e6
                  have lacc := racc.len
                  refine ⟨acc, a6, by omega, s5, acc ++ [w], accd ++ [r.d], b6.grow (.inr rfl) (.inr rfl) hHc a6, ?_, upd_same, by rw [List.length_append, List.length_singleton]; omega, keep_md a6 (.inl (.inr rfl)) (ra6.app (.cons (rr.less mx2) .nil)), ?_⟩
                  · intro b o hb nb
                    have z := (((e2.trans (.of sm)).trans e5).trans e6) b o hb nb
                    rw [upd_ne (fun w => by rw [w, hp] at hb; cases hb)]
                    exact z
                  · have c2 : Cont P E G σ env H (RE P G σ env H) (((lcL t c f (wipeE env vs) (ds.drop (i + 1)) s5).bind fun ys s => .ok (r.d :: ys) s).bind fun ys s => .ok (.mu (accd ++ ys)) s) Q := c2
                    cases hll : lcL t c f (wipeE env vs) (ds.drop (i + 1)) s5 with
                    | ok ys s6 =>
                      rw [hll] at c2
                      have c2 : Cont P E G σ env H (RE P G σ env H) (.ok (.mu (accd ++ r.d :: ys)) s6) Q := c2
                      show Cont P E G σ env H (RE P G σ env H) (.ok (.mu (accd ++ [r.d] ++ ys)) s6) Q
                      rw [List.append_assoc]
                      exact c2
                    | exc _ _ _ => rw [hll] at c2; exact c2
                    | stuck => rw [hll] at c2; exact c2
        · rw [List.drop_length] at c2
          have c2 : Cont P E G σ env H (RE P G σ env H) (.ok (.mu (accd ++ [])) s) Q := c2
          rw [List.append_nil] at c2
          exact c2 (.ref p) H2 (fz.go e2 f2.st) (e1.trans e2) ⟨p, acc, rfl, hH, hacc, by omega, racc.less mx1⟩
      · rw [if_neg hz] at cc
        exact cc.elim
/-- no test -/
theorem x_lc {elt tg iter : Expr} {ifs : List Expr} {scope : Scope} {own : List (Str × Nat)} {pos : Pos} {it : Sm (List D)} {t : Tgt} {c : Sm Bool} {f : Sm RV} (hc : X.calm = true) (hN : X.N.Nodup) (hi : PI X tg iter (tI P E it)) (ok : BlkOk X.N X.env.scope scope own)
    (hg : ∀ (s : Shared) (H : Hp) (C : Addr) (cl : List (Str × Addr)) (fp : List Addr), PG (X.blk s H scope (compEnvC scope cl C X.env) fp) tg (gT P.K t))
    (ht : ∀ (s : Shared) (H : Hp) (C : Addr) (cl : List (Str × Addr)) (fp : List Addr), PTs (X.blk s H scope (compEnvC scope cl C X.env) fp) ifs (tT P E0 c))
    (he : ∀ (s : Shared) (H : Hp) (C : Addr) (cl : List (Str × Addr)) (fp : List Addr), PE (X.blk s H scope (compEnvC scope cl C X.env) fp) elt (tE P E0 f)) (hs : ∀ x, foldedSetIterable iter X.env x = pure x := by intro _; rfl) :
    PE X (.ListComp elt [⟨tg, iter, ifs, 0⟩] scope pos) (tE P E (eLc it t c f (own.map (·.2)))) :=
  PE.mono (pe_lc hc hN hi ok hg ht he hs) fun _ _ _ => lc_at
/-- name = [..] on one line, the name a local -/
theorem s_setLc {i : Nat} {y : Str} {py spos : Pos} {elt tg iter : Expr} {ifs : List Expr} {scope : Scope} {own : List (Str × Nat)} {pos : Pos} {it : Sm (List D)} {t : Tgt} {c : Sm Bool} {f : Sm RV} (hc : X.calm = true) (hN : X.N.Nodup) (hi : PI X tg iter (tI P E it)) (ok : BlkOk X.N X.env.scope scope own)
    (hg : ∀ (s : Shared) (H : Hp) (C : Addr) (cl : List (Str × Addr)) (fp : List Addr), PG (X.blk s H scope (compEnvC scope cl C X.env) fp) tg (gT P.K t))
    (ht : ∀ (s : Shared) (H : Hp) (C : Addr) (cl : List (Str × Addr)) (fp : List Addr), PTs (X.blk s H scope (compEnvC scope cl C X.env) fp) ifs (tT P E0 c))
    (he : ∀ (s : Shared) (H : Hp) (C : Addr) (cl : List (Str × Addr)) (fp : List Addr), PE (X.blk s H scope (compEnvC scope cl C X.env) fp) elt (tE P E0 f)) (hs : ∀ x, foldedSetIterable iter X.env x = pure x := by intro _; rfl) (hi0 : X.N[i]? = some y := by rfl) (hyl : X.env.scope.names.lookup y = some .local := by rfl) (hsw : swapsWith (.ListComp elt [⟨tg, iter, ifs, 0⟩] scope pos) (some (.Name y py)) spos.line X.env = pure true := by exact sw_true rfl rfl rfl rfl) :
    PS X (.Assign [.Name y py] (.ListComp elt [⟨tg, iter, ifs, 0⟩] scope pos) spos) (tS P E (sSet i (eLc it t c f (own.map (·.2))))) :=
  PS.mono (ps_setLc hc hN hi0 hyl hsw hi ok hg ht he hs) fun D σ H q => lc_at ((out_bind (R1 := RE P) (k := fun (r : RV) env s => Out.nx (env.set i r.slot) s) q).mono fun v H1 ⟨G, env, s, x, f1, e1, r1, c, s0, f0⟩ => c _ H1 (f0.set f1 e1 r1))
theorem ts_nil : PTs X [] (tT P E0 tYes) := ⟨fun pins s σ H Q I ⟨G, env, s', fs, c⟩ => wpAny_tests_nil ⟨H, I, c true H fs (Ext.refl _ _) rfl⟩⟩
theorem ts_one {c : Expr} {t : Sm Bool} (h : XT X P E0 c t) : PTs X [c] (tT P E0 t) := pts_one h.t
end
end Ev

/-! Ev16: defs and their calls: own work. -/
namespace Ev
open PySem PySem.Spec PyProof.Rows L2
/-- a def's promise where no repr is under way -/
structure FnG (Pg : Program) (w : World) (K : PySem.W.Frag) (mg : Str → Option Value) (base : Heap) (k : Nat) (f : Addr) (fd : FuncData) (ps : List Str) (sp : Sp) : Prop where
  len : ∀ vs H Q E, sp vs H Q E → vs.length = ps.length
  run : ∀ (A : Around) (outer : List Env) (s : Shared) (H : Hp) (args : Args) (us : List Value) (vs : List V) (Q : VK) (E : XK), Room k A → A.guards = some [] → Env0 Pg w K mg base A outer s H → BindsTo s fd args (ps.zip us) → Vals vs us → sp vs H Q E →
    codeAny (model Pg w) A (.call (.ref f) args) (CR (L2.CX Pg w) outer Pg w H s Q E) s
theorem FnG.mono {Pg : Program} {w : World} {K : PySem.W.Frag} {mg : Str → Option Value} {base : Heap} {j k : Nat} {f : Addr} {fd : FuncData} {ps : List Str} {sp : Sp} (F : FnG Pg w K mg base j f fd ps sp) (h : j ≤ k) : FnG Pg w K mg base k f fd ps sp :=
  ⟨F.len, fun A outer s H args us vs Q E hr => F.run A outer s H args us vs Q E (hr.mono h)⟩
/-- by its body -/
theorem FnG.of {Pg : Program} {w : World} {K : PySem.W.Frag} {mg : Str → Option Value} {base : Heap} {x qual : Str} {params : Arguments} {body : List Stmt} {scope : Scope} {dvs : List V} {kws : List (Str × V)} {f : Addr} {fd : FuncData} {N ps : List Str} {k : Nat} {sp : Sp}
    (F : FunD K x qual params body scope dvs kws f fd) (S : FnScope N ps scope) (len : ∀ vs H Q E, sp vs H Q E → vs.length = ps.length)
    (hbody : ∀ (cdv : Value) (A : Around) (outer : List Env) (s : Shared) (H : Hp) (vs : List V) (Q : VK) (E : XK), Room k (A.deeper (envOfC qual scope s.heap.objs.size f cdv)) → A.guards = some [] → sp vs H Q E →
      ∃ t, PSs (cxOf (L2.CX Pg w) Pg w K mg base N qual scope f cdv A outer s H E) body t ∧ t { nx := fun _ H' => Q .non H', rt := Q } (L2.start N vs) H) : FnG Pg w K mg base (k + 1) f fd ps sp := by
  obtain ⟨oc, od, dV, kV, doc, pm, an, cdv, ct, osl, rfl, lk, hcd, _, _⟩ := F.ex
  exact ⟨len, fun A outer s H args us vs Q E hr hg e0 hb r hsp => LamX.run_ofS lk hcd S hr e0 hb r (len _ _ _ _ hsp) fun hr' => hbody cdv A outer s H vs Q E hr' hg hsp⟩
/-- what a def gives, told of its caller -/
def ContF (P : Pm) (T : Tk) (M : Addr → Prop) (H : Hp) (Q : VK) (E : XK) (r : Res RV) : Prop := match r with
  | .ok r s => ∀ v H', StOk T H' s → Ext T H H' → RepR P.K T M H H' v r → Q v H'
  | .exc c p s => ∀ cls d H', StOk T H' s → Ext T H H' → P.xi c p cls d H' → E cls d H'
  | .stuck => False
def spF (P : Pm) (m : Nat) (fn : Fn) : Sp := fun vs H Q E => vs.length = m ∧ ∃ (T : Tk) (M : Addr → Prop) (ds : List D) (s : DS), T.tb = P.tb ∧ StOk T H s ∧ (∀ a, T.has a → M a) ∧ (∀ a, M a → H a ≠ none) ∧ Reps P.K T M H vs ds ∧ ContF P T M H Q E (fn ds s)
section
variable {P : Pm} {E : XK}
theorem map_im_get {ds : List D} {k i : Nat} {sl : Slot} (h : (ds.map Slot.im ++ List.replicate k .un)[i]? = some sl) : (∃ d, ds[i]? = some d ∧ sl = .im d) ∨ sl = .un := by
  by_cases hi : i < ds.length
  · rw [List.getElem?_append_left (by rw [List.length_map]; exact hi), List.getElem?_map, List.getElem?_eq_getElem hi] at h
    exact .inl ⟨_, List.getElem?_eq_getElem hi, (Option.some.inj h).symm⟩
  · rw [List.getElem?_append_right (by rw [List.length_map]; omega)] at h
    have z := List.mem_of_getElem? h
    exact .inr (List.eq_of_mem_replicate z)
/-- at the entry of a body -/
theorem FS.begin {T : Tk} {M : Addr → Prop} {H : Hp} {vs : List V} {ds : List D} {s : DS} {N : List Str} {m k : Nat} (st : StOk T H s) (mt : ∀ a, T.has a → M a) (dm : ∀ a, M a → H a ≠ none) (r : Reps P.K T M H vs ds) (hm : vs.length = m) (hN : N.length = m + k) (htb : T.tb = P.tb) :
    FS P ⟨T, M, H, [], fun _ => False, [], []⟩ (L2.start N vs) H (ds.map .im ++ List.replicate k .un) s := by
  have lv := r.len
  have nm : ∀ {i : Nat} {xs : List D}, (ds.map Slot.im ++ List.replicate k .un)[i]? ≠ some (.mu xs) := fun {i xs} h => by
    rcases map_im_get h with ⟨d, _, q⟩ | q
    · cases q
    · cases q
  refine ⟨st, mt, fun a z => .inl (dm a z), fun a z => z.elim, Ext.refl _ _, ?_, fun i d h => ?_, fun i xs h => absurd h nm, fun i j xs ys a h => absurd h nm, (fun p h => by cases h), (fun i k h => ?_), (fun p h => by cases h), htb, fun p h => by cases h⟩
  · unfold L2.start
    rw [List.length_append, List.length_append, List.length_map, List.length_map, List.length_replicate, List.length_replicate]
    omega
  · rcases map_im_get h with ⟨d', e, q⟩ | q
    · cases q
      obtain ⟨v, e1, e2⟩ := r.get e
      refine ⟨v, ?_, e2.less fun a z => ?_⟩
      · unfold L2.start
        rw [List.getElem?_append_left (by rw [List.length_map]; exact (List.getElem?_eq_some_iff.mp e1).1), List.getElem?_map, e1]
        rfl
      · rcases z with z | ⟨j, xs, z, _⟩
        · exact z
        · exact absurd z nm
    · cases q
  · rcases map_im_get h with ⟨d, _, q⟩ | q
    · cases q
    · cases q
/-- the body of a def, from what its plain reading gives -/
theorem body_start {T : Tk} {M : Addr → Prop} {H : Hp} {vs : List V} {ds : List D} {s : DS} {N : List Str} {m k : Nat} {Q : VK} {b : Stm} (st : StOk T H s) (mt : ∀ a, T.has a → M a) (dm : ∀ a, M a → H a ≠ none) (r : Reps P.K T M H vs ds) (hm : vs.length = m) (hN : N.length = m + k) (htb : T.tb = P.tb)
    (c : ContF P T M H Q E (fnOf m k b ds s)) : tS P E b { nx := fun _ H' => Q .non H', rt := Q } (L2.start N vs) H := by
  refine ⟨_, _, s, FS.begin st mt dm r hm hN htb, ?_⟩
  have lv := r.len
  unfold fnOf at c
  rw [if_pos (show ds.length = m by omega)] at c
  cases hb : b (ds.map .im ++ List.replicate k .un) s with
  | nx e2 s2 => rw [hb] at c; exact fun σ H' f => c .non H' f.st f.ext (show Rep _ _ _ _ _ _ from .non)
  | rt r s2 => rw [hb] at c; exact c
  | bk e2 s2 => rw [hb] at c; exact c.elim
  | ct e2 s2 => rw [hb] at c; exact c.elim
  | exc c' p s2 => rw [hb] at c; exact c
  | stuck => rw [hb] at c; exact c.elim
/-- a def by its plain reading -/
theorem FnG.by {Pg : Program} {w : World} {K : PySem.W.Frag} {mg : Str → Option Value} {base : Heap} {x qual : Str} {params : Arguments} {body : List Stmt} {scope : Scope} {dvs : List V} {kws : List (Str × V)} {f : Addr} {fd : FuncData} {N ps : List Str} {k m l : Nat} {b : Stm}
    (F : FunD K x qual params body scope dvs kws f fd) (S : FnScope N ps scope) (hm : ps.length = m) (hN : N.length = m + l)
    (hbody : ∀ (cdv : Value) (A : Around) (outer : List Env) (s : Shared) (H : Hp) (E : XK), Room k (A.deeper (envOfC qual scope s.heap.objs.size f cdv)) → A.guards = some [] → PSs (cxOf (L2.CX Pg w) Pg w K mg base N qual scope f cdv A outer s H E) body (tS P E b)) :
    FnG Pg w K mg base (k + 1) f fd ps (spF P m (fnOf m l b)) := by
  refine FnG.of F S (fun vs H Q E h => h.1.trans hm.symm) fun cdv A outer s H vs Q E hr hg h => ⟨_, hbody cdv A outer s H E hr hg, ?_⟩
  obtain ⟨lv, T, M, ds, s', tb, st, mt, dm, r, c⟩ := h
  exact body_start st mt dm r lv hN tb c
end
/-! ### calls -/
section
variable {X : Cx} {P : Pm} {E : XK} {k : Nat} {f : Addr} {fd : FuncData} {ps : List Str} {sp : Sp} {dvs : List V} {ds : List Value} {x : Str} {p pos : Pos} {e : Expr} {es : List Expr} {t : TA} {fn : Fn}
theorem run_g {pins : List (Addr × Obj)} {σ : L2.St} {H : Hp} {s : Shared} {Q : VK} {us ws : List Value} {vs : List V} {ks : List Str} (F : FnG X.prog X.w X.K X.mg X.base k f fd ps sp) (hr : Room k X.A) (hg : X.A.guards = some []) (hb : BindsTo s fd ⟨us, ks.zip ws⟩ (ps.zip ds)) (hd : Vals vs ds) (hx : Passes (L2.CX X.prog X.w) X E)
    (I : Inv X pins σ H s) (h : sp vs H Q E) : wpAny (model X.prog X.w) X.A (call (.ref f) us (ks.zip ws)) (EP X pins σ Q) X.xe s := by
  refine wpAny_call (codeAny_mono (F.run X.A X.stack s H ⟨us, ks.zip ws⟩ ds vs Q E hr hg I.env0 hb hd h) fun r s' hq => ?_)
  cases r with
  | error e => exact hx pins σ H s e s' I hq
  | ok fl => cases fl with
    | ret u => exact I.after hq
    | _ => exact False.elim hq
theorem pe_g (F : FnG X.prog X.w X.K X.mg X.base k f fd ps sp) (hr : Room k X.A) (hA : X.A.guards = some []) (hg : Gl X x) (hm : X.mg x = some (.ref f)) (hk : PySem.W.keepIn X.K (.ref f) = true) (hb : Binds X.K fd ps ds) (hd : Vals dvs ds) (hx : Passes (L2.CX X.prog X.w) X E)
    (ha : PA X (e :: es) t) (hdb : (x == ("__debug__" : Str)) = false := by decide +kernel) (he : starEach (e :: es) X.env = (false, eval e X.env) :: starEach es X.env := by rfl) (hpl : (backTo pos (starEach es X.env)).any (·.1) = false := by rfl) :
    PE X (.Call (.Name x p) (e :: es) [] pos) (tCall sp dvs E t) := by
  refine ⟨fun pins s σ H Q I h => ?_⟩
  refine wpAny_Call_Name_kw (ld_glob I hg hm ?_ hdb)
  refine PySem.W.callWith_K (h₀ := X.base) I.ok.mod.kin hk (thn (ha.run pos pins s σ H _ I h) fun us s1 ⟨vs, H1, I1, r, q⟩ => ⟨I1.kIn, ?_⟩) he hpl
  have r2 : Vals (vs ++ dvs) (us ++ ds) := r.append hd
  exact run_g (ks := []) (ws := []) F hr hA (hb s1 us I1.kIn (r2.length.symm.trans (F.len _ _ _ _ q))) r2 hx I1 q
theorem pe_g0 (F : FnG X.prog X.w X.K X.mg X.base k f fd ps sp) (hr : Room k X.A) (hA : X.A.guards = some []) (hg : Gl X x) (hm : X.mg x = some (.ref f)) (hk : PySem.W.keepIn X.K (.ref f) = true) (hb : Binds X.K fd ps ds) (hd : Vals dvs ds) (hx : Passes (L2.CX X.prog X.w) X E)
    (hdb : (x == ("__debug__" : Str)) = false := by decide +kernel) : PE X (.Call (.Name x p) [] [] pos) (tCall sp dvs E tNil) := by
  refine ⟨fun pins s σ H Q I h => ?_⟩
  refine wpAny_Call_Name_kw (ld_glob I hg hm ?_ hdb)
  have h : sp ([] ++ dvs) H Q E := h
  exact PySem.W.callWith_K0 I.kIn hk (run_g (us := []) (ks := []) (ws := []) F hr hA (hb s [] I.kIn ((show ([] ++ ds).length = ([] ++ dvs).length from hd.length.symm).trans (F.len _ _ _ _ h))) hd hx I h)
theorem mx_live {P : Pm} {G : Gh} {σ : L2.St} {H : Hp} {env : Lo} {s : DS} (f : FS P G σ H env s) : ∀ a, Mx G σ env a → H a ≠ none := fun a z n => f.fresh n z
/-- the end of a call, at the caller -/
theorem ContF.back {G : Gh} {σ : L2.St} {H H1 : Hp} {env : Lo} {s s1 : DS} {r : Res RV} {Q : VK} (f1 : FS P G σ H1 env s1) (f0 : StOk G.T H s) (e1 : Ext G.T H H1) (c : Cont P E G σ env H (RE P G σ env H) r Q) : ContF P G.T (Mx G σ env) H1 Q E r := by
  cases r with
  | ok r s2 => exact fun v H2 st e rr => c v H2 (f1.go e st) (e1.trans e) (RepR.from rr fun p z => FS.dm f1.st e1 z)
  | exc c' p s2 => exact fun cls d H2 st e q => c cls d H2 (f1.go e st) (e1.trans e) q
  | stuck => exact c
/-- f(..), dd: the defaults that fill up -/
theorem call_at {σ : L2.St} {H : Hp} {Q : VK} {a : Sm (List D)} {dd : List D} {m : Nat} (hd : ∀ T M H, Reps P.K T M H dvs dd) (hl : ∀ env s ds s1, a env s = .ok ds s1 → ds.length + dd.length = m)
    (h : tE P E (fun env s => (a env s).bind fun ds s => fn (ds ++ dd) s) σ H Q) : tCall (spF P m fn) dvs E (tA P E a) σ H Q := by
  obtain ⟨G, env, s, fs, c⟩ := h
  refine ⟨G, env, s, fs, ?_⟩
  have c : Cont P E G σ env H (RE P G σ env H) ((a env s).bind fun ds s => fn (ds ++ dd) s) Q := c
  cases ha : a env s with
  | stuck => rw [ha] at c; exact c.elim
  | exc c' p s1 => rw [ha] at c; exact c
  | ok ds s1 =>
    rw [ha] at c
    refine fun vs H1 f1 e1 r1 => ?_
    have r1 : Reps P.K G.T (Mx G σ env) H1 vs ds := r1
    have l1 := r1.len
    have l2 := (hd G.T (Mx G σ env) H1).len
    have l3 := hl env s ds s1 ha
    refine ⟨by rw [List.length_append]; omega, G.T, Mx G σ env, ds ++ dd, s1, f1.tb, f1.st, f1.mtx, mx_live f1, r1.app (hd _ _ _), ContF.back f1 fs.st e1 c⟩
end
end Ev

/-! Ev17: calls by names: own work. -/
namespace Ev
open PySem PySem.Spec PyProof.Rows L2
/-- the module's name x stands for a def that does as fn; dd: the defaults that fill up -/
structure Has (P : Pm) (Pg : Program) (w : World) (mg : Str → Option Value) (base : Heap) (k : Nat) (x : Str) (m : Nat) (fn : Fn) (dd : List D) : Prop where
  len : ∀ ds s, ds.length ≠ m → fn ds s = .stuck
  ex : ∃ (f : Addr) (fd : FuncData) (ps : List Str) (dvs : List V) (ds : List Value), mg x = some (.ref f) ∧ PySem.W.keepIn P.K (.ref f) = true ∧ FnG Pg w P.K mg base k f fd ps (spF P m fn) ∧ Binds P.K fd ps ds ∧ Vals dvs ds ∧ ∀ T M H, Reps P.K T M H dvs dd
theorem Has.mono {P : Pm} {Pg : Program} {w : World} {mg : Str → Option Value} {base : Heap} {j k : Nat} {x : Str} {m : Nat} {fn : Fn} {dd : List D} (h : Has P Pg w mg base j x m fn dd) (l : j ≤ k) : Has P Pg w mg base k x m fn dd :=
  ⟨h.len, let ⟨f, fd, ps, dvs, ds, a, b, c, d⟩ := h.ex; ⟨f, fd, ps, dvs, ds, a, b, c.mono l, d⟩⟩
theorem fnOf_len {m k : Nat} {b : Stm} : ∀ ds s, ds.length ≠ m → fnOf m k b ds s = .stuck := fun ds s h => by
  unfold fnOf
  rw [if_neg h]
section
variable {X : Cx} {P : Pm} {E : XK} {k m : Nat} {x : Str} {p pos : Pos} {e : Expr} {es : List Expr} {fn : Fn} {dd : List D}
theorem call_args {dvs : List V} {σ : L2.St} {H : Hp} {Q : VK} {a : Sm (List D)} (hd : ∀ T M H, Reps P.K T M H dvs dd) (hn : ∀ ds s, ds.length ≠ m → fn ds s = .stuck) (h : tE P E (eCallD fn dd a) σ H Q) : tCall (spF P m fn) dvs E (tA P E a) σ H Q := by
  obtain ⟨G, env, s, fs, c⟩ := h
  refine ⟨G, env, s, fs, ?_⟩
  have c : Cont P E G σ env H (RE P G σ env H) ((a env s).bind fun ds s => fn (ds ++ dd) s) Q := c
  cases ha : a env s with
  | stuck => rw [ha] at c; exact c.elim
  | exc c' p s1 => rw [ha] at c; exact c
  | ok ds s1 =>
    rw [ha] at c
    refine fun vs H1 f1 e1 r1 => ?_
    have r1 : Reps P.K G.T (Mx G σ env) H1 vs ds := r1
    have c : Cont P E G σ env H (RE P G σ env H) (fn (ds ++ dd) s1) Q := c
    have r2 := r1.app (hd G.T (Mx G σ env) H1)
    by_cases hl : (ds ++ dd).length = m
    · exact ⟨r2.len.trans hl, G.T, Mx G σ env, ds ++ dd, s1, f1.tb, f1.st, f1.mtx, mx_live f1, r2, ContF.back f1 fs.st e1 c⟩
    · rw [hn _ _ hl] at c
      exact c.elim
theorem x_callD {a : Sm (List D)} (h : Has P X.prog X.w X.mg X.base k x m fn dd) (hr : Room k X.A) (hA : X.A.guards = some []) (hg : Gl X x) (hx : Passes (L2.CX X.prog X.w) X E) (ha : PA X (e :: es) (tA P E a)) (hdb : (x == ("__debug__" : Str)) = false := by decide +kernel)
    (he : starEach (e :: es) X.env = (false, eval e X.env) :: starEach es X.env := by rfl) (hpl : (backTo pos (starEach es X.env)).any (·.1) = false := by rfl) (hK : P.K = X.K := by rfl) : PE X (.Call (.Name x p) (e :: es) [] pos) (tE P E (eCallD fn dd a)) := by
  obtain ⟨f, fd, ps, dvs, ds, hm, hk, F, hb, hd, rd⟩ := h.ex
  rw [hK] at hk hb F
  exact PE.mono (pe_g F hr hA hg hm hk hb hd hx ha hdb he hpl) fun σ H Q q => call_args rd h.len q
theorem x_call {a : Sm (List D)} (h : Has P X.prog X.w X.mg X.base k x m fn []) (hr : Room k X.A) (hA : X.A.guards = some []) (hg : Gl X x) (hx : Passes (L2.CX X.prog X.w) X E) (ha : PA X (e :: es) (tA P E a)) (hdb : (x == ("__debug__" : Str)) = false := by decide +kernel)
    (he : starEach (e :: es) X.env = (false, eval e X.env) :: starEach es X.env := by rfl) (hpl : (backTo pos (starEach es X.env)).any (·.1) = false := by rfl) (hK : P.K = X.K := by rfl) : PE X (.Call (.Name x p) (e :: es) [] pos) (tE P E (eCall fn a)) := by
  have z := x_callD (p := p) (pos := pos) h hr hA hg hx ha hdb he hpl hK
  have e : eCallD fn [] a = eCall fn a := by
    funext env s
    unfold eCallD eCall
    simp only [List.append_nil]
  rw [e] at z
  exact z
/-! ### lists of one's own are lent -/
def RBs (P : Pm) : Rl (List D) (List V) := fun G _ _ _ H v d => Reps P.K G.T G.Mc H v d
abbrev tB (P : Pm) (E : XK) (f : Sm (List D)) : TA := tG P E (RBs P) f
theorem own_mc {P : Pm} {G : Gh} {σ : L2.St} {H : Hp} {env : Lo} {s : DS} (f : FS P G σ H env s) {a : Addr} (o : Own σ env a) : ¬ G.Mc a := fun z => by
  rcases f.dom a z with w | w
  · obtain ⟨i, xs, h1, h2⟩ := o
    obtain ⟨b, vs, q1, q2, _⟩ := f.mu i xs h1
    rw [h2] at q1
    cases q1
    exact w q2
  · exact (f.md a w).2.2 o
theorem RepP.lend {P : Pm} {G : Gh} {σ : L2.St} {H : Hp} {env : Lo} {s : DS} {v : V} {d : D} (f : FS P G σ H env s) (h : RepP P.K G.T (Mx G σ env) (Own σ env) H v d) : Rep P.K G.T G.Mc H v d := by
  rcases h with h | ⟨a, vs, xs, rfl, rfl, o, h1, h2, h3⟩
  · exact h.less fun a z => .inl z
  · exact .lst (own_mc f o) h1 h2 (h3.less fun a z => .inl z)
theorem b_nil : PA X [] (tB P E aNil) := ⟨fun pos pins s σ H Q I ⟨G, env, s', fs, c⟩ => pa_nil.run pos pins s σ H Q I (show tNil σ H Q from c [] H fs (Ext.refl _ _) (show Reps _ _ _ _ _ _ from .nil))⟩
theorem b_cons {f : Sm D} {r : Sm (List D)} (h : PE X e (tO P E f)) (hr : PA X es (tB P E r)) (hs : starEach (e :: es) X.env = (false, eval e X.env) :: starEach es X.env := by rfl) : PA X (e :: es) (tB P E (bCons f r)) :=
  PA.mono (pa_cons h hr hs) fun σ H Q q => by
    refine (tG_bind (R1 := RO P) (k := fun x env s => (r env s).bind fun xs s => .ok (x :: xs) s) q).mono fun v H1 ⟨G, env, s, d, f1, e1, r1, c, s0, f0⟩ => ?_
    refine (Cont_bind (R1 := RBs P) f1 e1 c).mono fun vs H2 ⟨s2, ds, f2, e2, r2, c2⟩ => ?_
    exact c2 (v :: vs) H2 f2 (e1.trans e2) (show Reps _ _ _ _ _ _ from .cons (RepP.lend f2 (RepP.ext (P := P) r1 f1 e2)) r2)
theorem RepR.flat {K : PySem.W.Frag} {T : Tk} {M M' : Addr → Prop} {H0 H : Hp} {v : V} {r : RV} (h : RepR K T M H0 H v r) (e : r.flat = true) : RepR K T M' H0 H v r := by
  cases r with
  | im d => exact Rep.flat (show d.imm = true from e) h
  | mu xs =>
    obtain ⟨p, vs, z, h1, h2, h3, h4⟩ := h
    exact ⟨p, vs, z, h1, h2, h3, h4.flat e⟩
theorem callB_args {σ : L2.St} {H : Hp} {Q : VK} {a : Sm (List D)} (hn : ∀ ds s, ds.length ≠ m → fn ds s = .stuck) (h : tE P E (eCallB fn a) σ H Q) : tCall (spF P m fn) [] E (tB P E a) σ H Q := by
  obtain ⟨G, env, s, fs, c⟩ := h
  refine ⟨G, env, s, fs, ?_⟩
  have c : Cont P E G σ env H (RE P G σ env H) ((a env s).bind fun ds s => (fn ds s).bind fun r s => if r.flat then .ok r s else .stuck) Q := c
  cases ha : a env s with
  | stuck => rw [ha] at c; exact c.elim
  | exc c' p s1 => rw [ha] at c; exact c
  | ok ds s1 =>
    rw [ha] at c
    refine fun vs H1 f1 e1 r1 => ?_
    have r1 : Reps P.K G.T G.Mc H1 vs ds := r1
    have c : Cont P E G σ env H (RE P G σ env H) ((fn ds s1).bind fun r s => if r.flat then .ok r s else .stuck) Q := c
    by_cases hl : ds.length = m
    · refine ⟨by rw [List.append_nil]; exact r1.len.trans hl, G.T, G.Mc, ds, s1, f1.tb, f1.st, f1.mt, fun a z => mx_live f1 a (.inl z), by rw [List.append_nil]; exact r1, ?_⟩
      cases hf : fn ds s1 with
      | stuck => rw [hf] at c; exact c.elim
      | exc c' p s2 =>
        rw [hf] at c
        exact fun cls d H2 st e q => c cls d H2 (f1.go e st) (e1.trans e) q
      | ok r s2 =>
        rw [hf] at c
        have c : Cont P E G σ env H (RE P G σ env H) (if r.flat then .ok r s2 else .stuck) Q := c
        by_cases hfl : r.flat = true
        · rw [if_pos hfl] at c
          exact fun v H2 st e rr => c v H2 (f1.go e st) (e1.trans e) (RepR.flat (RepR.from rr fun p z => FS.dm f1.st e1 z) hfl)
        · rw [if_neg hfl] at c
          exact c.elim
    · rw [hn _ _ hl] at c
      exact c.elim
theorem x_callB {a : Sm (List D)} (h : Has P X.prog X.w X.mg X.base k x m fn []) (hr : Room k X.A) (hA : X.A.guards = some []) (hg : Gl X x) (hx : Passes (L2.CX X.prog X.w) X E) (ha : PA X (e :: es) (tB P E a)) (hdb : (x == ("__debug__" : Str)) = false := by decide +kernel)
    (he : starEach (e :: es) X.env = (false, eval e X.env) :: starEach es X.env := by rfl) (hpl : (backTo pos (starEach es X.env)).any (·.1) = false := by rfl) (hK : P.K = X.K := by rfl) : PE X (.Call (.Name x p) (e :: es) [] pos) (tE P E (eCallB fn a)) := by
  obtain ⟨f, fd, ps, dvs, ds, hm, hk, F, hb, hd, rd⟩ := h.ex
  rw [hK] at hk hb F
  refine PE.mono (pe_g F hr hA hg hm hk hb hd hx ha hdb he hpl) fun σ H Q q => ?_
  have z : dvs = [] := by
    have z := rd ⟨0, 0, 0, []⟩ (fun _ => False) H
    cases z
    rfl
  rw [z]
  exact callB_args h.len q
end
end Ev

/-! Ev18: the drawing state: own work. -/
namespace Ev
open PySem PySem.Spec PyProof.Rows L2
def stKvs (T : Tk) (s : DS) : List (Key × V) := [(.inr "great", .ref T.g), (.inr "cells", .ref T.c), (.inr "rest", .int s.rest), (.inr "turn", .int s.turn)]
theorem st_get (T : Tk) (s : DS) : ∀ f : Fd, valV (stKvs T s) (.inr f.nm) = some (.int (f.get s))
  | .rest => rfl
  | .turn => rfl
theorem st_put (T : Tk) (s : DS) (n : Int) : ∀ f : Fd, putK (stKvs T s) (.inr f.nm) (.int n) = stKvs T (f.put s n)
  | .rest => rfl
  | .turn => rfl
theorem st_great (T : Tk) (s : DS) : valV (stKvs T s) (.inr "great") = some (.ref T.g) := rfl
theorem st_cells (T : Tk) (s : DS) : valV (stKvs T s) (.inr "cells") = some (.ref T.c) := rfl
end Ev
namespace Ev
open PySem PySem.Spec PyProof.Rows L2
section
variable {X : Cx} {P : Pm} {E : XK} {G : Gh} {σ : L2.St} {H : Hp} {env : Lo} {s : DS}
theorem tabs_upd {tb : List (Addr × Str)} {H : Hp} {a : Addr} {o u : HO} (h : LamX.Tabs tb H) (ha : H a = some u) (h1 : ∀ ps, u ≠ .tbl ps) (h2 : ∀ φ, u ≠ .ext φ) : LamX.Tabs tb (upd H a o) := fun p hp => by
  obtain ⟨ps, w1, w2, w3⟩ := h p hp
  refine ⟨ps, by rw [upd_ne fun z => by rw [z, ha] at w1; exact h1 _ (Option.some.inj w1)]; exact w1, w2, fun pos cv hc => ?_⟩
  obtain ⟨c, e1, e2⟩ := w3 pos cv hc
  exact ⟨c, e1, by rw [upd_ne fun z => by rw [z, ha] at e2; exact h2 _ (Option.some.inj e2)]; exact e2⟩
theorem StOk.put {T : Tk} {H : Hp} {s : DS} (h : StOk T H s) (f : Fd) (n : Int) : StOk T (upd H T.a (.dK (stKvs T (f.put s n)))) (f.put s n) := by
  obtain ⟨h1, h2, h3, h4, h5⟩ := h
  have n1 : T.g ≠ T.a := fun z => by rw [z, h1] at h2; cases h2
  have n2 : T.c ≠ T.a := fun z => by rw [z, h1] at h3; cases h3
  refine ⟨upd_same, ?_, ?_, h4, tabs_upd h5 h1 (fun ps z => by cases z) fun φ z => by cases z⟩
  · rw [upd_ne n1, h2]
    cases f <;> rfl
  · rw [upd_ne n2, h3]
    cases f <;> rfl
theorem Ext.a {T : Tk} {H : Hp} {o : HO} : Ext T H (upd H T.a o) := fun b o h n => by
  rw [upd_ne fun z => n (.inl z)]
  exact h
theorem im_st {i : Nat} (f : FS P G σ H env s) (h : env[i]? = some (.im .st)) : σ[i]? = some (some (.ref G.T.a)) := by
  obtain ⟨v, h1, h2⟩ := f.im i _ h
  cases h2
  exact h1
section
variable {x : Str} {p p2 pos : Pos} {j : Nat}
theorem x_st (fd : Fd) (i : Nat) (hu : X.A.units + 1 < cLine) (hN : X.N[i]? = some x := by rfl) (hv : Vis X.env.scope x := by first | exact Or.inl rfl | exact Or.inr (Or.inl rfl) | exact Or.inr (Or.inr rfl)) (hd : (x == ("__debug__" : Str)) = false := by decide +kernel) (hcd : (x == ("__classdict__" : Str)) = false := by decide +kernel) :
    PE X (.Subscript (.Name x p) (.Constant (.str fd.nm) j p2) pos) (tE P E (eSt i fd)) :=
  PE.mono (pe_dget hu (pe_var (i := i) hN hv hd hcd) pe_str fun _ _ => rfl) fun σ H Q ⟨G, env, s, fs, c⟩ => by
    unfold eSt at c
    split at c
    · rename_i e
      exact ⟨.ref G.T.a, im_st fs e, G.T.a, _, rfl, by rw [← st_get G.T s fd]; exact DGet.k (k := .inr fd.nm) fs.st.1, c _ H fs (Ext.refl _ _) (show Rep _ _ _ _ _ _ from .int _)⟩
    · exact c.elim
theorem s_stI (fd : Fd) (i : Nat) {e : Expr} {f : Sm RV} {pos' : Pos} (hu : X.A.units + 1 < cLine) (h : PE X e (tE P E f)) (hN : X.N[i]? = some x := by rfl) (hv : Vis X.env.scope x := by first | exact Or.inl rfl | exact Or.inr (Or.inl rfl) | exact Or.inr (Or.inr rfl)) (hd : (x == ("__debug__" : Str)) = false := by decide +kernel) (hcd : (x == ("__classdict__" : Str)) = false := by decide +kernel)
    (hs : swapsWith e (some (.Subscript (.Name x p) (.Constant (.str fd.nm) j p2) pos')) pos.line X.env = pure false := by rfl) : PS X (.Assign [.Subscript (.Name x p) (.Constant (.str fd.nm) j p2) pos'] e pos) (tS P E (sStI i fd f)) :=
  PS.mono (ps_dput hu (pe_var (i := i) hN hv hd hcd) pe_str h hs) fun D σ H q => by
    refine (out_bind (R1 := RE P) (k := fun (r : RV) env s => match env[i]?, r with
      | some (.im .st), .im (.int n) => Out.nx env (fd.put s n)
      | _, _ => .stuck) q).mono fun v H1 ⟨G, env, s, r, f1, e1, r1, c, s0, f0⟩ => ?_
    cases r with
    | mu xs =>
      have c : ContS P E G (match env[i]?, (RV.mu xs) with
        | some (.im .st), .im (.int n) => Out.nx env (fd.put s n)
        | _, _ => .stuck) D := c
      split at c
      · rename_i z
        cases z
      · exact c.elim
    | im d =>
      have r1 : Rep _ _ _ _ v d := r1
      have c : ContS P E G (match env[i]?, (RV.im d) with
        | some (.im .st), .im (.int n) => Out.nx env (fd.put s n)
        | _, _ => .stuck) D := c
      split at c
      · rename_i n e q
        cases q
        cases r1
        refine ⟨.ref G.T.a, im_st f1 e, G.T.a, _, rfl, DPut.k (k := .inr fd.nm) f1.st.1 (by show 4 < sizeLine; decide), ?_⟩
        have z := st_put G.T s n fd
        unfold stKvs at z
        rw [z]
        rw [e] at c
        exact c σ _ (f1.go Ext.a (f1.st.put fd n))
      · exact c.elim
theorem ints_lay : ∀ l : List Int, PyData.canLayAll0 (l.map .int) = true ∧ PyData.depthAll (l.map .int) = 0
  | [] => ⟨rfl, rfl⟩
  | a :: l => by
    have z := ints_lay l
    rw [List.map_cons]
    unfold PyData.canLayAll0 PyData.depthAll
    rw [z.1, z.2]
    exact ⟨rfl, rfl⟩
theorem ints_shaped (l : List Int) : SeqAt.shaped (.list (l.map .int)) = true := by
  have z := ints_lay l
  unfold SeqAt.shaped PyData.canLay0 PyData.depth
  rw [z.1, z.2]
  rfl
theorem x_greatV (i : Nat) {pb pl : Pos} (hu : X.A.units + 64 < cLine) (hN : X.N[i]? = some x := by rfl) (hv : Vis X.env.scope x := by first | exact Or.inl rfl | exact Or.inr (Or.inl rfl) | exact Or.inr (Or.inr rfl)) (hd : (x == ("__debug__" : Str)) = false := by decide +kernel) (hcd : (x == ("__classdict__" : Str)) = false := by decide +kernel)
    (hK : P.K = X.K := by rfl) : XT X P E (.Compare (.Subscript (.Name x p) (.Constant (.str "great") j p2) pb) [.NotEq] [.List [] pl] pos) (tGreat i) := by
  have go : ∀ {σ : L2.St} {H : Hp} {Q' : Bool → Hp → Prop} {Q : VK}, tT P E (tGreat i) σ H Q' → (∀ k H1, Q' k H1 → Q (.bl k) H1) → tOp (rNeD X.K) (tDGet (tVar i) (tC (.str "great"))) (tLst tNil) σ H Q := fun {σ H Q' Q} ⟨G, env, s, fs, c⟩ m => by
    unfold tGreat at c
    split at c
    · rename_i e
      refine ⟨.ref G.T.a, im_st fs e, G.T.a, .ref G.T.g, rfl, DGet.k (k := .inr "great") fs.st.1, ?_⟩
      refine ⟨by show 0 ≤ sizeLine; decide, fun q hq => ⟨.list (s.great.map .int), .list [], .lst (xs := s.great.map V.int) (SqL.of ?_) ?_, .lst (SqL.of upd_same) .nil, ints_shaped _, by rfl, ?_⟩⟩
      · rw [upd_ne fun z => by rw [← z] at hq; exact fs.st.some_of (.inr (.inl rfl)) hq]
        exact fs.st.2.1
      · generalize s.great = l
        induction l with
        | nil => exact .nil
        | cons a l ih => exact .cons (.int a) ih
      · have z : PyData.eqv (.list (s.great.map .int)) (.list []) = s.great.isEmpty := by
          unfold PyData.eqv
          cases s.great <;> rfl
        rw [z]
        refine m _ _ (c (!s.great.isEmpty) _ (fs.same (Same.new hq)) (.of (Same.new hq)) rfl)
    · exact c.elim
  exact ⟨PE.mono (pe_cmpR (op_neD hu) (pe_dget (by omega) (pe_var (i := i) hN hv hd hcd) pe_str fun _ _ => rfl) (pe_lst pa_nil) (nomark _)) fun σ H Q q => go q fun _ _ z => z,
    PT.mono (pt_cmpR (op_neD hu) (pe_dget (by omega) (pe_var (i := i) hN hv hd hcd) pe_str fun _ _ => rfl) (pe_lst pa_nil) (nomark _)) fun σ H Q q => go q fun k _ z => ⟨k, rfl, z⟩⟩
/-! ### the great cells, the cells -/
theorem StOk.pop {T : Tk} {H : Hp} {s : DS} {g : Int} {gs : List Int} (h : StOk T H s) : StOk T (upd H T.g (.lst (gs.map .int))) { s with great := gs } := by
  obtain ⟨h1, h2, h3, h4, h5⟩ := h
  have n1 : T.a ≠ T.g := fun z => by rw [z, h2] at h1; cases h1
  exact ⟨by rw [upd_ne n1]; exact h1, upd_same, by rw [upd_ne (Ne.symm h4)]; exact h3, h4, tabs_upd h5 h2 (fun ps z => by cases z) fun φ z => by cases z⟩
theorem Ext.g {T : Tk} {H : Hp} {o : HO} : Ext T H (upd H T.g o) := fun b o h n => by
  rw [upd_ne fun z => n (.inr (.inl z))]
  exact h
theorem x_pop0 (i : Nat) {pi pb ap cp : Pos} {j3 : Nat} (hu : X.A.units + 64 < cLine) (hN : X.N[i]? = some x := by rfl) (hv : Vis X.env.scope x := by first | exact Or.inl rfl | exact Or.inr (Or.inl rfl) | exact Or.inr (Or.inr rfl)) (hd : (x == ("__debug__" : Str)) = false := by decide +kernel) (hcd : (x == ("__classdict__" : Str)) = false := by decide +kernel)
    (hbase : attributeBase (.Subscript (.Name x p) (.Constant (.str "great") j p2) pb) "pop" X.env (eval (.Subscript (.Name x p) (.Constant (.str "great") j p2) pb) X.env) = eval (.Subscript (.Name x p) (.Constant (.str "great") j p2) pb) X.env := by rfl)
    (hfew : ((backTo cp (starEach [.Constant (.int 0) j3 pi] X.env)).all (fun x => !x.1) && (backToKw cp (keywordEach [] X.env)).all (fun x => x.1.isSome) && decide (([.Constant (.int 0) j3 pi] : List Expr).length + ([] : List Keyword).length + (if ([] : List Keyword).isEmpty then 0 else 1) < 30)) = true := by rfl)
    (hline : (ap.endLine == cp.line) = true := by rfl) (hs : starEach [.Constant (.int 0) j3 pi] X.env = (false, eval (.Constant (.int 0) j3 pi) X.env) :: starEach [] X.env := by rfl) :
    PE X (.Call (.Attribute (.Subscript (.Name x p) (.Constant (.str "great") j p2) pb) "pop" ap) [.Constant (.int 0) j3 pi] [] cp) (tE P E (ePop0 i)) :=
  PE.mono (pe_bm PySem.F.plainAttrs_list PySem.F.slot_list_pop PySem.F.type_list_pop mt_popAt (pe_dget (by omega) (pe_var (i := i) hN hv hd hcd) pe_str fun _ _ => rfl) (pa_cons pe_int pa_nil hs) hbase hfew hline hs rfl) fun σ H Q ⟨G, env, s, fs, c⟩ => by
    unfold ePop0 at c
    split at c
    · rename_i e
      cases hg : s.great with
      | nil => rw [hg] at c; exact c.elim
      | cons g gs =>
        rw [hg] at c
        have hG : H G.T.g = some (.lst ((g :: gs).map V.int)) := by rw [← hg]; exact fs.st.2.1
        refine ⟨.ref G.T.a, im_st fs e, G.T.a, .ref G.T.g, rfl, DGet.k (k := .inr "great") fs.st.1, tyV_lst hG, ?_⟩
        refine ⟨G.T.g, (g :: gs).map V.int, 0, 0, .int g, rfl, rfl, hG, by decide, by decide, ?_, rfl, ?_⟩
        · rw [List.length_map, List.length_cons]
          unfold seqIndex?
          simp
        · exact c _ _ (fs.go Ext.g (fs.st.pop (g := g))) Ext.g (show Rep _ _ _ _ _ _ from .int g)
    · exact c.elim
/-- the cells, walked -/
theorem s_forC (i : Nat) {tg : Expr} {t : Tgt} {b : Stm} {body : List Stmt} {pb : Pos} (hp : PassesOwn (model X.prog X.w) X.A X.env X.xe) (hc : X.calm = true) (hu : X.A.units + 64 < cLine) (hg : PG X tg (gT P.K t)) (hb : PSs X body (tS P E b)) (hN : X.N[i]? = some x := by rfl) (hv : Vis X.env.scope x := by first | exact Or.inl rfl | exact Or.inr (Or.inl rfl) | exact Or.inr (Or.inr rfl)) (hd : (x == ("__debug__" : Str)) = false := by decide +kernel) (hcd : (x == ("__classdict__" : Str)) = false := by decide +kernel)
    (hs : ∀ v, foldedSetIterable (.Subscript (.Name x p) (.Constant (.str "cells") j p2) pb) X.env v = pure v := by intro _; rfl) :
    PS X (.For tg (.Subscript (.Name x p) (.Constant (.str "cells") j p2) pb) body [] pos) (tS P E (sForC i t b)) :=
  PS.mono (ps_for hp hc (pi_list (pe_dget (by omega) (pe_var (i := i) hN hv hd hcd) pe_str fun _ _ => rfl)) hg hb hs) fun D σ H ⟨G, env, s, fs, c⟩ => by
    unfold sForC at c
    split at c
    · rename_i e
      refine ⟨.ref G.T.a, im_st fs e, G.T.a, .ref G.T.c, rfl, DGet.k (k := .inr "cells") fs.st.1, G.T.c, rfl, ⟨_, SqL.of fs.st.2.2.1⟩, ?_⟩
      refine for_it (walk_list (xs := s.cells.map V.int)) (fun n σ H => ∃ env s', FS P G σ H env s' ∧ s'.cells = s.cells ∧ ContS P E G (forC s.cells t b ((s.cells.map Ev.D.int).drop n) env s') D) ⟨env, s, fs, rfl, c⟩ (fun n σ H _ ⟨env, s', f, q, _⟩ => ?_) (fun n x σ H H' lt ⟨env, s', f, q, c⟩ y => ?_) fun σ H ⟨env, s', f, q, c⟩ => ?_
      · have z := f.st.2.2.1
        rw [q] at z
        exact SqL.of z
      · obtain ⟨rfl, y⟩ := y
        rw [List.length_map] at lt
        have ed : (s.cells.map Ev.D.int).drop n = .int s.cells[n] :: (s.cells.map Ev.D.int).drop (n + 1) := by
          rw [List.drop_eq_getElem_cons (by rw [List.length_map]; exact lt), List.getElem_map]
        rw [List.getElem?_map, List.getElem?_eq_getElem lt] at y
        obtain rfl := Option.some.inj y
        rw [ed] at c
        unfold forC at c
        cases hpt : t.put (.int s.cells[n]) env with
        | none => rw [hpt] at c; exact c.elim
        | some env' =>
          rw [hpt] at c
          refine t_put t f (.int _) hpt fun σ' f' _ => ⟨G, env', s', f', ?_⟩
          have c : ContS P E G (match b env' s' with
            | .nx env s1 => if s1.cells = s.cells then forC s.cells t b ((s.cells.map Ev.D.int).drop (n + 1)) env s1 else .stuck
            | .ct env s1 => if s1.cells = s.cells then forC s.cells t b ((s.cells.map Ev.D.int).drop (n + 1)) env s1 else .stuck
            | .bk env s => .nx env s
            | o => o) D := c
          have go : ∀ {e2 : Lo} {s2 : DS}, ContS P E G (if s2.cells = s.cells then forC s.cells t b ((s.cells.map Ev.D.int).drop (n + 1)) e2 s2 else .stuck) D → s2.cells = s.cells ∧ ContS P E G (forC s.cells t b ((s.cells.map Ev.D.int).drop (n + 1)) e2 s2) D := fun {e2 s2} z => by
            by_cases w : s2.cells = s.cells
            · rw [if_pos w] at z
              exact ⟨w, z⟩
            · rw [if_neg w] at z
              exact z.elim
          cases hbd : b env' s' with
          | nx e2 s2 => rw [hbd] at c; exact fun σ H f => ⟨e2, s2, f, go c⟩
          | ct e2 s2 => rw [hbd] at c; exact fun σ H f => ⟨e2, s2, f, go c⟩
          | bk e2 s2 => rw [hbd] at c; exact fun σ H f => c σ H f
          | rt r s2 => rw [hbd] at c; exact c
          | exc c' p s2 => rw [hbd] at c; exact c
          | stuck => rw [hbd] at c; exact c
      · rw [List.length_map] at c
        rw [show (s.cells.map Ev.D.int).drop s.cells.length = [] by rw [← List.length_map (f := Ev.D.int), List.drop_length]] at c
        exact c σ H f
    · exact c.elim
end
end
end Ev

/-! Ev19: small helps for printed proofs: own work. -/
namespace Ev
open PySem PySem.Spec PyProof.Rows L2
theorem un64 {k : Nat} {A : Around} (h : Room k A) : A.units + 64 < cLine := by
  have := h.un
  omega
theorem un1 {k : Nat} {A : Around} (h : Room k A) : A.units + 1 < cLine := by
  have := h.un
  omega
theorem hp_of (Pg : Program) (w : World) (K : PySem.W.Frag) (mg : Str → Option Value) (base : Heap) (N : List Str) (qual : Str) (scope : Scope) (f : Addr) (cd : Value) (A : Around) (outer : List Env) (s : Shared) (H : Hp) (E : XK) :
    PassesOwn (model (cxOf (L2.CX Pg w) Pg w K mg base N qual scope f cd A outer s H E).prog (cxOf (L2.CX Pg w) Pg w K mg base N qual scope f cd A outer s H E).w) (cxOf (L2.CX Pg w) Pg w K mg base N qual scope f cd A outer s H E).A (cxOf (L2.CX Pg w) Pg w K mg base N qual scope f cd A outer s H E).env (cxOf (L2.CX Pg w) Pg w K mg base N qual scope f cd A outer s H E).xe :=
  passes_of (X := cxOf (L2.CX Pg w) Pg w K mg base N qual scope f cd A outer s H E) rfl
theorem hx_of (Pg : Program) (w : World) (K : PySem.W.Frag) (mg : Str → Option Value) (base : Heap) (N : List Str) (qual : Str) (scope : Scope) (f : Addr) (cd : Value) (A : Around) (outer : List Env) (s : Shared) (H : Hp) (E : XK) :
    Passes (L2.CX Pg w) (cxOf (L2.CX Pg w) Pg w K mg base N qual scope f cd A outer s H E) E :=
  passes_call (X := cxOf (L2.CX Pg w) Pg w K mg base N qual scope f cd A outer s H E) (takes_of (E := E) rfl rfl rfl rfl) fun _ _ _ _ z => z
theorem hx0 {X : Cx} : Passes (L2.CX X.prog X.w) X E0 := passes_call LamX.takes0 fun _ _ _ _ z => z
end Ev

/-! Ev20: chains, slices, truth values compared: own work. -/
namespace Ev
open PySem PySem.Spec PyProof.Rows L2
section
variable {X : Cx} {P : Pm} {E : XK} {σ : L2.St} {H : Hp}
/-! ### a < b < c -/
theorem t_chain {o o' : D → D → Option Bool} {r r' : R2} {f g h : Sm D} {Q' : Bool → Hp → Prop} {Q : VK} (ok : Ok2T P.K o r) (ok' : Ok2T P.K o' r') (q : tT P E (tChain o o' f g h) σ H Q') (m : ∀ k H1, Q' k H1 → Q (.bl k) H1) :
    L2.tChain r r' (tO P E f) (tO P E g) (tO P E h) σ H Q := by
  refine (tG_bind (R1 := RO P) (k := fun x env s => (g env s).bind fun y s => (lift (o x y) s).bind fun k s => if k then (h env s).bind fun z s => lift (o' y z) s else .ok false s) q).mono fun v H1 ⟨G, env, s, x, f1, e1, r1, c, s0, f0⟩ => ?_
  refine (Cont_bind (R1 := RO P) f1 e1 c).mono fun w H2 ⟨s2, y, f2, e2, r2, c2⟩ => ?_
  cases hz : o x y with
  | none => rw [hz] at c2; exact c2.elim
  | some z =>
    rw [hz] at c2
    have r1' := RepP.ext (P := P) r1 f1 e2
    refine ok G.T (Mx G σ env) (Own σ env) H2 v w x y z _ r1' r2 hz ⟨z, rfl, ?_⟩
    cases z with
    | false =>
      rw [if_neg Bool.false_ne_true]
      exact m false H2 (c2 false H2 f2 (e1.trans e2) rfl)
    | true =>
      rw [if_pos rfl]
      refine (Cont_bind (R1 := RO P) (Q := Q') f2 (e1.trans e2) (show Cont P E G σ env H (RB P G σ env H) ((h env s2).bind fun z s => lift (o' y z) s) Q' from c2)).mono fun u H3 ⟨s3, z, f3, e3, r3, c3⟩ => ?_
      cases hz' : o' y z with
      | none => rw [hz'] at c3; exact c3.elim
      | some z' =>
        rw [hz'] at c3
        exact ok' G.T (Mx G σ env) (Own σ env) H3 w u y z z' _ (RepP.ext (P := P) r2 f2 e3) r3 hz' (m z' H3 (c3 z' H3 f3 ((e1.trans e2).trans e3) rfl))
/-- a comparison of whole numbers, by its sign -/
inductive Cmp : CmpOp → (D → D → Option Bool) → Prop where
  | oLt : Cmp .Lt Ev.oLt | oLe : Cmp .LtE Ev.oLe | oGt : Cmp .Gt Ev.oGt | oGe : Cmp .GtE Ev.oGe
theorem Cmp.ok {op : CmpOp} {o : D → D → Option Bool} (c : Cmp op o) {K : PySem.W.Frag} : ∃ r, OpR X (compareOp op) r ∧ Ok2T K o r := by
  cases c with
  | oLt => exact ⟨_, op_lt, ok_lt⟩
  | oLe => exact ⟨_, op_le, ok_le⟩
  | oGt => exact ⟨_, op_gt, ok_gt⟩
  | oGe => exact ⟨_, op_ge, ok_ge⟩
theorem x_chain {op op' : CmpOp} {o o' : D → D → Option Bool} {a b c : Expr} {f g h : Sm D} {pos : Pos} (k : Cmp op o) (k' : Cmp op' o') (ha : PE X a (tO P E f)) (hb : PE X b (tO P E g)) (hc : PE X c (tO P E h)) (hm : lastMarks [op, op'] [b, c] = false := by with_unfolding_all rfl) :
    XT X P E (.Compare a [op, op'] [b, c] pos) (tChain o o' f g h) := by
  obtain ⟨r, h1, h2⟩ := k.ok (X := X) (K := P.K)
  obtain ⟨r', h1', h2'⟩ := k'.ok (X := X) (K := P.K)
  exact ⟨PE.mono (pe_chain h1 h1' ha hb hc hm) fun _ _ _ q => t_chain h2 h2' q fun _ _ z => z, PT.mono (pt_chain h1 h1' ha hb hc hm) fun _ _ _ q => t_chain h2 h2' q fun k _ z => ⟨k, rfl, z⟩⟩
/-! ### slices -/
theorem Reps.cut {K : PySem.W.Frag} {T : Tk} {M : Addr → Prop} {vs : List V} {ds : List D} (r : Reps K T M H vs ds) (lo hi : Option Int) : Reps K T M H (cutV vs lo hi) (cutD ds lo hi) := by
  unfold cutV cutD
  rw [r.len]
  exact (r.drop _).take _
theorem cutD_whole {α : Type} {xs : List α} {lo hi : Option Int} (h : HT.sIx xs.length 0 lo = 0 ∧ HT.sIx xs.length xs.length hi = xs.length) : cutD xs lo hi = xs := by
  unfold cutD
  rw [h.1, h.2]
  simp
def rSl (K : PySem.W.Frag) : V → Option Int → Option Int → Hp → VK → Prop := fun x lo hi H Q => rSlL K x lo hi H Q ∨ rSlA K x lo hi H Q ∨ rSlS x lo hi H Q
theorem sl_all : SlR X (rSl X.K) := SlR.or sl_list (SlR.or sl_tupA sl_str)
/-- the part of a slice -/
def TPart (P : Pm) (E : XK) (X : Cx) (e : Option Expr) (f : Option (Sm D)) : Prop := match e, f with
  | none, none => True
  | some e, some f => PE X e (tO P E f)
  | _, _ => False
theorem po_of {e : Option Expr} {f : Option (Sm D)} (h : TPart P E X e f) : PO X e (fun σ H Q => tG P E (fun G σ env H0 H (v d : Option Int) => v = d) (optI f) σ H Q) := by
  cases e with
  | none => cases f with
    | some _ => exact h.elim
    | none =>
      refine ⟨fun pins s σ H Q I ⟨G, env, s', fs, c⟩ => po_none.run pins s σ H Q I ?_⟩
      exact c none H fs (Ext.refl _ _) rfl
  | some e => cases f with
    | none => exact h.elim
    | some f =>
      have h : PE X e (tO P E f) := h
      refine ⟨fun pins s σ H Q I q => (po_some h).run pins s σ H Q I ?_⟩
      refine (tG_bind (R1 := RO P) (k := fun x env s => match x with
        | .int i => .ok (some i) s
        | _ => .stuck) q).mono fun v H1 ⟨G, env, s, x, f1, e1, r1, c, s0, f0⟩ => ?_
      cases x with
      | int i =>
        have r1 : RepP _ _ _ _ _ v (.int i) := r1
        exact ⟨i, r1.int, c (some i) H1 f1 e1 rfl⟩
      | _ => exact c.elim
theorem x_slP {a : Expr} {lo hi : Option Expr} {f : Sm D} {l u : Option (Sm D)} {p2 pos : Pos} (ha : PE X a (tO P E f)) (hl : TPart P E X lo l) (hu : TPart P E X hi u) (hK : P.K = X.K := by rfl) : PE X (.Subscript a (.Slice lo hi none p2) pos) (tE P E (eSl f l u)) :=
  PE.mono (pe_slice sl_all ha (po_of hl) (po_of hu)) fun σ H Q q => by
    refine (tG_bind (R1 := RO P) (k := fun x env s => (optI l env s).bind fun i s => (optI u env s).bind fun j s => lift (oSlice x i j) s) q).mono fun v H1 ⟨G, env, s, x, f1, e1, r1, c, s0, f0⟩ => ?_
    refine (Cont_bind (R1 := fun G σ env H0 H (v d : Option Int) => v = d) f1 e1 c).mono fun i H2 ⟨s2, i', f2, e2, r2, c2⟩ => ?_
    refine (Cont_bind (R1 := fun G σ env H0 H (v d : Option Int) => v = d) f2 (e1.trans e2) c2).mono fun j H3 ⟨s3, j', f3, e3, r3, c3⟩ => ?_
    obtain rfl : i = i' := r2
    obtain rfl : j = j' := r3
    have rx := RepP.ext (P := P) r1 f1 (e2.trans e3)
    have ee := (e1.trans e2).trans e3
    rw [← hK]
    cases x with
    | lst xs =>
      obtain ⟨p, vs, rfl, h1, h2, h3⟩ := rx.lst
      refine .inl ⟨p, vs, rfl, SqL.of h1, fun q hq => c3 _ _ (f3.same (Same.new hq)) (ee.trans (.of (Same.new hq))) ?_⟩
      exact RepR.from (RepR.newL hq (Nat.le_trans (cutV_length vs i j) h2) (h3.cut i j)) fun p z => FS.dm f0.st ((Ext.refl _ _)) (FS.dm f3.st ee z)
    | tup xs =>
      obtain ⟨p, vs, rfl, h1, h2, h3⟩ := rx.tup
      refine .inr (.inl ⟨p, vs, rfl, h1, fun hw => ?_, fun _ q hq => ?_⟩)
      · rw [h3.len] at hw
        have c3 : Cont P E G σ env H (RE P G σ env H) (.ok (.im (.tup (cutD xs i j))) s3) Q := c3
        rw [cutD_whole hw] at c3
        exact c3 _ _ f3 ee (show Rep _ _ _ _ _ _ from .tup h1 h2 h3)
      · exact c3 _ _ (f3.same (Same.new hq)) (ee.trans (.of (Same.new hq))) (RepR.newT hq (Nat.le_trans (cutV_length vs i j) h2) (Reps.new hq (h3.cut i j)))
    | str x =>
      obtain ⟨rfl, h1⟩ := rx.str
      exact .inr (.inr ⟨x, rfl, h1, c3 _ _ f3 ee (show Rep _ _ _ _ _ _ from .str _ (Nat.le_trans (cutS_length x i j) h1))⟩)
    | _ => exact c3.elim
section
variable {a b c : Expr} {f g h : Sm D} {p2 pos : Pos}
theorem x_sl (ha : PE X a (tO P E f)) (hK : P.K = X.K := by rfl) : PE X (.Subscript a (.Slice none none none p2) pos) (tE P E (eSl f none none)) := x_slP ha True.intro True.intro hK
theorem x_slL (ha : PE X a (tO P E f)) (hb : PE X b (tO P E g)) (hK : P.K = X.K := by rfl) : PE X (.Subscript a (.Slice (some b) none none p2) pos) (tE P E (eSl f (some g) none)) := x_slP ha (show TPart P E X (some b) (some g) from hb) True.intro hK
theorem x_slH (ha : PE X a (tO P E f)) (hc : PE X c (tO P E h)) (hK : P.K = X.K := by rfl) : PE X (.Subscript a (.Slice none (some c) none p2) pos) (tE P E (eSl f none (some h))) := x_slP ha True.intro (show TPart P E X (some c) (some h) from hc) hK
theorem x_slLH (ha : PE X a (tO P E f)) (hb : PE X b (tO P E g)) (hc : PE X c (tO P E h)) (hK : P.K = X.K := by rfl) : PE X (.Subscript a (.Slice (some b) (some c) none p2) pos) (tE P E (eSl f (some g) (some h))) := x_slP ha (show TPart P E X (some b) (some g) from hb) (show TPart P E X (some c) (some h) from hc) hK
end
theorem s_no {st : Stmt} : PS X st (tS P E sNo) := ⟨fun pins s σ H D I ⟨G, env, s', fs, c⟩ => c.elim⟩
end
end Ev

/-! Ev21: is True, is False; repr: own work. -/
namespace Ev
open PySem PySem.Spec PyProof.Rows L2
section
variable {X : Cx} {P : Pm} {E : XK}
def rIsBA : R2 := fun x y H Q => ∃ b : Bool, y = .bl b ∧ (∀ n, x ≠ .ty n) ∧ Q (.bl (decide (x = .bl b))) H
def rNotBA : R2 := fun x y H Q => ∃ b : Bool, y = .bl b ∧ (∀ n, x ≠ .ty n) ∧ Q (.bl (!decide (x = .bl b))) H
theorem bl_rel {x : V} {v : Value} {b : Bool} (r : RelV x v) (n : ∀ n, x ≠ .ty n) : plainIs v (.bool b) = true ∧ (v = .bool b ↔ x = .bl b) := by
  cases x with
  | bl c =>
    cases r
    exact ⟨rfl, ⟨fun z => by cases z; rfl, fun z => by cases z; rfl⟩⟩
  | non => cases r; exact ⟨rfl, ⟨fun z => (by cases z), fun z => (by cases z)⟩⟩
  | int i => obtain ⟨t, rfl⟩ := r; exact ⟨rfl, ⟨fun z => (by cases z), fun z => (by cases z)⟩⟩
  | str i => obtain ⟨t, rfl⟩ := r; exact ⟨rfl, ⟨fun z => (by cases z), fun z => (by cases z)⟩⟩
  | byt i => obtain ⟨t, rfl⟩ := r; exact ⟨rfl, ⟨fun z => (by cases z), fun z => (by cases z)⟩⟩
  | flt i => obtain ⟨t, rfl⟩ := r; exact ⟨rfl, ⟨fun z => (by cases z), fun z => (by cases z)⟩⟩
  | ref i => cases r; exact ⟨rfl, ⟨fun z => (by cases z), fun z => (by cases z)⟩⟩
  | ty m => exact absurd rfl (n m)
theorem op_isBA : OpR X (compareOp .Is) rIsBA := by
  intro pins s σ H x y v u Q I rx ry h
  obtain ⟨b, rfl, hn, q⟩ := h
  cases (show u = Value.bool b from ry)
  obtain ⟨h1, h2⟩ := bl_rel (b := b) rx hn
  by_cases e : x = .bl b
  · rw [decide_eq_true e] at q
    obtain rfl := h2.mpr e
    exact wpAny_is_self rfl ⟨.bl true, H, I, rfl, q⟩
  · rw [decide_eq_false e] at q
    exact wpAny_is_other h1 (fun z => e (h2.mp z)) ⟨.bl false, H, I, rfl, q⟩
theorem op_notBA : OpR X (compareOp .IsNot) rNotBA := by
  intro pins s σ H x y v u Q I rx ry h
  obtain ⟨b, rfl, hn, q⟩ := h
  cases (show u = Value.bool b from ry)
  obtain ⟨h1, h2⟩ := bl_rel (b := b) rx hn
  by_cases e : x = .bl b
  · rw [decide_eq_true e] at q
    obtain rfl := h2.mpr e
    exact wpAny_isNot_self rfl ⟨.bl false, H, I, rfl, q⟩
  · rw [decide_eq_false e] at q
    exact wpAny_isNot_other h1 (fun z => e (h2.mp z)) ⟨.bl true, H, I, rfl, q⟩
theorem isBl_rep {K : PySem.W.Frag} {T : Tk} {M O : Addr → Prop} {H : Hp} {v : V} {x : D} {b : Bool} (h : RepP K T M O H v x) : (∀ n, v ≠ .ty n) ∧ decide (v = V.bl b) = x.isBl b := by
  rcases h with h | ⟨_, _, _, rfl, rfl, _⟩
  · cases h with
    | bl c => exact ⟨fun n z => (by cases z), by cases b <;> cases c <;> rfl⟩
    | _ => exact ⟨fun n z => (by cases z), rfl⟩
  · exact ⟨fun n z => (by cases z), rfl⟩
section
variable {a : Expr} {f : Sm D} {pos pos' : Pos} {j : Nat} {b : Bool}
theorem x_isB (ha : PE X a (tO P E f)) : XT X P E (.Compare a [.Is] [.Constant (.bool b) j pos'] pos) (tIsB b f) :=
  have g : ∀ {σ : L2.St} {H : Hp} {Q' : Bool → Hp → Prop} {Q : VK}, tT P E (tIsB b f) σ H Q' → (∀ k H1, Q' k H1 → Q (.bl k) H1) → tOp rIsBA (tO P E f) (tC (.bl b)) σ H Q := fun h m =>
    t_t1 (k := D.isBl b) (r := fun v H Q => rIsBA v (.bl b) H Q) (fun T M O H v x Q r q => ⟨b, rfl, (isBl_rep (b := b) r).1, by rw [(isBl_rep r).2]; exact q H (Same.refl H)⟩) h m
  ⟨PE.mono (pe_cmpR op_isBA ha pe_bl (nomark _)) fun _ _ _ h => g h fun _ _ q => q, PT.mono (pt_cmpR op_isBA ha pe_bl (nomark _)) fun _ _ _ h => g h fun k _ q => ⟨k, rfl, q⟩⟩
theorem x_notB (ha : PE X a (tO P E f)) : XT X P E (.Compare a [.IsNot] [.Constant (.bool b) j pos'] pos) (tNot (tIsB b f)) :=
  have g : ∀ {σ : L2.St} {H : Hp} {Q' : Bool → Hp → Prop} {Q : VK}, tT P E (tNot (tIsB b f)) σ H Q' → (∀ k H1, Q' k H1 → Q (.bl k) H1) → tOp rNotBA (tO P E f) (tC (.bl b)) σ H Q := fun {σ H Q' Q} h m => by
    have h' : tT P E (fun env s => (f env s).bind fun x s => .ok (!x.isBl b) s) σ H Q' := by
      obtain ⟨G, env, s, fs, c⟩ := h
      refine ⟨G, env, s, fs, ?_⟩
      have e : tNot (tIsB b f) env s = ((f env s).bind fun x s => .ok (!x.isBl b) s) := by
        unfold tNot tIsB
        cases f env s <;> rfl
      rw [e] at c
      exact c
    exact t_t1 (k := fun x => !x.isBl b) (r := fun v H Q => rNotBA v (.bl b) H Q) (fun T M O H v x Q r q => ⟨b, rfl, (isBl_rep (b := b) r).1, by rw [(isBl_rep r).2]; exact q H (Same.refl H)⟩) h' m
  ⟨PE.mono (pe_cmpR op_notBA ha pe_bl (nomark _)) fun _ _ _ h => g h fun _ _ q => q, PT.mono (pt_cmpR op_notBA ha pe_bl (nomark _)) fun _ _ _ h => g h fun k _ q => ⟨k, rfl, q⟩⟩
end
/-! ### repr -/
def rRepr (K : PySem.W.Frag) : R1 := fun xs H Q => ∃ x d, xs = [x] ∧ Dp K H x d ∧ d.showable = true ∧ d.hasDict = false ∧ d.depth ≤ 64 ∧ d.shown.length ≤ sizeLine ∧ Q (.str d.shown) H
theorem call_reprD (hA : X.A.guards = some []) (hu : X.A.units + 66 < cLine) : CallR X (.builtin "repr") (rRepr X.K) := by
  intro pins s σ H xs us Q I r h
  obtain ⟨x, d, rfl, dp, h1, h2, h3, h4, q⟩ := h
  obtain ⟨u, rfl, ru⟩ := vals1 r
  obtain ⟨as, rd⟩ := Dp.reads I d x u dp ru
  cases rd with
  | none => exact PySem.P.repr_of_none ⟨.str _, H, I.tok _, ⟨_, rfl⟩, by unfold PyData.shown at q; exact q⟩
  | bool b => exact PySem.P.repr_of_bool ⟨.str _, H, I.tok _, ⟨_, rfl⟩, by unfold PyData.shown at q; exact q⟩
  | int i t => exact PySem.P.repr_of_int (by simpa [PyData.showable] using h1) ⟨.str _, H, I.tok _, ⟨_, rfl⟩, by unfold PyData.shown at q; exact q⟩
  | str y t => exact PySem.P.repr_of_str ⟨.str _, H, I.tok _, ⟨_, rfl⟩, by unfold PyData.shown at q; exact q⟩ (by unfold PyData.shown at h4; exact h4)
  | list a1 a2 a3 a4 => exact repr_of_reads' (.list a1 a2 a3 a4) h1 (PyData.noDict_hsm h2) hA (by omega) (fun _ _ e => e) (fun h' u tk hk => ⟨.str _, H, I.kept (t' := tk) hk, ⟨_, rfl⟩, q⟩) h4
  | tuple a1 a2 a3 a4 => exact repr_of_reads' (.tuple a1 a2 a3 a4) h1 (PyData.noDict_hsm h2) hA (by omega) (fun _ _ e => e) (fun h' u tk hk => ⟨.str _, H, I.kept (t' := tk) hk, ⟨_, rfl⟩, q⟩) h4
  | dict a1 a2 a3 a4 a5 => cases h2
mutual
theorem py_noDict : ∀ d : D, d.py.hasDict = false
  | .non | .bl _ | .int _ | .str _ | .edic | .st | .exc _ _ | .scr _ => by simp [D.py, PyData.hasDict]
  | .tup xs => by
    have z := pys_noDict xs
    simpa [D.py, PyData.hasDict] using z
  | .lst xs => by
    have z := pys_noDict xs
    simpa [D.py, PyData.hasDict] using z
theorem pys_noDict : ∀ ds : List D, PyData.hasDictAll (D.py.pyAll ds) = false
  | [] => by simp [D.py.pyAll, PyData.hasDictAll]
  | d :: ds => by
    have z1 := py_noDict d
    have z2 := pys_noDict ds
    simp [D.py.pyAll, PyData.hasDictAll, z1, z2]
end
theorem x_repr {p pos : Pos} {a : Expr} {f : Sm D} {k : Nat} (hA : X.A.guards = some []) (hr : Room k X.A) (hm : X.mg "repr" = none) (ha : PE X a (tO P E f)) (hg : Gl X "repr" := by rfl) (hs : starEach [a] X.env = (false, eval a X.env) :: starEach [] X.env := by rfl) (hK : P.K = X.K := by rfl) :
    PE X (.Call (.Name "repr" p) [a] [] pos) (tE P E (e1 oRepr f)) :=
  x_cb1 (call_reprD hA (by have := hr.un; omega)) (fun T M O H v x z Q fr rx e q => by
    unfold oRepr at e
    by_cases h : x.shw = true
    · rw [if_pos h] at e
      cases e
      have h' : ((x.ok = true ∧ x.py.showable = true) ∧ x.py.depth ≤ 64) ∧ x.py.shown.length ≤ sizeLine := by simpa [D.shw, Bool.and_eq_true, and_assoc] using h
      rw [← hK]
      exact ⟨v, x.py, rfl, rx.dp h'.1.1.1, h'.1.1.2, py_noDict x, h'.1.2, h'.2, q _ H (Same.refl H) (show Rep _ _ _ _ _ _ from .str _ h'.2)⟩
    · rw [if_neg h] at e
      cases e) (by decide +kernel) hm hg ha hs (by decide +kernel) (by decide +kernel)
end
end Ev

/-! Ev22: refusals: own work. -/
namespace Ev
open PySem PySem.Spec PyProof.Rows L2
/-- a class of refusals without an own __init__ -/
structure ExF (P : Pm) (mg : Str → Option Value) (c : Str) : Prop where
  ex : ∃ C : Addr, mg c = some (.ref C) ∧ PySem.W.excIn P.K C [.type "ValueError", .type "Exception", .type "BaseException", .type "object"] "ValueError.__new__" = true ∧ PySem.W.keepIn P.K (.ref C) = true ∧
    PySem.W.subIn P.K (.ref C) (.type "BaseException") = some true ∧ PySem.W.typeIn P.K (.ref C) = some (.type "type") ∧ ∀ H, P.xi c .non (.ref C) none H
section
variable {X : Cx} {P : Pm} {E : XK}
theorem s_raise {x : Str} {e : Expr} {f : Sm RV} {p pos pos' : Pos} (F : ExF P X.mg x) (hc : X.calm = true) (tk : Takes X (fun cls d _ H => E cls d H)) (he : PE X e (tE P E f)) (hg : Gl X x := by rfl) (hs : starEach [e] X.env = (false, eval e X.env) :: starEach [] X.env := by rfl)
    (hdb : (x == ("__debug__" : Str)) = false := by decide +kernel) (hK : P.K = X.K := by rfl) : PS X (.Raise (some (.Call (.Name x p) [e] [] pos)) none pos') (tS P E (sRaiseM x f)) := by
  obtain ⟨C, h1, h2, h3, h4, h5, h6⟩ := F.ex
  rw [hK] at h2 h3 h4 h5
  refine PS.mono (ps_raise hc tk (SkE.pmk_own1 PySem.F.excBase_ValueError h2 h1 h3 (raises_own h4 h5) hg he hs hdb)) fun D σ H q => ?_
  refine (out_bind (R1 := RE P) (k := fun (r : RV) env s => Out.exc x .non s) q).mono fun v H1 ⟨G, env, s, r, f1, e1, r1, c, s0, f0⟩ => ?_
  exact c (.ref C) none H1 f1.st f1.ext (h6 H1)
end
theorem tk_of (Pg : Program) (w : World) (K : PySem.W.Frag) (mg : Str → Option Value) (base : Heap) (N : List Str) (qual : Str) (scope : Scope) (f : Addr) (cd : Value) (A : Around) (outer : List Env) (s : Shared) (H : Hp) (E : XK) :
    Takes (cxOf (L2.CX Pg w) Pg w K mg base N qual scope f cd A outer s H E) (fun cls d _ H => E cls d H) := takes_of (E := E) rfl rfl rfl rfl
end Ev

set_option maxHeartbeats 2000000
/-! Ev23: errors that are kept; functions without a name: own work. -/
namespace Ev
open PySem PySem.Spec PyProof.Rows L2
/-- an object that stands, of which something is known from now on -/
theorem adopt {X : Cx} {pins : List (Addr × Obj)} {σ : L2.St} {H : Hp} {s : Shared} {a : Addr} {oe : Obj} {vs : Array Value} {φ : Heap → Prop} (I : Inv X pins σ H s) (ha : s.heap.get? a = some oe) (hd : oe.data = .fields vs ∨ ∃ fd, oe.data = .func fd) (na : H a = none) (nL : a ≠ X.env.locals)
    (n0 : X.s_0.heap.get? a = none) (np : ∀ p ∈ X.pn ++ pins, p.1 ≠ a) (hφ : φ s.heap) (st : ∀ h1 h2 : Heap, φ h1 → (∀ o, h1.get? a = some o → h2.get? a = some o) → φ h2) : Inv X pins σ (upd H a (.ext φ)) s := by
  have at_ : ∀ {b : Addr} {u : HO}, H b = some u → b ≠ a := fun {b u} e z => by rw [z, na] at e; cases e
  refine ⟨I.ok, I.os, I.bare, ⟨I.base.keep, I.base.slot, fun b o e n x => ?_, I.base.there, fun b xs e => ?_, fun b o u e => ?_, fun b ps e => ?_⟩, I.loc, I.cell, ?_, fun x c e => ?_, fun p hp => ?_, fun b u e => ?_, I.len⟩
  · rw [upd_ne fun z => by rw [z, n0] at e; cases e]
    exact I.base.free b o e n x
  · have z := I.base.tups b xs e
    rw [upd_ne (at_ z)]
    exact z
  · have z := I.base.frzs b o u e
    rw [upd_ne (at_ z)]
    exact z
  · obtain ⟨more, z⟩ := I.base.tbls b ps e
    exact ⟨more, by rw [upd_ne (at_ z)]; exact z⟩
  · rw [upd_ne (Ne.symm nL)]
    exact I.free
  · obtain ⟨v, o, h1, h2⟩ := I.cell x c e
    rw [upd_ne fun z => by
      rw [z, ha] at h1
      cases h1
      rcases hd with hd | ⟨fd, hd⟩ <;> rw [hd] at h2 <;> cases h2]
    exact I.freeC x c e
  · obtain ⟨h1, h2, h3⟩ := I.pin p hp
    exact ⟨h1, by rw [upd_ne (np p hp)]; exact h2, h3⟩
  · by_cases q : b = a
    · subst q
      rw [upd_same] at e
      cases e
      exact ⟨hφ, ⟨oe, ha⟩, st⟩
    · rw [upd_ne q] at e
      exact (I.hok b u e).stay (fun c v _ z => z) (fun c z => by rw [upd_ne (at_ z)]; exact z) fun c xs z => by rw [upd_ne (at_ z)]; exact z
/-- what is known of a kept error -/
def ErrO (a : Addr) (cls : Value) (d : Option Addr) : Heap → Prop := fun h => ∃ (oe : Obj) (vs : Array Value), h.get? a = some oe ∧ oe.cls = cls ∧ oe.dict = d ∧ oe.data = .fields vs
/-- what the clause wishes: the suite, then the error is known -/
def wKeep (K : PySem.W.Frag) (c : Value) (i : Nat) (ts : Addr → TS) (D : Ends) : WX := fun cls d σ H =>
  PySem.W.exmOne K cls c = some true ∧ ∀ a, H a = none → ts a { nx := fun σ' H' => H' a = none → D.nx (σ'.set i none) (upd H' a (.ext (ErrO a cls d))), rt := fun _ _ => False, bk := fun _ _ => False, ct := fun _ _ => False } (σ.set i (some (.ref a))) H
theorem ps_keep {X : Cx} {x n : Str} {c : Value} {i : Nat} {body suite : List Stmt} {b0 : Stmt} {np pos pos' : Pos} {tb : WX → TS} {ts : Addr → TS} (hs : X.stack = X.env :: X.outer) (hf : X.env.frame = some X.env.locals) (hex : X.ex = []) (hN : X.N.Nodup) (hi : X.N[i]? = some n) (hln : X.env.kindOf n = some .local) (hc : Names X x c)
    (hb : ∀ (W : WX) (pn : List (Addr × Obj)) (xe : Value → Shared → Prop), Takes (X.tr pn xe) W → PSs (X.tr pn xe) body (tb W)) (hsu : ∀ (a : Addr) (oe : Obj) (pn : List (Addr × Obj)), PSs (X.suite a ((a, oe) :: pn)) (b0 :: suite) (ts a)) :
    PS X (.Try body [.ExceptHandler (some (.Name x np)) (some n) (b0 :: suite) pos'] [] [] pos) (fun D σ H => tb (wKeep X.K c i ts D) D σ H) := by
  refine ⟨fun pins s σ H D I h => ?_⟩
  have ok := I.ok
  have hfr : X.A.frames = some (X.env :: X.outer) := ok.frames.trans (congrArg some hs)
  refine wpAny_Try_except (wpAny_mono ((hb (wKeep X.K c i ts D) (X.pn ++ pins) (fun e s₁ => wpAny (model X.prog X.w) X.A (noteFrame e X.env) (fun _ s₂ => wpAny (model X.prog X.w) X.A (setFlight e none) (fun _ s₃ =>
    wpAny (model X.prog X.w) X.A (handleBy e X.env [.ExceptHandler (some (.Name x np)) (some n) (b0 :: suite) pos']) (SP X pins D) X.xe s₃) X.xe s₂) X.xe s₁) (fun u s' air => ?_)).run [] s σ H D (I.toTry _) h) (fun f s1 hsp => ?_) (fun e s1 he => he))
  · obtain ⟨a, B, sI, pins', σ', H', cls, d, rfl, J', nb, up, sky, na, os, ag, hyes, hts⟩ := air
    have J : Inv X pins σ' H' sI := J'.ofTry ok
    rw [show (X.tr (X.pn ++ pins) _).stack = X.env :: X.outer from hs] at sky
    show wpAny (model X.prog X.w) X.A (noteFrame (.ref a) X.env) _ _ _
    refine Sky.land Zc.steady hfr hf sky fun h3 fl3 up3 => ?_
    have J3 : Inv X pins σ' H' { s' with heap := h3 } := J.landed nb fl3.1 (up.trans up3) os ag
    obtain ⟨oe3, vs3, he3, hz3, hd3⟩ := fl3.there
    have nfr : a ∉ frs (X.env :: X.outer) := fun hm => by
      obtain ⟨_, o', e', hnf⟩ := fl3.2.2.1.mem hm
      rw [he3] at e'
      cases e'
      exact hnf _ hd3
    have nL : a ≠ X.env.locals := fun z => nfr (List.mem_filterMap.mpr ⟨X.env, List.mem_cons_self, by rw [hf, z]⟩)
    have nF : a ∉ X.fs := fun hm => by
      obtain ⟨e, he, q⟩ := List.mem_filterMap.mp hm
      exact nfr (List.mem_filterMap.mpr ⟨e, List.mem_cons_of_mem _ he, q⟩)
    -- it did not stand ahead of the body
    have nI : sI.heap.get? a = none := by
      cases q : sI.heap.get? a with
      | none => rfl
      | some o =>
        have z := nb a o q (by rw [show (X.tr (X.pn ++ pins) _).stack = X.env :: X.outer from hs]; exact nfr)
        rw [fl3.2.1] at z
        cases z
    have n0 : X.s_0.heap.get? a = none := by
      cases q : X.s_0.heap.get? a with
      | none => rfl
      | some o =>
        obtain ⟨o', z⟩ := J.base.there a o q (by rw [hex]; simp)
        rw [nI] at z
        cases z
    have npn : ∀ p ∈ X.pn ++ pins, p.1 ≠ a := fun p hp z => by
      have q := (J.pin p hp).1
      rw [z, nI] at q
      cases q
    have S3 := J3.suite he3 hd3 na nL nF
    refine wpAny_handleBy_cons (codeAny_handlers_test ?_) (by intro q; cases q)
    have LT : PySem.W.Looks (model X.prog X.w) h3 (typeOf (.ref a)) cls := fun A Q E s k q => wpAny_typeOf_ref (k _ _ he3) (by rw [hz3.1]; exact q)
    have LM := PySem.W.exm_one (M := model X.prog X.w) (J3.kIn) LT hyes
    have nam : ∀ {Q : Value → Shared → Prop} {E : Value → Shared → Prop}, Q c { s' with heap := h3 } → wpAny (model X.prog X.w) (X.A.mark (some (.ref a))) (eval (.Name x np) X.env) Q E { s' with heap := h3 } := fun {Q E} q => by
      obtain ⟨hg, hdbg, hm | ⟨hm, hv, hnn⟩⟩ := hc
      · exact ld_glob (X := X.suite a ((a, oe3) :: (X.pn ++ pins))) S3 hg hm q hdbg
      · exact ld_blt (X := X.suite a ((a, oe3) :: (X.pn ++ pins))) S3 hg hm hv q hnn hdbg
    refine nam (LM.here (codeAny_handlers_suite_as (HandSPX.lands_againZ fl3 fun h4 fl4 up4 => ?_)))
    have J4 : Inv X pins σ' H' { s' with heap := h4 } := J.landed nb fl4.1 ((up.trans up3).trans up4) os ag
    obtain ⟨oe4, vs4, he4, hz4, hd4⟩ := fl4.there
    have S4 := J4.suite he4 hd4 na nL nF
    refine store_ok (X := X.suite a ((a, oe4) :: (X.pn ++ pins))) (v := .ref a) S4 hN hi (.inl hln) rfl (fun s5 S5 => ?_) (.inr hln)
    refine wpAny_mono ((hsu a oe4 (X.pn ++ pins)).run [] s5 _ H' _ S5 (hts a na)) (fun f s6 hsp => ?_) (fun _ _ z => False.elim z)
    cases f with
    | next =>
      obtain ⟨σ6, H6, S6, q6⟩ := hsp
      have U6 := S6.unsuite ok
      have pa := S6.pin (a, oe4) (List.mem_append_left _ (List.mem_cons_self ..))
      have K6 : Inv X ((a, oe4) :: pins) σ6 H6 s6 := U6.pins_of fun p hp => by
        rcases List.mem_cons.mp hp with z | z
        · rw [z]; exact pa
        · exact U6.pin p (List.mem_append_right _ z)
      refine gone_ok K6 hN hi hln fun s7 K7 => ?_
      have qa := K7.pin (a, oe4) (List.mem_append_right _ (List.mem_cons_self ..))
      have J7 : Inv X pins (σ6.set i none) H6 s7 := K7.pins_of fun p hp => K7.pin p (List.mem_append_right _ (List.mem_cons_of_mem _ hp))
      exact ⟨_, _, adopt J7 qa.1 (.inl hd4) qa.2.1 nL n0 npn ⟨oe4, vs4, qa.1, hz4.1, hz4.2, hd4⟩ (fun h1 h2 ⟨oe, vs, e1, e2⟩ st => ⟨oe, vs, st _ e1, e2⟩), q6 qa.2.1⟩
    | brk =>
      obtain ⟨σ6, H6, S6, q6⟩ := hsp
      exact q6.elim
    | cont =>
      obtain ⟨σ6, H6, S6, q6⟩ := hsp
      exact q6.elim
    | ret u =>
      obtain ⟨v6, σ6, H6, S6, r6, q6⟩ := hsp
      exact q6.elim
  · cases f with
    | next =>
      obtain ⟨σ', H', J', q⟩ := hsp
      exact wpAny_execs_nil ⟨σ', H', J'.ofTry ok, q⟩
    | brk => obtain ⟨σ', H', J', q⟩ := hsp; exact ⟨σ', H', J'.ofTry ok, q⟩
    | cont => obtain ⟨σ', H', J', q⟩ := hsp; exact ⟨σ', H', J'.ofTry ok, q⟩
    | ret u => obtain ⟨v, σ', H', J', r, q⟩ := hsp; exact ⟨v, σ', H', J'.ofTry ok, r, q⟩
end Ev

set_option maxHeartbeats 2000000
/-! Ev24: functions without a name, made and called: own work. -/
namespace Ev
open PySem PySem.Spec PyProof.Rows L2 LamX
/-- the object of such a function -/
def CloE (q : Str) (params : Arguments) (body : Expr) (scope : Scope) (cells : List (Str × Addr)) (pm : Value) (c' : Addr) (ctv : Value) (f : Addr) : Heap → Prop := fun h => h.get? f = some (PySem.W.kla_obj "<lambda>" q params body scope cells pm c' ctv)
abbrev lq (X : Cx) : Str := X.env.qual ++ "<lambda>"
abbrev lcl (X : Cx) (scope : Scope) : List (Str × Addr) := cloFrom X.env.cells scope.names []
section
variable {X : Cx} {pins : List (Addr × Obj)} {σ : L2.St} {H : Hp} {s : Shared}
theorem clo_make {T : List (Addr × Str)} {c P : Addr} {params : Arguments} {body : Expr} {scope : Scope} {pos : Pos} {E : Value → Shared → Prop} {Q : Value → Shared → Prop} (I : Inv X pins σ H s) (TB : TabB X.base X.mg c P) (hcode : X.env.code = .ref c)
    (hm : (P, lq X) ∈ T) (hu : ∀ p ∈ T, p.1 = P → p.2 = lq X) (hT : Tabs T H) (hdef : defaultsOf params X.env = ([], [])) (hfree : ∀ y ∈ scope.names, y.2 = .free → ∃ c, X.env.cells.lookup y.1 = some c)
    (nxt : ∀ (f c' : Addr) (pm ctv : Value) (H1 : Hp) (s' : Shared), Inv X pins σ H1 s' → (∀ b o, H b = some o → b ≠ P → H1 b = some o) → Tabs T H1 → H f = none → H1 f = some (.ext (CloE (lq X) params body scope (lcl X scope) pm c' ctv f)) → H1 c' = some (CodeO c' (lq X)) → Q (.ref f) s') :
    wpAny (model X.prog X.w) X.A (eval (.Lambda params body scope pos) X.env) Q E s := by
  obtain ⟨ps, hP, ht, ha⟩ := hT _ hm
  have bP : s.heap.BuiltinsAt X.mg P := TB.bm.keeps I.bk
  have oP : s.heap.get? P = some { cls := .none, data := .fields ps } := I.hok P _ hP
  -- the new object is known from now on
  have fin : ∀ {f c' : Addr} {pm ctv : Value} {H1 : Hp} {s' : Shared}, s.heap.objs.size ≤ f → Inv X pins σ H1 s' → H1 f = none → s'.heap.get? f = some (PySem.W.kla_obj "<lambda>" (lq X) params body scope (lcl X scope) pm c' ctv) →
      Inv X pins σ (upd H1 f (.ext (CloE (lq X) params body scope (lcl X scope) pm c' ctv f))) s' := fun {f c' pm ctv H1 s'} hz J n e => by
    refine adopt (vs := #[]) J e (.inr ⟨_, rfl⟩) n (Nat.ne_of_gt (Nat.lt_of_lt_of_le I.lt hz)) ?_ (fun p hp z => ?_) e fun h1 h2 k st => st _ k
    · cases q : X.s_0.heap.get? f with
      | none => rfl
      | some o => exact absurd (Nat.lt_of_lt_of_le (Heap.lt_size q) (Nat.le_trans I.sz hz)) (Nat.lt_irrefl _)
    · exact absurd (Nat.lt_of_lt_of_le (Heap.lt_size (I.pin p hp).1) (z ▸ hz)) (Nat.lt_irrefl _)
  refine PySem.W.kla_eval hdef ?_
  cases hc : codeAmong pos ps.toList with
  | none =>
    refine PySem.W.kla_makeFunction (mg := X.mg) (c := c) (P := P) (ps := ps) (closure_ok hfree) I.ok.glob (I.mod.glob.keeps I.bk) hcode (TB.code.keeps I.bk) oP ht hc TB.gP bP fun c' ctv h' tk hx hge hlt hrec htb => ?_
    obtain ⟨c2, oc, vs, t, e2, hoc, hd, hv⟩ := hrec
    cases e2
    have hsz : s.heap.objs.size ≤ h'.objs.size := Nat.le_trans hge (Nat.le_of_lt hlt)
    have nC : H c' = none := I.hok.fresh hge
    have nF : H h'.objs.size = none := I.hok.fresh hsz
    have I1 := inv_table (t' := tk) (more := #[rawInt pos.line, rawInt pos.col, .ref c']) (h' := h'.push (PySem.W.kla_obj "<lambda>" (lq X) params body scope (lcl X scope) ((X.mg "__name__").getD .none) c' ctv)) I hP
      (fun b o hb e => Heap.get?_push_of_some _ (hx b o hb e)) (Heap.get?_push_of_some _ htb) hge ⟨oc, vs, t, Heap.get?_push_of_some _ hoc, hd, hv⟩
    have nfc : h'.objs.size ≠ c' := Nat.ne_of_gt hlt
    have nfP : h'.objs.size ≠ P := Nat.ne_of_gt (Nat.lt_of_lt_of_le (Heap.lt_size oP) hsz)
    have nfH : upd (upd H P (.tbl (ps ++ #[rawInt pos.line, rawInt pos.col, .ref c']))) c' (CodeO c' (lq X)) h'.objs.size = none := by rw [upd_ne nfc, upd_ne nfP]; exact nF
    have I2 := fin hsz I1 nfH (Heap.get?_push_size _ rfl)
    have hE : ∀ b o, H b = some o → b ≠ P → upd (upd (upd H P (.tbl (ps ++ #[rawInt pos.line, rawInt pos.col, .ref c']))) c' (CodeO c' (lq X))) h'.objs.size (.ext (CloE (lq X) params body scope (lcl X scope) ((X.mg "__name__").getD .none) c' ctv h'.objs.size)) b = some o := fun b o e n => by
      rw [upd_ne (ne_of_none e nF), upd_ne (ne_of_none e nC), upd_ne n]
      exact e
    have nP : ∀ {b : Addr} {q : Str}, H b = some (CodeO b q) → b ≠ P := fun {b q} e z => by
      rw [z] at e
      exact codeO_ne (q := q) ps (Option.some.inj (e.symm.trans hP))
    refine nxt h'.objs.size c' ((X.mg "__name__").getD .none) ctv _ _ I2 hE (fun p hp => ?_) nF upd_same (by rw [upd_ne (Ne.symm nfc), upd_same])
    by_cases hb : p.1 = P
    · rw [hu p hp hb, hb]
      refine ⟨_, by rw [upd_ne (Ne.symm nfP), upd_ne (ne_of_none hP nC), upd_same], by rw [show (ps ++ #[rawInt pos.line, rawInt pos.col, .ref c']).toList = ps.toList ++ [rawInt pos.line, rawInt pos.col, .ref c'] by simp]; exact PySem.TriplesOk_snoc _ _ _ _ ht, fun p' cv hcv => ?_⟩
      rw [show (ps ++ #[rawInt pos.line, rawInt pos.col, .ref c']).toList = ps.toList ++ [rawInt pos.line, rawInt pos.col, .ref c'] by simp] at hcv
      rcases among_app _ ht hcv with z | z
      · obtain ⟨d0, e1, e2⟩ := ha p' cv z
        exact ⟨d0, e1, hE _ _ e2 (nP e2)⟩
      · exact ⟨c', z, by rw [upd_ne (Ne.symm nfc), upd_same]⟩
    · obtain ⟨qs, a1, a2, a3⟩ := hT p hp
      refine ⟨qs, by rw [upd_ne (ne_of_none a1 nF), upd_ne (ne_of_none a1 nC), upd_ne hb]; exact a1, a2, fun p' cv hcv => ?_⟩
      obtain ⟨d0, e1, e2⟩ := a3 p' cv hcv
      exact ⟨d0, e1, hE _ _ e2 (nP e2)⟩
  | some cv =>
    obtain ⟨c', rfl, hco⟩ := ha pos cv hc
    refine PySem.W.kla_makeFunctionHit (mg := X.mg) (c := c) (P := P) (ps := ps) (closure_ok hfree) I.ok.glob (I.mod.glob.keeps I.bk) hcode (TB.code.keeps I.bk) oP ht hc bP fun ctv h' tk hx hsz => ?_
    have nF : H h'.objs.size = none := I.hok.fresh hsz
    have I1 : Inv X pins σ H { s with heap := h'.push (PySem.W.kla_obj "<lambda>" (lq X) params body scope (lcl X scope) ((X.mg "__name__").getD .none) c' ctv), toks := tk } := I.kept fun b o e => Heap.get?_push_of_some _ (hx b o e)
    have I2 := fin hsz I1 nF (Heap.get?_push_size _ rfl)
    have sm : ∀ {b : Addr} {o : HO}, H b = some o → upd H h'.objs.size (.ext (CloE (lq X) params body scope (lcl X scope) ((X.mg "__name__").getD .none) c' ctv h'.objs.size)) b = some o := fun {b o} e => by
      rw [upd_ne (ne_of_none e nF)]
      exact e
    exact nxt h'.objs.size c' ((X.mg "__name__").getD .none) ctv _ _ I2 (fun b o e _ => sm e) (hT.ext fun b o e => sm e) nF upd_same (sm hco)
/-- the function in slot j of a def is called there; X is the frame in which it was made -/
theorem clo_act {CXg : CXT} {Eg : XK} {Ng : List Str} {qg : Str} {sg : Scope} {g f c' : Addr} {cdg pm ctv : Value} {params : Arguments} {body : Expr} {scope : Scope} {k j : Nat} {a : Str} {pn : List (Addr × Obj)} {xe : Value → Shared → Prop} {W : WX} {tl : XK → TE} {p1 p2 : Pos}
    (I : Inv X pins σ H s) (L : LamS X.env.scope scope) (hbind : bindArgs (PySem.W.kla_fn "<lambda>" (lq X) params body scope (lcl X scope) pm (.ref c') ctv) ⟨[], []⟩ = pure [])
    (tk : Takes ((cxOf CXg X.prog X.w X.K X.mg X.base Ng qg sg g cdg X.A X.stack s H Eg).tr pn xe) W) (hr : Room (k + 1) (X.A.deeper (envOfC qg sg s.heap.objs.size g cdg)))
    (hbody : ∀ (E : XK) (A : Around) (outer : List Env) (s : Shared) (H : Hp), A.guards = X.A.guards → Room k (A.deeper (lamEnv X scope s.heap.objs.size f c')) → PE (lamCx X A outer s H E scope f c') body (tl E))
    (hN : Ng[j]? = some a) (hv : Vis sg a) (hd : (a == ("__debug__" : Str)) = false := by decide +kernel) (hcd : (a == ("__classdict__" : Str)) = false := by decide +kernel) :
    PE ((cxOf CXg X.prog X.w X.K X.mg X.base Ng qg sg g cdg X.A X.stack s H Eg).tr pn xe) (.Call (.Name a p1) [] [] p2)
      (fun σZ HZ Q => σZ[j]? = some (some (.ref f)) ∧ HZ f = some (.ext (CloE (lq X) params body scope (lcl X scope) pm c' ctv f)) ∧ HZ c' = some (CodeO c' (lq X)) ∧ ∃ E : XK, (∀ cls d H', E cls d H' → W cls d σZ H') ∧ tl E σ HZ Q) := by
  refine ⟨fun pinsZ sZ σZ HZ Q IZ ⟨hs, hcl, hc, E, hW, ht⟩ => ?_⟩
  refine wpAny_Call_Name_kw (thn ((pe_var (pos := p1) (i := j) hN hv hd hcd).run pinsZ sZ σZ HZ (fun v H1 => v = .ref f ∧ H1 = HZ) IZ ⟨.ref f, hs, rfl, rfl⟩) fun u s1 ⟨v, H1, I1, r1, ev, eH⟩ => ?_)
  subst ev eH
  obtain rfl : u = Value.ref f := r1
  obtain ⟨of1, _, _⟩ := I1.hok f _ hcl
  have of1 : s1.heap.get? f = some (PySem.W.kla_obj "<lambda>" (lq X) params body scope (lcl X scope) pm c' ctv) := of1
  refine PySem.W.callWith_F0 ⟨_, _, _, _, of1⟩ ?_
  have un : Un (frs X.stack) [] H H1 s.heap s1.heap := I1.base
  obtain ⟨⟨oc, vs, t, hoc, hdc, hvc⟩, _, _⟩ := I1.hok c' _ hc
  have rc : codeAny (model X.prog X.w) (X.A.deeper (envOfC qg sg s.heap.objs.size g cdg)) (.call (.ref f) ⟨[], []⟩) (CR (L2.CX X.prog X.w) (envOfC qg sg s.heap.objs.size g cdg :: X.stack) X.prog X.w H1 s1 Q E) s1 := by
    refine PySem.W.kla_callFunE hr.depth of1 rfl L.co L.gen rfl ⟨c', oc, vs, t, rfl, hoc, hdc, hvc⟩ ?_
    rw [hbind]
    refine wpAny_pure (wpAny_newFunctionEnv (fun y hy => (L.own y hy).2) (fun y hy => absurd hy (by simp)) (fun h₁ hns hsb => ⟨I1.nolimit.fresh _ hsb, ?_⟩) L.kind)
    show codeAny _ _ (.expr body (lamEnv X scope s1.heap.objs.size f c')) _ _
    have kp : ∀ b o, s1.heap.get? b = some o → h₁.get? b = some o := fun b o e => hsb.extBut b o (Nat.ne_of_lt (Heap.lt_size e)) (Heap.get?_push_of_some _ e)
    have J : Inv (lamCx X (X.A.deeper (envOfC qg sg s.heap.objs.size g cdg)) (envOfC qg sg s.heap.objs.size g cdg :: X.stack) s1 H1 E scope f c') [] σ H1 { s1 with heap := h₁, toks := s1.toks + ([] : List (Str × Value)).length } :=
      lam_start2 I L I1.env0 hr.hd un hns kp
    refine PySem.W.kla_codeExpr (wpAny_mono ((hbody E (X.A.deeper (envOfC qg sg s.heap.objs.size g cdg)) (envOfC qg sg s.heap.objs.size g cdg :: X.stack) s1 H1 rfl (hr.deeper _)).run [] _ _ H1 Q J ht) (fun v s' ⟨w', H', J', rv, q⟩ => ?_) fun e s' hq => hq)
    exact ⟨w', H', J'.os, J'.bare, J'.base, J'.hok, rv, q⟩
  refine wpAny_call (codeAny_mono rc fun r s' hq => ?_)
  cases r with
  | error e => exact tk e s' (XE.of_call I1 (fun cls d H' q => hW cls d H' q) hq)
  | ok fl => cases fl with
    | ret u => exact I1.after hq
    | _ => exact False.elim hq
end
end Ev

set_option maxHeartbeats 2000000
/-! Ev25: a def that calls what it got, and gives the error that came: own work. -/
namespace Ev
open PySem PySem.Spec PyProof.Rows L2 LamX
/-! ### lists of unlike lengths; empty ones -/
def rNeLen : R2 := fun x y H Q => ∃ a b xs ys, x = .ref a ∧ y = .ref b ∧ H a = some (.lst xs) ∧ H b = some (.lst ys) ∧ xs.length ≠ ys.length ∧ Q (.bl true) H
theorem op_neLen {X : Cx} (hu : X.A.units + 64 < cLine) : OpR X (compareOp .NotEq) rNeLen := by
  intro pins s σ H x y v u Q I rx ry h
  obtain ⟨a, b, xs, ys, rfl, rfl, ha, hb, hl, q⟩ := h
  obtain rfl : v = Value.ref a := rx
  obtain rfl : u = Value.ref b := ry
  obtain ⟨its, r1, p1, _⟩ := I.list (SqL.of ha)
  obtain ⟨its2, r2, p2, _⟩ := I.list (SqL.of hb)
  have l1 := r1.length
  have l2 := r2.length
  show wpAny _ X.A (richCompare .NotEq (.ref a) (.ref b)) _ _ s
  exact SeqAt.RcNeAt.lists_lengths p1.isList p2.isList (by simp only [List.size_toArray, bne_iff_ne]; omega) (by omega) X.prog X.w X.xe _ ⟨.bl true, H, I, rfl, q⟩
def rNeE (K : PySem.W.Frag) : R2 := R2.or rNeLen (rNeD K)
/-- what a def gives that calls its argument, and gives the error of CE that came of it -/
def tCt (K : PySem.W.Frag) (CE : Value) (tb : WX → TS) : TS :=
  tSeq (tAsg (tLst tNil) (gName 1)) (tSeq (fun D σ H => tb (wKeep K CE 2 (fun _ => tDrop (tBM K "list" rAppend (tVar 1) (tCons (tVar 2) tNil))) D) D σ H)
    (tRet (tIf (tTest (tOp (rNeE K) (tVar 1) (tLst tNil))) (tOp (rIx K) (tVar 1) (tC (.int 0))) (tC .non))))
/-- what is known of the function at f -/
structure CloK (X : Cx) (kl : Nat) (H : Hp) (f : Addr) (tl : XK → TE) : Prop where
  mono : ∀ E σ H (Q Q' : VK), tl E σ H Q → (∀ v H1, Q v H1 → Q' v H1) → tl E σ H Q'
  ex : ∃ (params : Arguments) (body : Expr) (scope : Scope) (pm : Value) (c' : Addr) (ctv : Value), LamS X.env.scope scope ∧ bindArgs (PySem.W.kla_fn "<lambda>" (lq X) params body scope (lcl X scope) pm (.ref c') ctv) ⟨[], []⟩ = pure [] ∧
    (∀ (E : XK) (A : Around) (outer : List Env) (s : Shared) (H : Hp), A.guards = X.A.guards → Room kl (A.deeper (lamEnv X scope s.heap.objs.size f c')) → PE (lamCx X A outer s H E scope f c') body (tl E)) ∧
    H f = some (.ext (CloE (lq X) params body scope (lcl X scope) pm c' ctv f)) ∧ H c' = some (CodeO c' (lq X))
def CtQ (K : PySem.W.Frag) (H : Hp) (tl : XK → TE) (σ : L2.St) (CE : Value) (Q : VK) : Prop := ∀ L, H L = none →
  tl (fun cls d H1 => PySem.W.exmOne K cls CE = some true ∧ H1 L = some (.lst []) ∧ ∀ a, H1 a = none → ∀ p, upd (upd H1 L (.lst [.ref a])) a (.ext (ErrO a cls d)) p = none → Q (.ref a) (upd (upd (upd H1 L (.lst [.ref a])) a (.ext (ErrO a cls d))) p (.lst []))) σ (upd H L (.lst []))
    (fun _ H1 => H1 L = some (.lst []) ∧ ∀ p, H1 p = none → Q .non (upd H1 p (.lst [])))
def CtAt (X : Cx) (kl : Nat) (x : Str) (CE : Value) : Prop := ∃ g : Addr, X.mg x = some (.ref g) ∧ PySem.W.keepIn X.K (.ref g) = true ∧ ∀ (pins : List (Addr × Obj)) (σ : L2.St) (H : Hp) (s : Shared) (f : Addr) (tl : XK → TE) (Q : VK), Inv X pins σ H s → CloK X kl H f tl → CtQ X.K H tl σ CE Q →
  wpAny (model X.prog X.w) X.A (call (.ref g) [.ref f]) (EP X pins σ Q) X.xe s
theorem ct_of {X : Cx} {kl : Nat} {x a n1 n2 : Str} {g : Addr} {fd : FuncData} {params : Arguments} {bd : List Stmt} {sg : Scope} {CE : Value} {p1 p2 p3 : Pos} (F : FunD X.K x x params bd sg [] [] g fd) (hb : Binds X.K fd [a] []) (S : FnScope [a, n1, n2] [a] sg) (hm : X.mg x = some (.ref g)) (hr : Room (kl + 2) X.A)
    (hd : (a == ("__debug__" : Str)) = false := by decide +kernel) (hcd : (a == ("__classdict__" : Str)) = false := by decide +kernel) (hsw : ∀ env : Env, swapsWith (.Call (.Name a p1) [] [] p2) none p3.line env = pure false := by intro _; rfl)
    (hbd : ∀ (cdv : Value) (s : Shared) (H : Hp) (tb : WX → TS), (∀ (W : WX) (pn : List (Addr × Obj)) (xe : Value → Shared → Prop), Takes ((cxOf C8.CX0 X.prog X.w X.K X.mg X.base [a, n1, n2] x sg g cdv X.A X.stack s H C8.E0).nox.tr pn xe) W →
      PSs ((cxOf C8.CX0 X.prog X.w X.K X.mg X.base [a, n1, n2] x sg g cdv X.A X.stack s H C8.E0).nox.tr pn xe) [.Expr (.Call (.Name a p1) [] [] p2) p3] (tb W)) →
      PSs (cxOf C8.CX0 X.prog X.w X.K X.mg X.base [a, n1, n2] x sg g cdv X.A X.stack s H C8.E0).nox bd (tCt X.K CE tb)) : CtAt X kl x CE := by
  refine ⟨g, hm, F.kp, fun pins σ H s f tl Q I ck cq => ?_⟩
  obtain ⟨oc, od, dV, kV, doc, pm0, an, cdv, ct, osl, rfl, lk, hcg, _, _⟩ := F.ex
  obtain ⟨lparams, body, scope, pm, c', ctv, L, hbind, hbody, hf, hc⟩ := ck.ex
  have hva : Vis sg a := (S.par a (List.mem_singleton.mpr rfl)).imp id Or.inl
  have rc : codeAny (model X.prog X.w) X.A (.call (.ref g) ⟨[.ref f], []⟩) (CR C8.CX0 X.stack X.prog X.w H s Q C8.E0) s := by
    refine run_ofS (N := [a, n1, n2]) (ps := [a]) (us := [.ref f]) (vs := [.ref f]) lk hcg S (k := kl + 1) hr I.env0 (hb s [.ref f] I.kIn rfl) (.cons rfl .nil) rfl fun hr' => ?_
    refine ⟨_, (hbd cdv s H (fun W D σZ HZ => σZ[0]? = some (some (.ref f)) ∧ HZ f = some (.ext (CloE (lq X) lparams body scope (lcl X scope) pm c' ctv f)) ∧ HZ c' = some (CodeO c' (lq X)) ∧ ∃ Ech : XK, (∀ cls d H', Ech cls d H' → W cls d σZ H') ∧ tl Ech σ HZ fun _ H1 => D.nx σZ H1) fun W pn xe tk => ?_).nox, ?_⟩
    · have hp := clo_act (Eg := C8.E0) (CXg := C8.CX0) (cdg := cdv) (g := g) (qg := x) (pn := pn) (xe := xe) (p1 := p1) (p2 := p2) (j := 0) (k := kl) (tl := tl) I L hbind tk hr' hbody (Ng := [a, n1, n2]) (a := a) rfl hva hd hcd
      exact pss_one (ps_expr (pos := p3) hp (hsw _))
    · -- what it comes to
      refine ⟨by show 0 ≤ sizeLine; decide, fun L hL => ?_⟩
      have kf : upd H L (.lst []) f = some (.ext (CloE (lq X) lparams body scope (lcl X scope) pm c' ctv f)) := by rw [upd_ne (ne_of_none hf hL)]; exact hf
      have kc : upd H L (.lst []) c' = some (CodeO c' (lq X)) := by rw [upd_ne (ne_of_none hc hL)]; exact hc
      refine ⟨rfl, kf, kc, _, fun cls d H1 z => ?_, ck.mono _ _ _ _ _ (cq L hL) fun _ H1 ⟨z1, z2⟩ => ?_⟩
      · obtain ⟨z1, z2, z3⟩ := z
        refine ⟨z1, fun e he => ?_⟩
        have nl : L ≠ e := fun q => by rw [q, he] at z2; cases z2
        refine ⟨.ref L, rfl, tyV_lst z2, .ref e, rfl, L, [], .ref e, rfl, rfl, z2, by decide, fun he2 => ?_⟩
        have z3 := z3 e he
        have eL : upd (upd H1 L (.lst [.ref e])) e (.ext (ErrO e cls d)) L = some (.lst [.ref e]) := by rw [upd_ne nl, upd_same]
        refine ⟨.ref L, rfl, by show 0 ≤ sizeLine; decide, fun p hp => .inl ⟨L, p, [.ref e], [], rfl, rfl, ?_, upd_same, (fun z => by cases z), true, rfl, ?_⟩⟩
        · rw [upd_ne (ne_of_none eL hp)]; exact eL
        · show (if true = true then _ else _)
          rw [if_pos rfl]
          exact ⟨.ref L, rfl, .inl ⟨L, [.ref e], 0, .ref e, rfl, rfl, SqL.of (by rw [upd_ne (ne_of_none eL hp)]; exact eL), rfl, z3 p hp⟩⟩
      · refine ⟨.ref L, rfl, by show 0 ≤ sizeLine; decide, fun p hp => .inr ⟨.list [], .list [], .lst (SqL.of (by rw [upd_ne (ne_of_none z1 hp)]; exact z1)) .nil, .lst (SqL.of upd_same) .nil, by rfl, by rfl, false, rfl, ?_⟩⟩
        show (if false = true then _ else _)
        rw [if_neg Bool.false_ne_true]
        exact z2 p hp
  refine wpAny_call (codeAny_mono rc fun r s2 hq => ?_)
  cases r with
  | error e => exact (show False from hq).elim
  | ok fl => cases fl with
    | ret u => exact I.after hq
    | _ => exact False.elim hq
end Ev

set_option maxHeartbeats 2000000
/-! Ev26: calls of what has no name, errors as values: own work. -/
namespace Ev
open PySem PySem.Spec PyProof.Rows L2 LamX
/-- nothing is asked of functions in slots -/
abbrev Pm.any (P : Pm) : Pm := { P with clo := fun _ _ _ => True }
theorem FS.any {P : Pm} {G : Gh} {σ : L2.St} {H : Hp} {env : Lo} {s : DS} (f : FS P G σ H env s) : FS P.any G σ H env s :=
  ⟨f.st, f.mt, f.dom, f.md, f.ext, f.len, f.im, f.mu, f.sep, f.held, fun i k h => let ⟨a, l, h1, _, h3⟩ := f.fn i k h; ⟨a, l, h1, True.intro, h3⟩, f.hel, f.tb, f.hex⟩
def codeE (c : Addr) (q : Str) : Heap → Prop := fun h => ∃ (oc : Obj) (vs : Array Value) (t : Tok), h.get? c = some oc ∧ oc.data = .fields vs ∧ vs[1]? = some (.str q t)
/-- the function at a, which does as lam k, made in the frame X -/
def CloS (X : Cx) (P : Pm) (kl : Nat) (lam : Nat → Sm RV) (k : Nat) (a : Addr) (l : List (Addr × (Heap → Prop))) : Prop :=
  ∃ (params : Arguments) (body : Expr) (scope : Scope) (pm : Value) (c' : Addr) (ctv : Value), LamS X.env.scope scope ∧ bindArgs (PySem.W.kla_fn "<lambda>" (lq X) params body scope (lcl X scope) pm (.ref c') ctv) ⟨[], []⟩ = pure [] ∧
    (∀ (E : XK) (A : Around) (outer : List Env) (s : Shared) (H : Hp), A.guards = X.A.guards → Room kl (A.deeper (lamEnv X scope s.heap.objs.size a c')) → PE (lamCx X A outer s H E scope a c') body (tE P.any E (lam k))) ∧
    l = [(a, CloE (lq X) params body scope (lcl X scope) pm c' ctv a), (c', codeE c' (lq X))]
theorem CloS.ck {X : Cx} {P : Pm} {kl : Nat} {lam : Nat → Sm RV} {k : Nat} {a : Addr} {l : List (Addr × (Heap → Prop))} {H : Hp} (h : CloS X P kl lam k a l) (hh : HoldE H l) : CloK X kl H a fun E => tE P.any E (lam k) := by
  obtain ⟨params, body, scope, pm, c', ctv, h1, h2, h3, rfl⟩ := h
  exact ⟨fun E σ H Q Q' q m => q.mono m, params, body, scope, pm, c', ctv, h1, h2, h3, hh _ (List.mem_cons_self ..), hh _ (List.mem_cons_of_mem _ (List.mem_cons_self ..))⟩
/-- of the errors that come: their classes stand in the module, and are caught -/
structure XiOk (P : Pm) (CE : Value) (isE : Str → Bool) : Prop where
  xi : ∀ c p cls d H, P.xi c p cls d H → p = .non ∧ d = none ∧ ∃ C, PySem.W.nsIn P.K mainGlobals c = some (some (.ref C)) ∧ cls = .ref C
  exm : ∀ c C, isE c = true → PySem.W.nsIn P.K mainGlobals c = some (some (.ref C)) → PySem.W.exmOne P.K (.ref C) CE = some true
theorem ct_q {P : Pm} {E : XK} {G : Gh} {σ : L2.St} {H : Hp} {env : Lo} {s : DS} {CE : Value} {isE : Str → Bool} {f : Sm RV} {Q : VK} (x : XiOk P CE isE) (fs : FS P G σ H env s) (c : Cont P E G σ env H (RE P G σ env H) (caughtR isE (f env s)) Q) : CtQ P.K H (fun E => tE P.any E f) σ CE Q := by
  intro L hL
  have f0 := fs.any.same (Same.new (o := .lst []) hL)
  have nT : ¬ G.T.has L := fun z => fs.st.some_of z hL
  refine ⟨G, env, s, f0, ?_⟩
  have base : ∀ {b : Addr} {o : HO}, H b = some o → b ≠ L := fun {b o} e z => by rw [z, hL] at e; cases e
  cases hf : f env s with
  | stuck => rw [hf] at c; exact c.elim
  | ok r s1 =>
    rw [hf] at c
    refine fun v H1 f1 e1 _ => ?_
    have hL1 := e1 _ _ (upd_same (H := H) (a := L) (o := .lst [])) nT
    refine ⟨hL1, fun p hp => ?_⟩
    have e2 : Ext G.T H (upd H1 p (.lst [])) := fun b o e n => by
      have z := e1 b o (by rw [upd_ne (base e)]; exact e) n
      rw [upd_ne (ne_of_none z hp)]
      exact z
    have c : Cont P E G σ env H (RE P G σ env H) (.ok (.im .non) s1) Q := c
    exact c .non _ (fs.go e2 (f1.st.move fun b u h _ => Same.new hp b u h)) e2 (show Rep _ _ _ _ _ _ from .non)
  | exc x' p s1 =>
    rw [hf] at c
    refine fun cls d H1 f1 e1 q => ?_
    obtain ⟨rfl, rfl, C, hC, rfl⟩ := x.xi _ _ _ _ _ q
    have c : Cont P E G σ env H (RE P G σ env H) (if isE x' then .ok (.im (.exc x' .non)) s1 else .stuck) Q := c
    by_cases hE : isE x' = true
    · rw [if_pos hE] at c
      have hL1 := e1 _ _ (upd_same (H := H) (a := L) (o := .lst [])) nT
      refine ⟨x.exm _ _ hE hC, hL1, fun a ha p hp => ?_⟩
      have keep : ∀ b u, H1 b = some u → b ≠ L → upd (upd (upd H1 L (.lst [.ref a])) a (.ext (ErrO a (.ref C) none))) p (.lst []) b = some u := fun b u h n => by
        have z : upd (upd H1 L (.lst [.ref a])) a (.ext (ErrO a (.ref C) none)) b = some u := by rw [upd_ne (ne_of_none h ha), upd_ne n]; exact h
        rw [upd_ne (ne_of_none z hp)]
        exact z
      have e2 : Ext G.T H (upd (upd (upd H1 L (.lst [.ref a])) a (.ext (ErrO a (.ref C) none))) p (.lst [])) := fun b o e n => keep b o (e1 b o (by rw [upd_ne (base e)]; exact e) n) (base e)
      have ea : upd (upd H1 L (.lst [.ref a])) a (.ext (ErrO a (.ref C) none)) a = some (.ext (ErrO a (.ref C) none)) := upd_same
      refine c (.ref a) _ (fs.go e2 (f1.st.move fun b u h z => keep b u h fun w => ?_)) e2 (show Rep _ _ _ _ _ _ from .exc x' hC (by rw [upd_ne (ne_of_none ea hp)]; exact ea) fun h z => z)
      rcases z with z | ⟨φ, z⟩
      · exact nT (w ▸ z)
      · rw [w, hL1, z] at h; cases h
    · rw [if_neg hE] at c
      exact c.elim
section
variable {X : Cx} {P : Pm} {E : XK} {kl : Nat} {lam : Nat → Sm RV} {isE : Str → Bool} {CE : Value} {x : Str} {p pos : Pos}
/-- x(y), y a slot with a function -/
theorem x_caught (i : Nat) {y : Str} {p1 : Pos} (hC : CtAt X kl x CE) (hP : ∀ k a l, P.clo k a l → CloS X P kl lam k a l) (hx : XiOk P CE isE) (hg : Gl X x := by rfl) (hdb : (x == ("__debug__" : Str)) = false := by decide +kernel)
    (hs : starEach [.Name y p1] X.env = (false, eval (.Name y p1) X.env) :: starEach [] X.env := by rfl) (hN : X.N[i]? = some y := by rfl) (hv : Vis X.env.scope y := by first | exact Or.inl rfl | exact Or.inr (Or.inl rfl) | exact Or.inr (Or.inr rfl)) (hd : (y == ("__debug__" : Str)) = false := by decide +kernel)
    (hcd : (y == ("__classdict__" : Str)) = false := by decide +kernel) (hK : P.K = X.K := by rfl) : PE X (.Call (.Name x p) [.Name y p1] [] pos) (tE P E (eCaught lam isE i)) := by
  obtain ⟨g, hm, hk, run⟩ := hC
  refine ⟨fun pins s σ H Q I h => ?_⟩
  obtain ⟨G, env, ds, fs, c⟩ := h
  unfold eCaught at c
  split at c
  · rename_i k e
    obtain ⟨a, l, h1, h2, h3⟩ := fs.fn i k e
    refine wpAny_Call_Name_kw (ld_glob I hg hm ?_ hdb)
    refine PySem.W.callWith_K (h₀ := X.base) I.ok.mod.kin hk (thn ((pa_cons (pe_var hN hv hd hcd) pa_nil hs).run pos pins s σ H (fun vs H1 => vs = [.ref a] ∧ H1 = H) I ⟨.ref a, h1, rfl, rfl⟩) fun us s1 ⟨vs, H1, I1, r, e1, e2⟩ => ⟨I1.kIn, ?_⟩) hs rfl
    subst e1 e2
    obtain ⟨u, rfl, ru⟩ := vals1 r
    obtain rfl : u = Value.ref a := ru
    refine run pins σ H1 s1 a _ Q I1 ((hP k a l h2).ck h3) ?_
    rw [← hK]
    exact ct_q hx fs c
  · exact c.elim
/-- x(lambda: body) -/
theorem x_caughtL {f : Sm RV} {c cP : Addr} {params : Arguments} {body : Expr} {scope : Scope} {lpos : Pos} (hC : CtAt X kl x CE) (hx : XiOk P CE isE) (TB : TabB X.base X.mg c cP) (hcode : X.env.code = .ref c) (hm' : (cP, lq X) ∈ P.tb) (hu : ∀ p ∈ P.tb, p.1 = cP → p.2 = lq X)
    (L : LamS X.env.scope scope) (hdef : defaultsOf params X.env = ([], [])) (hbind : ∀ (q : Str) (cl : List (Str × Addr)) (pm cv ctv : Value), bindArgs (PySem.W.kla_fn "<lambda>" q params body scope cl pm cv ctv) ⟨[], []⟩ = pure [])
    (hbody : ∀ (E : XK) (A : Around) (outer : List Env) (s : Shared) (H : Hp) (a c' : Addr), A.guards = X.A.guards → Room kl (A.deeper (lamEnv X scope s.heap.objs.size a c')) → PE (lamCx X A outer s H E scope a c') body (tE P.any E f))
    (hg : Gl X x := by rfl) (hdb : (x == ("__debug__" : Str)) = false := by decide +kernel) (hs : starEach [.Lambda params body scope lpos] X.env = (false, eval (.Lambda params body scope lpos) X.env) :: starEach [] X.env := by rfl) (hK : P.K = X.K := by rfl) :
    PE X (.Call (.Name x p) [.Lambda params body scope lpos] [] pos) (tE P E fun env s => caughtR isE (f env s)) := by
  obtain ⟨g, hm, hk, run⟩ := hC
  refine ⟨fun pins s σ H Q I h => ?_⟩
  obtain ⟨G, env, ds, fs, cc⟩ := h
  have ht : Tabs P.tb H := by rw [← fs.tb]; exact fs.st.2.2.2.2
  refine wpAny_Call_Name_kw (ld_glob I hg hm ?_ hdb)
  refine PySem.W.callWith_K (h₀ := X.base) I.ok.mod.kin hk ?_ hs rfl
  rw [hs]
  refine Calls.spliced_cons (clo_make I TB hcode hm' hu ht hdef (L.has I.ok) fun a c' pm ctv H1 s1 I1 eN t1 hn hf hc => Calls.spliced_nil ⟨I1.kIn, ?_⟩)
  obtain ⟨ps0, hP0, _⟩ := ht _ hm'
  have hP0 : H cP = some (.tbl ps0) := hP0
  have inT : G.T.has cP := .inr (.inr (.inr ⟨lq X, by rw [fs.tb]; exact hm'⟩))
  have hne : Ext G.T H H1 := fun b o e n => eN b o e fun z => n (z ▸ inT)
  have st1 : StOk G.T H1 ds := by
    obtain ⟨k1, k2, k3, k4, _⟩ := fs.st
    refine ⟨eN _ _ k1 fun z => ?_, eN _ _ k2 fun z => ?_, eN _ _ k3 fun z => ?_, k4, by rw [fs.tb]; exact t1⟩
    · rw [z, hP0] at k1; cases k1
    · rw [z, hP0] at k2; cases k2
    · rw [z, hP0] at k3; cases k3
  refine run pins σ H1 s1 a (fun E => tE P.any E f) Q I1 ⟨fun E σ H Q Q' q m => q.mono m, params, body, scope, pm, c', ctv, L, hbind _ _ _ _ _, fun E A outer s H hg hr => hbody E A outer s H a c' hg hr, hf, hc⟩ ?_
  rw [← hK]
  have f1 := fs.go hne st1
  exact ct_q hx f1 (Cont.laterE cc hne f1)
end
end Ev

set_option maxHeartbeats 2000000
/-! Ev27: isinstance of errors; an empty dict: own work. -/
namespace Ev
open PySem PySem.Spec PyProof.Rows L2 LamX
structure ExS (P : Pm) (mg : Str → Option Value) (c : Str) (isS : Str → Option Bool) : Prop where
  ex : ∃ CA : Addr, mg c = some (.ref CA) ∧ PySem.W.kitOne P.K (.type "NoneType") (.ref CA) = some false ∧ ∀ c' b D, isS c' = some b → PySem.W.nsIn P.K mainGlobals c' = some (some (.ref D)) → ExcC P.K D ∧ PySem.W.kitOne P.K (.ref D) (.ref CA) = some b
def rIsX (K : PySem.W.Frag) (CA : Addr) : List V → Hp → VK → Prop := fun xs H Q => ∃ x, xs = [x, .ref CA] ∧
  ((x = .non ∧ PySem.W.kitOne K (.type "NoneType") (.ref CA) = some false ∧ Q (.bl false) H) ∨ ∃ (a D : Addr) (φ : Heap → Prop) (b : Bool), x = .ref a ∧ H a = some (.ext φ) ∧ (∀ h, φ h → ∃ oe vs, h.get? a = some oe ∧ oe.cls = .ref D ∧ oe.dict = none ∧ oe.data = .fields vs) ∧ ExcC K D ∧ PySem.W.kitOne K (.ref D) (.ref CA) = some b ∧ Q (.bl b) H)
theorem call_isX {X : Cx} {CA : Addr} : CallR X (.builtin "isinstance") (rIsX X.K CA) := by
  intro pins s σ H xs us Q I r h
  obtain ⟨x, rfl, h⟩ := h
  obtain ⟨u, u', rfl, ru, rc⟩ := vals2 r
  obtain rfl : u' = Value.ref CA := rc
  rcases h with ⟨rfl, k, q⟩ | ⟨a, D, φ, b, rfl, ha, hφ, C, k, q⟩
  · obtain rfl : u = Value.none := ru
    exact PySem.W.kia_one PySem.W.kitx_none I.kIn True.intro k (fun z => nomatch z) fun tk => ⟨.bl false, H, I.tok tk, rfl, q⟩
  · obtain rfl : u = Value.ref a := ru
    obtain ⟨hh, _, _⟩ := I.hok a _ ha
    obtain ⟨oe, vs, e1, e2, e3, e4⟩ := hφ _ hh
    have J : PySem.W.InstAt s.heap a oe D none := by
      obtain ⟨oc, od, oda, osl⟩ := oe
      dsimp only at e2 e3 e4
      subst e2 e3 e4
      exact ⟨e1, rfl, rfl, trivial⟩
    exact PySem.W.kia_one (PySem.W.handS_kitx_exc C.hg C.hk C.hs C.hd C.ha C.hn C.ht C.hm) I.kIn J k (fun z => nomatch z) fun tk => ⟨.bl b, H, I.kept (t' := tk) fun _ _ z => z, rfl, q⟩
section
variable {X : Cx} {P : Pm} {E : XK}
theorem x_isE {c : Str} {isS : Str → Option Bool} {e : Expr} {f : Sm D} {p q pos : Pos} (hm : X.mg "isinstance" = none) (F : ExS P X.mg c isS) (h : PE X e (tO P E f)) (hg : Gl X "isinstance" := by rfl) (hgc : Gl X c := by rfl)
    (hs : starEach [e, .Name c q] X.env = (false, eval e X.env) :: starEach [.Name c q] X.env := by rfl) (hdb : (c == ("__debug__" : Str)) = false := by decide +kernel) (hK : P.K = X.K := by rfl) : XT X P E (.Call (.Name "isinstance" p) [e, .Name c q] [] pos) (tIsE isS f) := by
  obtain ⟨CA, h1, h2, h3⟩ := F.ex
  have g : ∀ {σ : L2.St} {H : Hp} {Q' : Bool → Hp → Prop} {Q : VK}, tT P E (tIsE isS f) σ H Q' → (∀ k H1, Q' k H1 → Q (.bl k) H1) → tCB (rIsX X.K CA) (tCons (tO P E f) (tCons (tC (.ref CA)) tNil)) σ H Q := fun {σ H Q' Q} h m => by
    refine (tG_bind (R1 := RO P) (k := fun x env s => match x with
      | .non => .ok false s
      | .exc c _ => lift (isS c) s
      | _ => .stuck) h).mono fun v H1 ⟨G, env, s, x, f1, e1, r1, cc, s0, f0⟩ => ?_
    have r1 : RepP P.K G.T (Mx G σ env) (Own σ env) H1 v x := r1
    rw [← hK]
    cases x with
    | non =>
      rcases r1 with r1 | ⟨_, _, _, _, z, _⟩
      · cases r1
        exact ⟨_, rfl, .inl ⟨rfl, h2, m _ _ (cc false H1 f1 e1 rfl)⟩⟩
      · cases z
    | exc c' p' =>
      have c2 : Cont P E G σ env H (RB P G σ env H) (lift (isS c') s) Q' := cc
      clear cc
      cases hz : isS c' with
      | none => rw [hz] at c2; exact c2.elim
      | some b =>
        rw [hz] at c2
        rcases r1 with r1 | ⟨_, _, _, _, z, _⟩
        · cases r1 with
          | exc _ w1 w2 w3 =>
            obtain ⟨k1, k2⟩ := h3 _ _ _ hz w1
            exact ⟨_, rfl, .inr ⟨_, _, _, b, rfl, w2, w3, k1, k2, m _ _ (c2 b H1 f1 e1 rfl)⟩⟩
        · cases z
    | _ => exact cc.elim
  have pe : PE X (.Call (.Name "isinstance" p) [e, .Name c q] [] pos) (tCB (rIsX X.K CA) (tCons (tO P E f) (tCons (tC (.ref CA)) tNil))) := pe_callB call_isX hg hm (by decide +kernel) (pa2 h (pe_glob hgc h1 rfl hdb) hs rfl) (by decide +kernel) (by decide +kernel) hs rfl
  exact ⟨PE.mono pe fun _ _ _ h => g h fun _ _ q => q, PT.mono (pt_val pe (by intro _; rfl)) fun _ _ _ h => g h fun k _ q => ⟨k, rfl, q⟩⟩
theorem x_dic {pos : Pos} : PE X (.Dict [] [] pos) (tE P E eDic) := PE.mono pe_dnewK fun σ H Q ⟨G, env, s, fs, c⟩ p hp => c (.ref p) _ (fs.same (Same.new hp)) (.of (Same.new hp)) (show Rep _ _ _ _ _ _ from .edic (fs.fresh hp) upd_same)
end
end Ev

set_option maxHeartbeats 2000000
/-! Ev28: for over functions without a name: own work. -/
namespace Ev
open PySem PySem.Spec PyProof.Rows L2 LamX
section
variable {X : Cx} {P : Pm} {E : XK} {kl : Nat} {lam : Nat → Sm RV}
/-- a function is made -/
def tLamV (X : Cx) (P : Pm) (kl : Nat) (lam : Nat → Sm RV) (cP : Addr) (k : Nat) : TE := fun σ H Q => Tabs P.tb H ∧ ∀ a l H1, (∀ b o, H b = some o → b ≠ cP → H1 b = some o) → Tabs P.tb H1 → CloS X P kl lam k a l → HoldE H1 l → Q (.ref a) H1
theorem pe_lam {c cP : Addr} {k : Nat} {params : Arguments} {body : Expr} {scope : Scope} {lpos : Pos} (TB : TabB X.base X.mg c cP) (hcode : X.env.code = .ref c) (hm' : (cP, lq X) ∈ P.tb) (hu : ∀ p ∈ P.tb, p.1 = cP → p.2 = lq X)
    (L : LamS X.env.scope scope) (hdef : defaultsOf params X.env = ([], [])) (hbind : ∀ (q : Str) (cl : List (Str × Addr)) (pm cv ctv : Value), bindArgs (PySem.W.kla_fn "<lambda>" q params body scope cl pm cv ctv) ⟨[], []⟩ = pure [])
    (hbody : ∀ (E : XK) (A : Around) (outer : List Env) (s : Shared) (H : Hp) (a c' : Addr), A.guards = X.A.guards → Room kl (A.deeper (lamEnv X scope s.heap.objs.size a c')) → PE (lamCx X A outer s H E scope a c') body (tE P.any E (lam k))) :
    PE X (.Lambda params body scope lpos) (tLamV X P kl lam cP k) := by
  refine ⟨fun pins s σ H Q I h => ?_⟩
  obtain ⟨ht, h⟩ := h
  refine clo_make I TB hcode hm' hu ht hdef (L.has I.ok) fun a c' pm ctv H1 s1 I1 eN t1 hn hf hc => ⟨.ref a, H1, I1, rfl, h a [(a, CloE (lq X) params body scope (lcl X scope) pm c' ctv a), (c', codeE c' (lq X))] H1 eN t1 ⟨params, body, scope, pm, c', ctv, L, hbind _ _ _ _ _, fun E A outer s H hg hr => hbody E A outer s H a c' hg hr, rfl⟩ fun p hp => ?_⟩
  rcases List.mem_cons.mp hp with z | z
  · rw [z]; exact hf
  · rw [List.mem_singleton.mp z]; exact hc
def tLams (X : Cx) (P : Pm) (kl : Nat) (lam : Nat → Sm RV) (cP : Addr) : List Nat → TA
  | [] => tNil
  | k :: ks => tCons (tLamV X P kl lam cP k) (tLams X P kl lam cP ks)
theorem pa_lamN {cP : Addr} : PA X [] (tLams X P kl lam cP []) := pa_nil
theorem pa_lamC {cP : Addr} {e : Expr} {es : List Expr} {k : Nat} {ks : List Nat} (h : PE X e (tLamV X P kl lam cP k)) (h' : PA X es (tLams X P kl lam cP ks)) (hs : starEach (e :: es) X.env = (false, eval e X.env) :: starEach es X.env := by rfl) : PA X (e :: es) (tLams X P kl lam cP (k :: ks)) := pa_cons h h' hs
/-- functions that stand in a heap -/
inductive Clos (X : Cx) (P : Pm) (kl : Nat) (lam : Nat → Sm RV) : List Nat → List V → List (Addr × (Heap → Prop)) → Prop where
  | nil : Clos X P kl lam [] [] []
  | cons {k : Nat} {a : Addr} {l l' : List (Addr × (Heap → Prop))} {ks : List Nat} {vs : List V} : CloS X P kl lam k a l → Clos X P kl lam ks vs l' → Clos X P kl lam (k :: ks) (.ref a :: vs) (l ++ l')
theorem Clos.len {ks : List Nat} {vs : List V} {l : List (Addr × (Heap → Prop))} (h : Clos X P kl lam ks vs l) : vs.length = ks.length := by
  induction h with
  | nil => rfl
  | cons _ _ ih => rw [List.length_cons, List.length_cons, ih]
theorem Clos.get {ks : List Nat} {vs : List V} {l : List (Addr × (Heap → Prop))} (h : Clos X P kl lam ks vs l) {i : Nat} {v : V} (e : vs[i]? = some v) : ∃ k a l', ks[i]? = some k ∧ v = .ref a ∧ CloS X P kl lam k a l' ∧ ∀ p ∈ l', p ∈ l := by
  induction h generalizing i with
  | nil => simp at e
  | cons h1 h2 ih =>
    cases i with
    | zero =>
      rw [List.getElem?_cons_zero] at e
      cases e
      exact ⟨_, _, _, rfl, rfl, h1, fun p hp => List.mem_append_left _ hp⟩
    | succ i =>
      rw [List.getElem?_cons_succ] at e
      obtain ⟨k, a, l', e1, e2, e3, e4⟩ := ih e
      exact ⟨k, a, l', by rw [List.getElem?_cons_succ]; exact e1, e2, e3, fun p hp => List.mem_append_right _ (e4 p hp)⟩
theorem lam_step {G : Gh} {σ : L2.St} {H H1 : Hp} {env : Lo} {s : DS} {cP : Addr} (fs : FS P G σ H env s) (hm' : (cP, lq X) ∈ P.tb) (eN : ∀ b o, H b = some o → b ≠ cP → H1 b = some o) (t1 : Tabs P.tb H1) : FS P G σ H1 env s ∧ Ext G.T H H1 := by
  have ht : Tabs P.tb H := by rw [← fs.tb]; exact fs.st.2.2.2.2
  obtain ⟨ps0, hP0, _⟩ := ht _ hm'
  have hP0 : H cP = some (.tbl ps0) := hP0
  have inT : G.T.has cP := .inr (.inr (.inr ⟨lq X, by rw [fs.tb]; exact hm'⟩))
  have hne : Ext G.T H H1 := fun b o e n => eN b o e fun z => n (z ▸ inT)
  refine ⟨fs.go hne ?_, hne⟩
  obtain ⟨k1, k2, k3, k4, _⟩ := fs.st
  refine ⟨eN _ _ k1 fun z => ?_, eN _ _ k2 fun z => ?_, eN _ _ k3 fun z => ?_, k4, by rw [fs.tb]; exact t1⟩
  · rw [z, hP0] at k1; cases k1
  · rw [z, hP0] at k2; cases k2
  · rw [z, hP0] at k3; cases k3
theorem lams_at {G : Gh} {σ : L2.St} {env : Lo} {s : DS} {cP : Addr} (hm' : (cP, lq X) ∈ P.tb) : ∀ (ks : List Nat) {H : Hp} {Q : List V → Hp → Prop}, FS P G σ H env s → (∀ vs H1 l, FS P G σ H1 env s → Ext G.T H H1 → Clos X P kl lam ks vs l → HoldE H1 l → Q vs H1) → tLams X P kl lam cP ks σ H Q
  | [], H, Q, fs, h => h [] H [] fs (Ext.refl _ _) .nil fun p hp => by cases hp
  | k :: ks, H, Q, fs, h => by
    have ht : Tabs P.tb H := by rw [← fs.tb]; exact fs.st.2.2.2.2
    refine ⟨ht, fun a l H1 eN t1 hc hh => ?_⟩
    obtain ⟨f1, e1⟩ := lam_step (X := X) fs hm' eN t1
    refine lams_at hm' ks f1 fun vs H2 l2 f2 e2 hc2 hh2 => h _ _ _ f2 (e1.trans e2) (.cons hc hc2) fun p hp => ?_
    rcases List.mem_append.mp hp with z | z
    · exact e2 _ _ (hh p z) (f1.st.ext_of (hh p z))
    · exact hh2 p z
def Gh.keepF (G : Gh) (q : Addr × HO) (l : List (Addr × (Heap → Prop))) : Gh := { G with he := q :: G.he, hx := l ++ G.hx }
theorem FS.keepF {G : Gh} {σ : L2.St} {H : Hp} {env : Lo} {s : DS} {q : Addr × HO} {l : List (Addr × (Heap → Prop))} (f : FS P G σ H env s) (h1 : H q.1 = some q.2 ∧ ¬ Mx G σ env q.1) (h2 : HoldE H l) : FS P (G.keepF q l) σ H env s :=
  ⟨f.st, f.mt, f.dom, f.md, f.ext, f.len, f.im, f.mu, f.sep, f.held, f.fn, fun p hp => (List.mem_cons.mp hp).elim (fun z => z ▸ h1) (f.hel p), f.tb, fun p hp => (List.mem_append.mp hp).elim (h2 p) (f.hex p)⟩
theorem FS.dropF {G : Gh} {σ : L2.St} {H : Hp} {env : Lo} {s : DS} {q : Addr × HO} {l : List (Addr × (Heap → Prop))} (f : FS P (G.keepF q l) σ H env s) : FS P G σ H env s :=
  ⟨f.st, f.mt, f.dom, f.md, f.ext, f.len, f.im, f.mu, f.sep, f.held, f.fn, fun p hp => f.hel p (List.mem_cons_of_mem _ hp), f.tb, fun p hp => f.hex p (List.mem_append_right _ hp)⟩
/-- a slot is stored with a function -/
theorem FS.putF {G : Gh} {σ : L2.St} {H : Hp} {env : Lo} {s : DS} {i k : Nat} {a : Addr} {l : List (Addr × (Heap → Prop))} (f : FS P G σ H env s) (hc : P.clo k a l) (hh : HoldE H l) : FS P G (σ.set i (some (.ref a))) H (env.set i (.fn k)) s := by
  have sub : ∀ b, Mx G (σ.set i (some (.ref a))) (env.set i (.fn k)) b → Mx G σ env b := by
    rintro b (z | z)
    · exact .inl z
    · exact .inr (z.ne fun xs q => by cases q)
  have old : ∀ {j : Nat} {sl : Slot}, (env.set i (.fn k))[j]? = some sl → (∀ k', sl ≠ .fn k') → j ≠ i ∧ env[j]? = some sl := fun {j sl} h n => by
    rcases set_get h with ⟨_, q⟩ | z
    · exact absurd q (n k)
    · exact z
  refine ⟨f.st, f.mt, f.dom, fun b z => ⟨(f.md b z).1, (f.md b z).2.1, fun w => (f.md b z).2.2 (w.ne fun xs q => by cases q)⟩, f.ext, by rw [List.length_set, List.length_set]; exact f.len, fun j d h => ?_, fun j xs h => ?_, fun j k' xs ys b h1 h2 h3 h4 => ?_, fun p h => (f.held p h).less sub, fun j k' h => ?_, (fun p h => ⟨(f.hel p h).1, fun z => (f.hel p h).2 (sub _ z)⟩), f.tb, f.hex⟩
  · obtain ⟨n, h⟩ := old h (fun _ z => by cases z)
    obtain ⟨v, h1, h2⟩ := f.im j d h
    exact ⟨v, by rw [List.getElem?_set_ne (Ne.symm n)]; exact h1, h2.less sub⟩
  · obtain ⟨n, h⟩ := old h (fun _ z => by cases z)
    obtain ⟨b, vs, h1, h2, h3, h4, h5⟩ := f.mu j xs h
    exact ⟨b, vs, by rw [List.getElem?_set_ne (Ne.symm n)]; exact h1, h2, h3, h4, h5.less sub⟩
  · obtain ⟨n1, h1⟩ := old h1 (fun _ z => by cases z)
    obtain ⟨n2, h2⟩ := old h2 (fun _ z => by cases z)
    rw [List.getElem?_set_ne (Ne.symm n1)] at h3
    rw [List.getElem?_set_ne (Ne.symm n2)] at h4
    exact f.sep j k' xs ys b h1 h2 h3 h4
  · rcases set_get h with ⟨rfl, q⟩ | ⟨n, q⟩
    · cases q
      have hj : j < σ.length := by
        rw [← f.len]
        have z := (List.getElem?_eq_some_iff.mp h).1
        rwa [List.length_set] at z
      exact ⟨a, l, List.getElem?_set_self hj, hc, hh⟩
    · obtain ⟨b, l', h1, h2, h3⟩ := f.fn j k' q
      exact ⟨b, l', by rw [List.getElem?_set_ne (Ne.symm n)]; exact h1, h2, h3⟩
theorem s_forFn {cP : Addr} (ks : List Nat) (i : Nat) {x : Str} {es : List Expr} {body : List Stmt} {b : Stm} {p lp pos : Pos} (hP : ∀ k a l, CloS X P kl lam k a l → P.clo k a l) (hm' : (cP, lq X) ∈ P.tb) (hp : PassesOwn (model X.prog X.w) X.A X.env X.xe) (hc : X.calm = true)
    (ha : PA X es (tLams X P kl lam cP ks)) (hg : PG X (.Name x p) (gName i)) (hb : PSs X body (tS P E b)) (hl : ks.length ≤ sizeLine := by decide +kernel) (hs : ∀ x, foldedSetIterable (.List es lp) X.env x = pure x := by intro _; rfl) :
    PS X (.For (.Name x p) (.List es lp) body [] pos) (tS P E (sForFn ks i b)) :=
  PS.mono (ps_for hp hc (pi_list (pe_lst ha)) hg hb hs) fun D σ H ⟨G, env, s, fs, c⟩ => by
    refine lams_at (X := X) hm' ks fs fun vs H1 l f1 e1 hcl hh => ⟨by rw [hcl.len]; exact hl, fun q hq => ?_⟩
    have f2 := f1.same (Same.new (o := .lst vs) hq)
    have f3 := FS.keepF (q := (q, .lst vs)) (l := l) f2 ⟨upd_same, f1.fresh hq⟩ fun p hp => Same.new hq _ _ (hh p hp)
    refine ⟨q, rfl, ⟨vs, SqL.of upd_same⟩, ?_⟩
    refine for_it (walk_list (xs := vs)) (fun n σ H => ∃ env s, FS P (G.keepF (q, .lst vs) l) σ H env s ∧ ContS P E G (forFn i b (ks.drop n) env s) D) ⟨env, s, f3, c⟩ (fun n σ H _ ⟨env, s, f, _⟩ => SqL.of (f.hel _ (List.mem_cons_self ..)).1) (fun n v σ H H' lt ⟨env, s, f, c⟩ y => ?_) fun σ H ⟨env, s, f, c⟩ => ?_
    · obtain ⟨rfl, y⟩ := y
      obtain ⟨k, a, l', e2, rfl, e3, e4⟩ := hcl.get y
      rw [hcl.len] at lt
      have ed : ks.drop n = k :: ks.drop (n + 1) := by
        rw [List.drop_eq_getElem_cons lt]
        rw [List.getElem?_eq_getElem lt] at e2
        rw [Option.some.inj e2]
      rw [ed] at c
      unfold forFn at c
      have f' := f.putF (i := i) (hP _ _ _ e3) fun p hp => f.hex p (List.mem_append_left _ (e4 p hp))
      refine ⟨G.keepF (q, .lst vs) l, env.set i (.fn k), s, f', ?_⟩
      cases hbd : b (env.set i (.fn k)) s with
      | nx e2 s2 => rw [hbd] at c; exact fun σ H f => ⟨e2, s2, f, c⟩
      | ct e2 s2 => rw [hbd] at c; exact fun σ H f => ⟨e2, s2, f, c⟩
      | bk e2 s2 => rw [hbd] at c; exact fun σ H f => c σ H f.dropF
      | rt r s2 => rw [hbd] at c; exact c
      | exc c' p s2 => rw [hbd] at c; exact c
      | stuck => rw [hbd] at c; exact c
    · rw [hcl.len, List.drop_length] at c
      exact c σ H f.dropF
end
end Ev

set_option maxHeartbeats 2000000
/-! Ev29: calls by keywords; the drawing state's beginning: own work. -/
namespace Ev
open PySem PySem.Spec PyProof.Rows L2 LamX
/-! ### f(k = v, ..), all parameters by keywords, in their order -/
structure HasK (P : Pm) (Pg : Program) (w : World) (mg : Str → Option Value) (base : Heap) (k : Nat) (x : Str) (ks : List Str) (fn : Fn) : Prop where
  len : ∀ ds s, ds.length ≠ ks.length → fn ds s = .stuck
  ex : ∃ (f : Addr) (fd : FuncData), mg x = some (.ref f) ∧ PySem.W.keepIn P.K (.ref f) = true ∧ FnG Pg w P.K mg base k f fd ks (spF P ks.length fn) ∧ ∀ (s : Shared) (ws : List Value), P.K.In s.heap → ws.length = ks.length → BindsTo s fd ⟨[], ks.zip ws⟩ (ks.zip ws)
section
variable {X : Cx} {P : Pm} {E : XK}
theorem PK.mono {kws : List Keyword} {t t' : TA} (h : PK X kws t) (m : ∀ σ H Q, t' σ H Q → t σ H Q) : PK X kws t' := ⟨fun pos pins s σ H Q I q => h.run pos pins s σ H Q I (m σ H Q q)⟩
theorem k_nil : PK X [] (tA P E aNil) := PK.mono pk_nil fun σ H Q ⟨G, env, s, fs, c⟩ => c [] H fs (Ext.refl _ _) .nil
theorem k_cons {nm : Option Str} {kpos : Pos} {e : Expr} {kws : List Keyword} {f : Sm RV} {a : Sm (List D)} (h : PE X e (tE P E f)) (h' : PK X kws (tA P E a)) : PK X (⟨nm, e, kpos⟩ :: kws) (tA P E (aCons f a)) :=
  PK.mono (pk_cons h h') fun σ H Q h => by
    refine (tG_bind (R1 := RE P) (k := fun x env s => (a env s).bind fun xs s => .ok (x.d :: xs) s) h).mono fun v H1 ⟨G, env, s, x, f1, e1, r1, c, s0, f0⟩ => ?_
    refine (Cont_bind (R1 := RA P) f1 e1 c).mono fun w H2 ⟨s2, y, f2, e2, r2, c2⟩ => ?_
    exact c2 (v :: w) H2 f2 (e1.trans e2) (.cons ((RepR.rep r1 fun p => f0.fresh).ext f1.st f1.mtx e2) r2)
theorem x_callK {k : Nat} {x : Str} {ks : List Str} {fn : Fn} {kws : List Keyword} {a : Sm (List D)} {p pos : Pos} (h : HasK P X.prog X.w X.mg X.base k x ks fn) (hr : Room k X.A) (hA : X.A.guards = some []) (hg : Gl X x) (hx : Passes (L2.CX X.prog X.w) X E) (ha : PK X kws (tA P E a))
    (hall : (backToKw pos (keywordEach kws X.env)).all (·.1.isSome) = true := by rfl) (hks : (backToKw pos (keywordEach kws X.env)).filterMap (·.1) = ks := by rfl) (hdb : (x == ("__debug__" : Str)) = false := by decide +kernel)
    (hpl : ((backTo pos (starEach [] X.env)).any (·.1) || (backToKw pos (keywordEach kws X.env)).any (·.1.isNone)) = false := by rfl) (hK : P.K = X.K := by rfl) : PE X (.Call (.Name x p) [] kws pos) (tE P E (eCall fn a)) := by
  obtain ⟨f, fd, hm, hk, F, hb⟩ := h.ex
  rw [hK] at hk hb F
  refine ⟨fun pins s σ H Q I q => ?_⟩
  have q : tE P E (eCallD fn [] a) σ H Q := by
    have e : eCallD fn [] a = eCall fn a := by
      funext env s
      unfold eCallD eCall
      simp only [List.append_nil]
    rw [e]; exact q
  refine wpAny_Call_Name_kw (ld_glob I hg hm ?_ hdb)
  refine PySem.W.callWith_KW0 (h₀ := X.base) I.ok.mod.kin hk hall (thn (ha.run pos pins s σ H _ I (call_args (dvs := []) (fun _ _ _ => .nil) h.len q)) fun us s1 ⟨vs, H1, I1, r, q1⟩ => ⟨I1.kIn, ?_⟩) hpl
  rw [hks]
  have q1 : spF P ks.length fn (vs ++ []) H1 Q E := q1
  rw [List.append_nil] at q1
  exact run_g (ks := ks) (ws := us) F hr hA (hb s1 us I1.kIn (r.length.symm.trans q1.1)) r hx I1 q1
end
/-! ### the beginning -/
/-- a whole number of the slot's one -/
def tIn (g : Int → Int) (i : Nat) : TE := fun σ H Q => ∃ n, σ[i]? = some (some (.int n)) ∧ Q (.int (g n)) H
def ttIn (p : Int → Bool) (i : Nat) : TT := fun σ H Q => ∃ n, σ[i]? = some (some (.int n)) ∧ Q (p n) H
def tIntsC (K : PySem.W.Frag) (i : Nat) (p : Int → Bool) (g : Int → Int) : TE := fun σ H Q => i < σ.length ∧ ∃ (a : Addr) (ns : List Int), σ[0]? = some (some (.ref a)) ∧ SqL K H a (ns.map V.int) ∧ ns.length ≤ sizeLine ∧ ∀ q, H q = none → Q (.ref q) (upd H q (.lst ((ns.filter p).map fun n => V.int (g n))))
theorem sql_new {K : PySem.W.Frag} {H : Hp} {a q : Addr} {vs : List V} {o : HO} (h : SqL K H a vs) (hq : H q = none) : SqL K (upd H q o) a vs := by
  rcases h with (h | ⟨ob, h⟩) | h
  · exact .inl (.inl (by rw [upd_ne (ne_of_none h hq)]; exact h))
  · exact .inl (.inr ⟨ob, by rw [upd_ne (ne_of_none h hq)]; exact h⟩)
  · exact .inr h
theorem ints_at {K : PySem.W.Frag} {i : Nat} {p : Int → Bool} {g : Int → Int} {σ : L2.St} {H : Hp} {Q : VK} : tIntsC K i p g σ H Q → tLc (iList K (tVar 0)) (gName i) (ttIn p i) (tIn g i) [i] σ H Q :=
  fun ⟨hiσ, a, ns, h0, hq, hz, q⟩ => by
    refine ⟨.ref a, h0, a, rfl, ⟨_, hq⟩, fun D hD => ?_⟩
    have at_ : ∀ v : V, ((wipe σ [i]).set i (some v))[i]? = some (some v) := fun v => List.getElem?_set_self (by rw [wipe_length]; exact hiσ)
    have wp : ∀ v : V, wipe ((wipe σ [i]).set i (some v)) [i] = wipe σ [i] := fun v => by
      rw [wipe_set (List.mem_singleton.mpr rfl), wipe_wipe (i := 0) fun _ z => z]
    refine lc_list (xs := ns.map V.int) (fun n H' => H' = upd H D (.lst (((ns.take n).filter p).map fun n => V.int (g n)))) (by simp) (fun n H' _ e => by rw [e]; exact sql_new hq hD) (fun n v H' hv e => ?_) fun H' e => ?_
    · subst e
      rw [List.getElem?_map] at hv
      cases hn : ns[n]? with
      | none => rw [hn] at hv; cases hv
      | some m =>
        rw [hn] at hv
        cases hv
        have hlt := (List.getElem?_eq_some_iff.mp hn).1
        have tk : ns.take (n + 1) = ns.take n ++ [m] := by
          rw [List.take_add_one, hn]
          rfl
        refine ⟨wp _, m, at_ _, ?_⟩
        by_cases hp : p m = true
        · show (if p m = true then _ else _)
          rw [if_pos hp]
          refine ⟨m, at_ _, _, upd_same, ?_, ?_⟩
          · have h1 := List.length_filter_le p (ns.take n)
            rw [List.length_map]
            rw [List.length_take] at h1
            omega
          · rw [upd_upd, tk, List.filter_append, List.map_append]
            simp [hp]
        · show (if p m = true then _ else _)
          rw [if_neg hp, tk, List.filter_append, List.map_append]
          simp [hp]
    · rw [List.length_map] at e
      rw [e, List.take_length]
      exact q D hD
theorem pe_intsC {X : Cx} {i : Nat} {x : Str} {elt tg iter : Expr} {ifs : List Expr} {scope : Scope} {pos : Pos} {p : Int → Bool} {g : Int → Int} (hc : X.calm = true) (hN : X.N.Nodup) (hi : PE X iter (tVar 0)) (ok : BlkOk X.N X.env.scope scope [(x, i)]) (hil : i < X.N.length)
    (hg : ∀ (s : Shared) (H : Hp) (C : Addr) (cl : List (Str × Addr)) (fp : List Addr), PG (X.blk s H scope (compEnvC scope cl C X.env) fp) tg (gName i)) (ht : ∀ (s : Shared) (H : Hp) (C : Addr) (cl : List (Str × Addr)) (fp : List Addr), PTs (X.blk s H scope (compEnvC scope cl C X.env) fp) ifs (ttIn p i))
    (he : ∀ (s : Shared) (H : Hp) (C : Addr) (cl : List (Str × Addr)) (fp : List Addr), PE (X.blk s H scope (compEnvC scope cl C X.env) fp) elt (tIn g i)) (hs : ∀ x, foldedSetIterable iter X.env x = pure x := by intro _; rfl) :
    PE X (.ListComp elt [⟨tg, iter, ifs, 0⟩] scope pos) (tIntsC X.K i p g) :=
  PE.mono (pe_lc hc hN (pi_list hi) ok hg ht he hs) fun _ _ _ => ints_at
theorem ps_intsC {X : Cx} {l : Nat} {y : Str} {py spos : Pos} {i : Nat} {x : Str} {elt tg iter : Expr} {ifs : List Expr} {scope : Scope} {pos : Pos} {p : Int → Bool} {g : Int → Int} (hc : X.calm = true) (hN : X.N.Nodup) (hi0 : X.N[l]? = some y) (hyl : X.env.scope.names.lookup y = some .local) (hi : PE X iter (tVar 0)) (ok : BlkOk X.N X.env.scope scope [(x, i)]) (hil : i < X.N.length)
    (hg : ∀ (s : Shared) (H : Hp) (C : Addr) (cl : List (Str × Addr)) (fp : List Addr), PG (X.blk s H scope (compEnvC scope cl C X.env) fp) tg (gName i)) (ht : ∀ (s : Shared) (H : Hp) (C : Addr) (cl : List (Str × Addr)) (fp : List Addr), PTs (X.blk s H scope (compEnvC scope cl C X.env) fp) ifs (ttIn p i))
    (he : ∀ (s : Shared) (H : Hp) (C : Addr) (cl : List (Str × Addr)) (fp : List Addr), PE (X.blk s H scope (compEnvC scope cl C X.env) fp) elt (tIn g i)) (hs : ∀ x, foldedSetIterable iter X.env x = pure x := by intro _; rfl) (hsw : swapsWith (.ListComp elt [⟨tg, iter, ifs, 0⟩] scope pos) (some (.Name y py)) spos.line X.env = pure true := by exact sw_true rfl rfl rfl rfl) :
    PS X (.Assign [.Name y py] (.ListComp elt [⟨tg, iter, ifs, 0⟩] scope pos) spos) (tAsg (tIntsC X.K i p g) (gName l)) :=
  PS.mono (ps_setLc hc hN hi0 hyl hsw (pi_list hi) ok hg ht he hs) fun _ _ _ => ints_at
end Ev

set_option maxHeartbeats 2000000
/-! Ev30: the def that begins the drawing state: own work. -/
namespace Ev
open PySem PySem.Spec PyProof.Rows L2 LamX
section
variable {X : Cx} {x : Str} {p p2 pos p3 p4 p5 p6 : Pos} {j1 j2 : Nat}
theorem b_abs (i : Nat) (hm : X.mg "abs" = none) (hg : Gl X "abs" := by rfl) (hN : X.N[i]? = some x := by rfl) (hv : Vis X.env.scope x := by first | exact Or.inl rfl | exact Or.inr (Or.inl rfl) | exact Or.inr (Or.inr rfl)) (hd : (x == ("__debug__" : Str)) = false := by decide +kernel) (hcd : (x == ("__classdict__" : Str)) = false := by decide +kernel)
    (hs : starEach [.Name x p2] X.env = (false, eval (.Name x p2) X.env) :: starEach [] X.env := by rfl) : PE X (.Call (.Name "abs" p) [.Name x p2] [] pos) (tIn absI i) :=
  PE.mono (pe_callB call_abs hg hm (by decide +kernel) (pa_cons (pe_var (i := i) hN hv hd hcd) pa_nil hs) (by decide +kernel) (by decide +kernel) hs rfl) fun σ H Q ⟨n, h, q⟩ => ⟨.int n, h, n, rfl, q⟩
theorem b_pow : PE X (.BinOp (.Constant (.int 10) j1 p) .Pow (.Constant (.int 18) j2 p2) pos) (tC (.int (10 ^ 18))) :=
  PE.mono (pe_op op_pow pe_int pe_int) fun σ H Q q => ⟨10, 18, rfl, rfl, ⟨by decide, by decide, by decide⟩, q⟩
theorem b_great (i : Nat) {e : Expr} (h : PE X e (tIn absI i)) : PE X (.BinOp e .Sub (.BinOp (.Constant (.int 10) j1 p) .Pow (.Constant (.int 18) j2 p2) p3) pos) (tIn (fun n => absI n - 10 ^ 18) i) :=
  PE.mono (pe_op op_sub h b_pow) fun σ H Q ⟨n, e, q⟩ => ⟨n, e, absI n, 10 ^ 18, rfl, rfl, q⟩
theorem b_test (i : Nat) {e : Expr} (h : PE X e (tIn absI i)) : PTs X [.Compare e [.GtE] [.BinOp (.Constant (.int 10) j1 p) .Pow (.Constant (.int 18) j2 p2) p3] pos] (ttIn (fun n => decide (10 ^ 18 ≤ absI n)) i) :=
  pts_one (PT.mono (pt_cmpR op_ge h b_pow (nomark _)) fun σ H Q ⟨n, e, q⟩ => ⟨n, e, absI n, 10 ^ 18, rfl, rfl, _, rfl, q⟩)
theorem b_yes (i : Nat) : PTs X [] (ttIn (fun _ => true) i) := ⟨fun pins s σ H Q I ⟨n, e, q⟩ => wpAny_tests_nil ⟨H, I, q⟩⟩
end
def tBegun (K : PySem.W.Frag) : TS := tSeq (tAsg (tIntsC K 2 (fun n => decide (10 ^ 18 ≤ absI n)) fun n => absI n - 10 ^ 18) (gName 1))
  (tRet (tDisp [(tC (.str "great"), tVar 1), (tC (.str "cells"), tIntsC K 2 (fun _ => true) absI), (tC (.str "rest"), tC (.int 0)), (tC (.str "turn"), tC (.int 0))]))
def spBegun (K : PySem.W.Frag) : Sp := fun vs H Q _ => ∃ (a : Addr) (ns : List Int), vs = [.ref a] ∧ SqL K H a (ns.map V.int) ∧ ns.length ≤ sizeLine ∧
  ∀ (ta tg tc : Addr) (H' : Hp), (∀ b o, H b = some o → H' b = some o) → H ta = none → H tg = none → H tc = none → tg ≠ tc → H' ta = some (.dK (stKvs ⟨ta, tg, tc, []⟩ (begun ns))) → H' tg = some (.lst ((begun ns).great.map V.int)) → H' tc = some (.lst ((begun ns).cells.map V.int)) → Q (.ref ta) H'
theorem begun_does {K : PySem.W.Frag} {vs : List V} {H : Hp} {Q : VK} {E : XK} {D : Ends} (hD : D.rt = Q) {n1 n2 n3 : Str} (h : spBegun K vs H Q E) : tBegun K D (L2.start [n1, n2, n3] vs) H := by
  obtain ⟨a, ns, rfl, hS, hz, q⟩ := h
  refine ⟨by show 2 < 3; decide, a, ns, rfl, hS, hz, fun tg hg => ?_⟩
  show tDisp _ _ _ D.rt
  rw [hD]
  intro ta ha
  have nga : tg ≠ ta := fun z => by rw [z, upd_same] at ha; cases ha
  have ha0 : H ta = none := by rw [upd_ne (Ne.symm nga)] at ha; exact ha
  refine ⟨.ref tg, rfl, by show 2 < 3; decide, a, ns, rfl, sql_new (sql_new hS hg) ha, hz, fun tc hc => ?_⟩
  have nca : tc ≠ ta := fun z => by rw [z, upd_same] at hc; cases hc
  have ncg : tc ≠ tg := fun z => by rw [z, upd_ne nga, upd_same] at hc; cases hc
  have hc0 : H tc = none := by rw [upd_ne nca, upd_ne ncg] at hc; exact hc
  refine ⟨by rw [upd_ne (Ne.symm nca), upd_same], [(.inr "great", .ref tg), (.inr "cells", .ref tc), (.inr "rest", .int 0), (.inr "turn", .int 0)], rfl, by show 4 ≤ 15; decide, ?_⟩
  refine q ta tg tc _ (fun b o e => ?_) ha0 hg hc0 (Ne.symm ncg) (by rw [upd_same]; rfl) ?_ ?_
  · have w1 : upd H tg (.lst ((ns.filter fun n => decide (10 ^ 18 ≤ absI n)).map fun n => V.int (absI n - 10 ^ 18))) b = some o := by rw [upd_ne (ne_of_none e hg)]; exact e
    have w2 := w1
    rw [upd_ne (ne_of_none e ha0), upd_ne (ne_of_none e hc0), upd_ne (ne_of_none e ha0)]
    exact w2
  · rw [upd_ne nga, upd_ne (Ne.symm ncg), upd_ne nga, upd_same]
    show _ = some (HO.lst (((ns.filter fun n => decide (10 ^ 18 ≤ absI n)).map fun n => absI n - 10 ^ 18).map V.int))
    rw [List.map_map]
    rfl
  · rw [upd_ne nca, upd_same]
    show _ = some (HO.lst ((ns.map absI).map V.int))
    rw [List.map_map, List.filter_eq_self.mpr fun _ _ => rfl]
    rfl
/-- the def's promise, by its derivation -/
theorem begun_ok {Pg : Program} {w : World} {K : PySem.W.Frag} {mg : Str → Option Value} {base : Heap} {x qual : Str} {params : Arguments} {body : List Stmt} {scope : Scope} {f : Addr} {fd : FuncData} {n1 n2 n3 : Str} (F : FunD K x qual params body scope [] [] f fd) (S : FnScope [n1, n2, n3] [n1] scope)
    (hbody : ∀ (cdv : Value) (A : Around) (outer : List Env) (s : Shared) (H : Hp) (E : XK), Room 1 (A.deeper (envOfC qual scope s.heap.objs.size f cdv)) → PSs (cxOf (L2.CX Pg w) Pg w K mg base [n1, n2, n3] qual scope f cdv A outer s H E) body (tBegun K)) : FnG Pg w K mg base 2 f fd [n1] (spBegun K) :=
  FnG.of F S (fun vs H Q E ⟨a, ns, e, _⟩ => by rw [e]; rfl) fun cdv A outer s H vs Q E hr hg h => ⟨_, hbody cdv A outer s H E hr, begun_does rfl h⟩
end Ev

set_option maxHeartbeats 2000000
/-! Ev31: defs that make functions without a name; the law's own def: own work. -/
namespace Ev
open PySem PySem.Spec PyProof.Rows L2 LamX
/-- by its body, the code object's place being known -/
theorem FnG.ofC {Pg : Program} {w : World} {K : PySem.W.Frag} {mg : Str → Option Value} {base : Heap} {x qual : Str} {params : Arguments} {body : List Stmt} {scope : Scope} {dvs : List V} {kws : List (Str × V)} {pd : Str × Option Str} {fd : FuncData} {N ps : List Str} {k : Nat} {sp : Sp}
    (F : FunD K x qual params body scope dvs kws (He.fAd K pd) fd) (S : FnScope N ps scope) (len : ∀ vs H Q E, sp vs H Q E → vs.length = ps.length)
    (hbody : ∀ (A : Around) (outer : List Env) (s : Shared) (H : Hp) (vs : List V) (Q : VK) (E : XK), Room k (A.deeper (envOfC qual scope s.heap.objs.size (He.fAd K pd) (.ref (He.codeOf K pd)))) → A.guards = some [] → sp vs H Q E →
      ∃ t, PSs (cxOf (L2.CX Pg w) Pg w K mg base N qual scope (He.fAd K pd) (.ref (He.codeOf K pd)) A outer s H E) body t ∧ t { nx := fun _ H' => Q .non H', rt := Q } (L2.start N vs) H) : FnG Pg w K mg base (k + 1) (He.fAd K pd) fd ps sp := by
  obtain ⟨oc, od, dV, kV, doc, pm, an, cdv, ct, osl, rfl, lk, hcd, _, _⟩ := F.ex
  obtain ⟨c, rfl⟩ := He.codeIn_ref hcd
  have e : He.codeOf K pd = c := He.codeOf_eq lk rfl
  rw [e] at hbody
  exact ⟨len, fun A outer s H args us vs Q E hr hg e0 hb r hsp => LamX.run_ofS lk hcd S hr e0 hb r (len _ _ _ _ hsp) fun hr' => hbody A outer s H vs Q E hr' hg hsp⟩
abbrev Pm.with (P : Pm) (c : Nat → Addr → List (Addr × (Heap → Prop)) → Prop) : Pm := { P with clo := c }
/-- a def with functions of its own -/
theorem FnG.byC {Pg : Program} {w : World} {mg : Str → Option Value} {base : Heap} {P : Pm} {x qual : Str} {params : Arguments} {body : List Stmt} {scope : Scope} {dvs : List V} {kws : List (Str × V)} {pd : Str × Option Str} {fd : FuncData} {N ps : List Str} {k m l kl : Nat} {lam : Nat → Sm RV} {b : Stm}
    (F : FunD P.K x qual params body scope dvs kws (He.fAd P.K pd) fd) (S : FnScope N ps scope) (hm : ps.length = m) (hN : N.length = m + l)
    (hbody : ∀ (A : Around) (outer : List Env) (s : Shared) (H : Hp) (E : XK), Room k (A.deeper (envOfC qual scope s.heap.objs.size (He.fAd P.K pd) (.ref (He.codeOf P.K pd)))) → A.guards = some [] →
      PSs (cxOf (L2.CX Pg w) Pg w P.K mg base N qual scope (He.fAd P.K pd) (.ref (He.codeOf P.K pd)) A outer s H E) body (tS (P.with (CloS (cxOf (L2.CX Pg w) Pg w P.K mg base N qual scope (He.fAd P.K pd) (.ref (He.codeOf P.K pd)) A outer s H E) P kl lam)) E b)) :
    FnG Pg w P.K mg base (k + 1) (He.fAd P.K pd) fd ps (spF P m (fnOf m l b)) := by
  refine FnG.ofC F S (fun vs H Q E h => h.1.trans hm.symm) fun A outer s H vs Q E hr hg h => ⟨_, hbody A outer s H E hr hg, ?_⟩
  obtain ⟨lv, T, M, ds, s', tb, st, mt, dm, r, c⟩ := h
  exact body_start (P := P.with _) st mt dm r lv hN tb c
/-- what a call needs is told of either -/
theorem Has.with {P : Pm} {Pg : Program} {w : World} {mg : Str → Option Value} {base : Heap} {k : Nat} {x : Str} {m : Nat} {fn : Fn} {dd : List D} (h : Has P Pg w mg base k x m fn dd) (c : Nat → Addr → List (Addr × (Heap → Prop)) → Prop) : Has (P.with c) Pg w mg base k x m fn dd := ⟨h.len, h.ex⟩
theorem HasK.with {P : Pm} {Pg : Program} {w : World} {mg : Str → Option Value} {base : Heap} {k : Nat} {x : Str} {ks : List Str} {fn : Fn} (h : HasK P Pg w mg base k x ks fn) (c : Nat → Addr → List (Addr × (Heap → Prop)) → Prop) : HasK (P.with c) Pg w mg base k x ks fn := ⟨h.len, h.ex⟩
theorem ExF.with {P : Pm} {mg : Str → Option Value} {x : Str} (h : ExF P mg x) (c : Nat → Addr → List (Addr × (Heap → Prop)) → Prop) : ExF (P.with c) mg x := ⟨h.ex⟩
theorem ExS.with {P : Pm} {mg : Str → Option Value} {x : Str} {isS : Str → Option Bool} (h : ExS P mg x isS) (c : Nat → Addr → List (Addr × (Heap → Prop)) → Prop) : ExS (P.with c) mg x isS := ⟨h.ex⟩
theorem XiOk.with {P : Pm} {CE : Value} {isE : Str → Bool} (h : XiOk P CE isE) (c : Nat → Addr → List (Addr × (Heap → Prop)) → Prop) : XiOk (P.with c) CE isE := ⟨h.xi, h.exm⟩
/-- the law's def: of a script of at most n numbers -/
def spLaw (P : Pm) (n : Nat) : Sp := fun vs H Q _ => ∃ (a : Addr) (ns : List Int), vs = [.ref a] ∧ SqF P.K H a (ns.map V.int) ∧ ns.length ≤ n ∧ Tabs P.tb H ∧ ∀ H', Q (.bl true) H'
/-- the state's name stands in slot 1 -/
theorem law_start {P : Pm} {E : XK} {n k : Nat} {N : List Str} {vs : List V} {H : Hp} {Q : VK} {b : Stm} (hN : N.length = 2 + k) (hn : n ≤ sizeLine) (h : spLaw P n vs H Q E) (hp : ∀ ns : List Int, ns.length ≤ n → ∃ s', b ([.im (.scr ns.length), .im .st] ++ List.replicate k .un) (begun ns) = .rt (.im (.bl true)) s') :
    tSeq (tAsg (tCall (spBegun P.K) [] E (tCons (tVar 0) tNil)) (gName 1)) (tS P E b) { nx := fun _ H' => Q .non H', rt := Q } (L2.start N vs) H := by
  obtain ⟨a, ns, rfl, hS, hl, ht, q⟩ := h
  refine ⟨.ref a, rfl, a, ns, rfl, hS.1, by omega, fun ta tg tc H' hs h1 h2 h3 h4 h5 h6 h7 => ?_⟩
  have st : StOk ⟨ta, tg, tc, P.tb⟩ H' (begun ns) := ⟨h5, h6, h7, h4, ht.ext hs⟩
  obtain ⟨s', hb⟩ := hp ns hl
  have hSF : SqF P.K H' a (ns.map V.int) := hS.keep fun a ob u e => hs _ _ e
  refine ⟨⟨⟨ta, tg, tc, P.tb⟩, (⟨ta, tg, tc, P.tb⟩ : Tk).has, H', [], fun _ => False, [], []⟩, [.im (.scr ns.length), .im .st] ++ List.replicate k .un, begun ns, ?_, ?_⟩
  · have get : ∀ {i : Nat} {sl : Slot}, ([Slot.im (.scr ns.length), .im .st] ++ List.replicate k .un)[i]? = some sl → (i = 0 ∧ sl = .im (.scr ns.length)) ∨ (i = 1 ∧ sl = .im .st) ∨ sl = .un := fun {i sl} e => by
      match i with
      | 0 => cases e; exact .inl ⟨rfl, rfl⟩
      | 1 => cases e; exact .inr (.inl ⟨rfl, rfl⟩)
      | i + 2 =>
        refine .inr (.inr ?_)
        rw [List.getElem?_append_right (by show 2 ≤ i + 2; omega)] at e
        exact List.eq_of_mem_replicate (List.mem_of_getElem? e)
    have nm : ∀ {i : Nat} {xs : List D}, ([Slot.im (.scr ns.length), .im .st] ++ List.replicate k .un)[i]? ≠ some (.mu xs) := fun {i xs} e => by
      rcases get e with ⟨_, z⟩ | ⟨_, z⟩ | z <;> cases z
    refine ⟨st, fun _ z => z, fun c z => .inl (st.some_of z), fun c z => z.elim, Ext.refl _ _, ?_, fun i d e => ?_, fun i xs e => absurd e nm, fun i j xs ys c e => absurd e nm, (fun p e => by cases e), (fun i j e => ?_), (fun p e => by cases e), rfl, (fun p e => by cases e)⟩
    · rw [List.length_append, List.length_replicate, List.length_set]
      unfold L2.start
      rw [List.length_append, List.length_map, List.length_replicate]
      show 2 + k = 1 + (N.length - 1)
      omega
    · rcases get e with ⟨rfl, z⟩ | ⟨rfl, z⟩ | z
      · cases z
        refine ⟨.ref a, rfl, ?_⟩
        have z := Rep.scr (K := P.K) (T := ⟨ta, tg, tc, P.tb⟩) (M := Mx ⟨⟨ta, tg, tc, P.tb⟩, (⟨ta, tg, tc, P.tb⟩ : Tk).has, H', [], fun _ => False, [], []⟩ ((L2.start N [.ref a]).set 1 (some (.ref ta))) ([.im (.scr ns.length), .im .st] ++ List.replicate k .un)) hSF
        rw [List.length_map] at z
        exact z
      · cases z
        refine ⟨.ref ta, List.getElem?_set_self ?_, .st⟩
        unfold L2.start
        rw [List.length_append, List.length_map, List.length_replicate]
        show 1 < 1 + (N.length - 1)
        omega
      · cases z
    · rcases get e with ⟨_, z⟩ | ⟨_, z⟩ | z <;> cases z
  · rw [hb]
    exact fun v H2 _ _ r => by
      have r : Rep _ _ _ _ v (.bl true) := r
      cases r
      exact q H2
end Ev

set_option maxHeartbeats 2000000
/-! Ev32: the law's def is run behind the top: own work. -/
namespace Ev
open PySem PySem.Spec PyProof.Rows L2 LamX
theorem guards0 : callerA.guards = some [] := by rfl
/-- the abstract heap behind the top: tables, perhaps the script -/
structure Top0 (cs : List (Addr × Addr)) (a : Addr) (H : Hp) : Prop where
  tab : ∀ p ∈ cs, H p.2 = some (.tbl #[])
  only : ∀ b, H b = none ∨ b ∈ cs.map (·.2) ∨ (b = a ∧ ∃ o xs, H b = some (.frz o (.lst xs)))
theorem law_core {Pg : Program} {w : World} {K : PySem.W.Frag} {mg mb : Str → Option Value} {k : Nat} {fa a : Addr} {cs : List (Addr × Addr)} {fd : FuncData} {x : Str} {sp : Sp} {S : Shared} {vals : List Value} {HH : Hp}
    (inK : K.In S.heap) (nsG : S.heap.Ns mainGlobals mg) (nsB : S.heap.Ns builtinsNs mb) (boot : ∀ x : Str, x ≠ "__name__" → mb x = bootBuiltins x) (lim : S.heap.NoLimit) (gens0 : S.gens = #[])
    (tab : ∀ p ∈ cs, S.heap.get? p.2 = some { cls := .none, data := .fields #[] }) (tabK : ∀ p ∈ cs, K.lookup p.2 = none) (codes : ∀ p ∈ cs, PySem.W.CodeHd S.heap p.1 p.2)
    (bmod : ∃ (bm : Addr) (ob : Obj), mg "__builtins__" = some (.ref bm) ∧ bm ≠ builtinsNs ∧ S.heap.get? bm = some ob ∧ ob.cls = .type "module" ∧ ob.dict = some builtinsNs ∧ ob.data = .plain)
    (scr : S.heap.get? a = some { cls := .type "list", data := .seq vals.toArray }) (room : Room k callerA) (F : ∀ base : Heap, K.In base → base.Ns mainGlobals mg → (∀ p ∈ cs, TabB base mg p.1 p.2) → FnG Pg w K mg base k fa fd [x] sp)
    (bind : ∀ (s : Shared) (u : Value), BindsTo s fd ⟨[u], []⟩ [(x, u)]) (T : Top0 cs a HH) (okH : HOk Pg w HH S.heap) (kA : HH a ≠ none → K.lookup a = none) (spec : sp [.ref a] HH (fun v _ => v = .bl true) fun _ _ _ => False) :
    codeAny (model Pg w) callerA (.call (.ref fa) ⟨[.ref a], []⟩) (fun r s' => r = .ok (.ret (.bool true)) ∧ OldK S.heap s'.heap ∧ s'.os = S.os ∧ AllBare s'.gens) S := by
  have at_ : ∀ b, b ∈ cs.map (·.2) → S.heap.get? b = some { cls := .none, data := .fields #[] } := fun b m => by
    obtain ⟨p, m1, m2⟩ := List.mem_map.mp m
    exact m2 ▸ tab p m1
  -- an object of another kind is not tracked
  have free : ∀ {b : Addr} {o : Obj}, S.heap.get? b = some o → (∀ vs n, o.data ≠ .seq vs n) → o.data ≠ .fields #[] → HH b = none := fun {b o} e d1 d2 => by
    rcases T.only b with z | z | ⟨z, _⟩
    · exact z
    · rw [at_ b z] at e
      cases e
      exact absurd rfl d2
    · rw [z, scr] at e
      cases e
      exact absurd rfl (d1 _ _)
  have dic : ∀ {b : Addr} {m : Str → Option Value}, S.heap.Ns b m → (hidT S.heap HH).Ns b m := fun {b m} ⟨o, es, ep, e, d, r⟩ =>
    ⟨o, es, ep, hidT_get e (free e (fun vs n z => by rw [d] at z; cases z) fun z => by rw [d] at z; cases z), d, r⟩
  have inK' : K.In (hidT S.heap HH) := fun b o e => by
    refine hidT_get (inK b o e) ?_
    rcases T.only b with z | z | ⟨z, _⟩
    · exact z
    · obtain ⟨p, m1, m2⟩ := List.mem_map.mp z
      have q := tabK p m1
      rw [show p.2 = b from m2, e] at q
      cases q
    · cases q : HH b with
      | none => rfl
      | some u =>
        have w := kA (by rw [← z, q]; simp)
        rw [← z, e] at w
        cases w
  have nl : (hidT S.heap HH).NoLimit := by
    obtain ⟨mc, l1, l2⟩ := lim
    exact ⟨mc, dic l1, l2⟩
  have TB : ∀ p ∈ cs, TabB (hidT S.heap HH) mg p.1 p.2 := fun p hp => by
    refine ⟨?_, ?_, fun z => ?_⟩
    · obtain ⟨o, us, file, tf, flags, tg, inF, text, tt, e1, r1, r2, r3, rest⟩ := codes p hp
      refine ⟨o, us, file, tf, flags, tg, inF, text, tt, hidT_get e1 (free e1 (fun vs n z => by rw [r2] at z; cases z) fun z => ?_), r1, r2, r3, rest⟩
      rw [r2] at z
      cases z
      simp at r3
    · obtain ⟨bm, ob, b1, b2, b3, b4, b5, b6⟩ := bmod
      refine ⟨bm, ob, b1, b2, fun q => ?_, fun q => ?_, hidT_get b3 (free b3 (fun vs n z => by rw [b6] at z; cases z) fun z => by rw [b6] at z; cases z), b4, b5, b6⟩
      · obtain ⟨o, es, ep, e, d, _⟩ := nsG
        rw [q, e] at b3
        cases b3
        rw [d] at b6
        cases b6
      · rw [q, tab p hp] at b3
        cases b3
        cases b6
    · obtain ⟨o, es, ep, e, d, _⟩ := nsG
      rw [z, tab p hp] at e
      cases e
      cases d
  have start : Env0 Pg w K mg (hidT S.heap HH) callerA [] S HH :=
    ⟨rfl, ⟨inK', dic nsG, ⟨mb, dic nsB, boot⟩, nl⟩, fun b o e => of_hidT e, Nat.le_of_eq (hidT_size _ _), trivial, (fun b m => by cases (show b ∈ ([] : List Addr) from m)), okH, .of_eq gens0⟩
  refine codeAny_mono ((F _ inK' (dic nsG) TB).run callerA [] S HH ⟨[.ref a], []⟩ [.ref a] [.ref a] _ _ room guards0 start (bind S (.ref a)) (.cons rfl .nil) spec) fun r s' h => ?_
  cases r with
  | error e =>
    obtain ⟨_, _, _, _, _, _, _, _, _, _, _, _, z⟩ := h
    exact z.elim
  | ok fl => cases fl with
    | ret u =>
      obtain ⟨v, H', os, bare, un, okH', rv, q⟩ := h
      obtain rfl : v = .bl true := q
      obtain rfl : u = Value.bool true := rv
      have same : ∀ b o, b ∉ cs.map (·.2) → S.heap.get? b = some o → s'.heap.get? b = some o := fun b o nb e => by
        rcases T.only b with z | z | ⟨_, ob, xs, z⟩
        · exact un.keep b o e z (fun m => by cases (show b ∈ ([] : List Addr) from m)) (fun m => by cases m)
        · exact absurd z nb
        · obtain ⟨e1, _⟩ := okH b _ z
          obtain ⟨e2, _⟩ := okH' b _ (un.frzs b ob _ z)
          rw [e] at e1
          cases e1
          exact e2
      have more : ∀ p ∈ cs, ∃ m : Array Value, s'.heap.get? p.2 = some { cls := .none, data := .fields m } := fun p hp => by
        obtain ⟨m, z⟩ := un.tbls p.2 #[] (T.tab p hp)
        exact ⟨_, okH' p.2 _ z⟩
      refine ⟨rfl, ⟨fun b o e => ?_, fun b o e => ?_⟩, os, bare⟩
      · by_cases m : b ∈ cs.map (·.2)
        · obtain ⟨p, hp, rfl⟩ := List.mem_map.mp m
          obtain ⟨ms, hm⟩ := more p hp
          rw [tab p hp] at e
          cases e
          exact .inr (.inl ⟨((codes p hp).tab (tab p hp)).isCodeTable, rfl, #[], ms, rfl, by rw [Array.empty_append]; exact hm⟩)
        · exact .inl (same b o m e)
      · by_cases m : b ∈ cs.map (·.2)
        · obtain ⟨p, hp, rfl⟩ := List.mem_map.mp m
          obtain ⟨ms, hm⟩ := more p hp
          exact ⟨_, hm⟩
        · exact ⟨o, same b o m e⟩
    | _ => exact False.elim h
theorem law_run {Pg : Program} {w : World} {K : PySem.W.Frag} {mg mb : Str → Option Value} {k : Nat} {fa a : Addr} {cs : List (Addr × Addr)} {fd : FuncData} {x : Str} {sp : Sp} {S : Shared} {vals : List Value} {ns : List Int}
    (inK : K.In S.heap) (nsG : S.heap.Ns mainGlobals mg) (nsB : S.heap.Ns builtinsNs mb) (boot : ∀ x : Str, x ≠ "__name__" → mb x = bootBuiltins x) (lim : S.heap.NoLimit) (gens0 : S.gens = #[])
    (tab : ∀ p ∈ cs, S.heap.get? p.2 = some { cls := .none, data := .fields #[] }) (tabK : ∀ p ∈ cs, K.lookup p.2 = none) (codes : ∀ p ∈ cs, PySem.W.CodeHd S.heap p.1 p.2)
    (bmod : ∃ (bm : Addr) (ob : Obj), mg "__builtins__" = some (.ref bm) ∧ bm ≠ builtinsNs ∧ S.heap.get? bm = some ob ∧ ob.cls = .type "module" ∧ ob.dict = some builtinsNs ∧ ob.data = .plain)
    (scr : S.heap.get? a = some { cls := .type "list", data := .seq vals.toArray }) (whole : IntsAre vals ns) (len : ns.length ≤ sizeLine) (room : Room k callerA) (F : ∀ base : Heap, K.In base → base.Ns mainGlobals mg → (∀ p ∈ cs, TabB base mg p.1 p.2) → FnG Pg w K mg base k fa fd [x] sp)
    (bind : ∀ (s : Shared) (u : Value), BindsTo s fd ⟨[u], []⟩ [(x, u)]) (spec : ∀ HH : Hp, (∀ p ∈ cs, HH p.2 = some (.tbl #[])) → SqF K HH a (ns.map V.int) → sp [.ref a] HH (fun v _ => v = .bl true) fun _ _ _ => False) :
    codeAny (model Pg w) callerA (.call (.ref fa) ⟨[.ref a], []⟩) (fun r s' => r = .ok (.ret (.bool true)) ∧ OldK S.heap s'.heap ∧ s'.os = S.os ∧ AllBare s'.gens) S := by
  have rv := vals_ints whole
  have lv := whole.length
  have at_ : ∀ b, b ∈ cs.map (·.2) → S.heap.get? b = some { cls := .none, data := .fields #[] } := fun b m => by
    obtain ⟨p, m1, m2⟩ := List.mem_map.mp m
    exact m2 ▸ tab p m1
  have na : a ∉ cs.map (·.2) := fun m => by
    have q := at_ a m
    rw [scr] at q
    cases q
  have mem : ∀ p ∈ cs, p.2 ∈ cs.map (·.2) := fun p hp => List.mem_map.mpr ⟨p, hp, rfl⟩
  cases hk : K.lookup a with
  | some o =>
    have e := inK a o hk
    rw [scr] at e
    cases e
    have inl : ∀ HH : Hp, SqL K HH a (ns.map V.int) := fun HH => .inr ⟨_, vals.toArray, _, hk, rfl, rfl, rfl, by rw [List.size_toArray, lv]; exact len, by simpa using rv⟩
    refine law_core (HH := fun b => if b ∈ cs.map (·.2) then some (.tbl #[]) else none) inK nsG nsB boot lim gens0 tab tabK codes bmod scr room F bind ⟨fun p hp => if_pos (mem p hp), fun b => ?_⟩ (fun b u z => ?_) (fun z => absurd (if_neg na) z) (spec _ (fun p hp => if_pos (mem p hp)) ⟨inl _, .inr inl⟩)
    · by_cases m : b ∈ cs.map (·.2)
      · exact .inr (.inl m)
      · exact .inl (if_neg m)
    · have z : (if b ∈ cs.map (·.2) then some (HO.tbl #[]) else none) = some u := z
      by_cases m : b ∈ cs.map (·.2)
      · rw [if_pos m] at z
        cases z
        exact at_ b m
      · rw [if_neg m] at z
        cases z
  | none =>
    have fz : ∀ b, b = a → (if b = a then some (HO.frz { cls := .type "list", data := .seq vals.toArray } (.lst (ns.map V.int))) else if b ∈ cs.map (·.2) then some (.tbl #[]) else none) = some (HO.frz { cls := .type "list", data := .seq vals.toArray } (.lst (ns.map V.int))) := fun b e => if_pos e
    have ft : ∀ p ∈ cs, (if p.2 = a then some (HO.frz { cls := .type "list", data := .seq vals.toArray } (.lst (ns.map V.int))) else if p.2 ∈ cs.map (·.2) then some (.tbl #[]) else none) = some (HO.tbl #[]) := fun p hp => by
      rw [if_neg fun z => na (by rw [← z]; exact mem p hp), if_pos (mem p hp)]
    refine law_core (HH := fun b => if b = a then some (HO.frz { cls := .type "list", data := .seq vals.toArray } (.lst (ns.map V.int))) else if b ∈ cs.map (·.2) then some (.tbl #[]) else none) inK nsG nsB boot lim gens0 tab tabK codes bmod scr room F bind ⟨ft, fun b => ?_⟩ (fun b u z => ?_) (fun _ => hk)
      (spec _ ft ⟨.inl (.inr ⟨_, fz a rfl⟩), .inl ⟨_, fz a rfl⟩⟩)
    · by_cases e : b = a
      · exact .inr (.inr ⟨e, _, _, fz b e⟩)
      · by_cases m : b ∈ cs.map (·.2)
        · exact .inr (.inl m)
        · exact .inl (by rw [if_neg e, if_neg m])
    · have z : (if b = a then some (HO.frz { cls := .type "list", data := .seq vals.toArray } (.lst (ns.map V.int))) else if b ∈ cs.map (·.2) then some (.tbl #[]) else none) = some u := z
      by_cases e : b = a
      · rw [if_pos e] at z
        cases z
        rw [e]
        exact ⟨scr, by rw [List.length_map]; exact len, vals, _, rv, scr⟩
      · rw [if_neg e] at z
        by_cases m : b ∈ cs.map (·.2)
        · rw [if_pos m] at z
          cases z
          exact at_ b m
        · rw [if_neg m] at z
          cases z
/-- what is known of the law's promise at the heap behind the top -/
def LawG (l : PySem.W.OpenLaw) (w : World) (K : PySem.W.Frag) (k n : Nat) (x : Str) (mg : Str → Option Value) (fa : Addr) (h : Heap) : Prop :=
  ∃ (fd : FuncData) (cs : List (Addr × Addr)) (sp : Sp), (∀ p ∈ cs, h.get? p.2 = some { cls := .none, data := .fields #[] }) ∧ (∀ p ∈ cs, K.lookup p.2 = none) ∧ (∀ p ∈ cs, PySem.W.CodeHd h p.1 p.2) ∧ (∀ (s : Shared) (u : Value), BindsTo s fd ⟨[u], []⟩ [(x, u)]) ∧
    (∀ (HH : Hp) (a : Addr) (ns : List Int), ns.length ≤ n → (∀ p ∈ cs, HH p.2 = some (.tbl #[])) → SqF K HH a (ns.map V.int) → sp [.ref a] HH (fun v _ => v = .bl true) fun _ _ _ => False) ∧ ∀ base : Heap, K.In base → base.Ns mainGlobals mg → (∀ p ∈ cs, TabB base mg p.1 p.2) → FnG l.prog w K mg base k fa fd [x] sp
theorem walk_g {l : PySem.W.OpenLaw} {n k : Nat} {q : Program} {loose : List Str} {XP : (Str → Option Value) → Heap → Prop} {YP : World → Heap → Prop} {d : DefRec} {x : Str} (most : l.most = some n) (fits : n ≤ sizeLine) (nod : d.params.defaults = []) (room : Room k callerA)
    (F : ∀ (w : World) (mg : Str → Option Value) (fa : Addr) (h : Heap), YP w h → h.Ns mainGlobals mg → mg d.name = some (.ref fa) → ∃ K : PySem.W.Frag, K.In h ∧ LawG l w K k n x mg fa h) : PySem.W.WalkO q loose XP YP l.row.toRowW d [] (fun f vs => PySem.call f vs) := by
  refine Att.attach_callB most nod fun w s0 s1 mg mb fa o pm cd doc a vs ns G Y ho hd hcd hmg hobj hints hlen hbits hg => ?_
  obtain ⟨K, inK, fd, cs, sp, h1, h2, h3, h4, h5, h6⟩ := F w mg fa _ Y G.T.g hmg
  exact law_run inK G.T.g G.T.b G.T.builtins G.T.nolimit hg h1 h2 h3 G.T.bmain hobj hints (Nat.le_trans hlen fits) room h6 h4 fun HH t f => h5 HH a ns hlen t f
end Ev
namespace Ev
open PySem PySem.Spec PyProof.Rows L2 LamX
theorem hx_lam {X : Cx} {A : Around} {outer : List Env} {s : Shared} {H : Hp} {E : XK} {scope : Scope} {f c : Addr} : Passes (L2.CX X.prog X.w) (lamCx X A outer s H E scope f c) E :=
  passes_call (X := lamCx X A outer s H E scope f c) (takes_of (E := E) rfl rfl rfl rfl) fun _ _ _ _ z => z
end Ev

set_option maxHeartbeats 2000000
/-! Ev33: what was lacking: own work. -/
namespace Ev
open PySem PySem.Spec PyProof.Rows L2 LamX
theorem op_neE {X : Cx} (hu : X.A.units + 64 < cLine) : OpR X (compareOp .NotEq) (rNeE X.K) := (op_neLen hu).or (op_neD hu)
theorem HasK.mono {P : Pm} {Pg : Program} {w : World} {mg : Str → Option Value} {base : Heap} {j k : Nat} {x : Str} {ks : List Str} {fn : Fn} (h : HasK P Pg w mg base j x ks fn) (l : j ≤ k) : HasK P Pg w mg base k x ks fn :=
  ⟨h.len, let ⟨f, fd, a, b, c, d⟩ := h.ex; ⟨f, fd, a, b, c.mono l, d⟩⟩
end Ev

set_option maxHeartbeats 2000000
/-! Ev34: facts of the head, looked up: own work. -/
namespace Ev
open PySem PySem.Spec PyProof.Rows L2 LamX
mutual
/-- the value, looked at, is this datum -/
def valB (K : PySem.W.Frag) : D → Value → Bool
  | .non, .none => true
  | .bl b, .bool c => b == c
  | .int i, .int j _ => i == j
  | .str x, .str y _ => decide (x = y) && Nat.ble x.length sizeLine
  | .tup ds, .ref a => (match K.lookup a with
    | some ⟨.type c, _, .seq its _, _⟩ => decide (c = "tuple") && (Nat.ble its.size sizeLine && valsB K ds its.toList)
    | _ => false)
  | _, _ => false
def valsB (K : PySem.W.Frag) : List D → List Value → Bool
  | [], [] => true
  | d :: ds, u :: us => valB K d u && valsB K ds us
  | _, _ => false
end
theorem and2 {a b : Bool} (h : (a && b) = true) : a = true ∧ b = true := Bool.and_eq_true_iff.mp h
mutual
theorem valB_ok {K : PySem.W.Frag} : ∀ (d : D) (u : Value), valB K d u = true → ∃ v, RelV v u ∧ ∀ T M H, Rep K T M H v d
  | .non, u, h => by
    cases u <;> first | exact ⟨.non, rfl, fun _ _ _ => .non⟩ | (simp [valB] at h)
  | .bl b, u, h => by
    cases u <;> first | (simp [valB] at h; done) | (simp [valB] at h; subst h; exact ⟨.bl _, rfl, fun _ _ _ => .bl _⟩)
  | .int i, u, h => by
    cases u <;> first | (simp [valB] at h; done) | (simp [valB] at h; subst h; exact ⟨.int _, ⟨_, rfl⟩, fun _ _ _ => .int _⟩)
  | .str x, u, h => by
    cases u <;> first | (simp [valB] at h; done) | (simp only [valB] at h; obtain ⟨h1, h2⟩ := and2 h; obtain rfl := of_decide_eq_true h1; exact ⟨.str _, ⟨_, rfl⟩, fun _ _ _ => .str _ (Nat.le_of_ble_eq_true h2)⟩)
  | .tup ds, u, h => by
    cases u with
    | ref a =>
      unfold valB at h
      cases q : K.lookup a with
      | none => rw [q] at h; cases h
      | some o =>
        obtain ⟨oc, od, dt, sl⟩ := o
        rw [q] at h
        cases oc with
        | type c =>
          cases dt with
          | seq its n =>
            obtain ⟨h1, h2⟩ := and2 h
            obtain ⟨h3, h4⟩ := and2 h2
            obtain rfl := of_decide_eq_true h1
            obtain ⟨vs, r, p⟩ := valsB_ok ds its.toList h4
            exact ⟨.ref a, rfl, fun T M H => .tup (.inr ⟨_, its, n, q, rfl, rfl, Nat.le_of_ble_eq_true h3, r⟩) (by rw [r.length, Array.length_toList]; exact Nat.le_of_ble_eq_true h3) (p T M H)⟩
          | _ => cases h
        | _ => cases h
    | _ => simp [valB] at h
  | .lst _, u, h => by simp [valB] at h
  | .edic, u, h => by simp [valB] at h
  | .st, u, h => by simp [valB] at h
  | .scr _, u, h => by simp [valB] at h
  | .exc _ _, u, h => by simp [valB] at h
theorem valsB_ok {K : PySem.W.Frag} : ∀ (ds : List D) (us : List Value), valsB K ds us = true → ∃ vs, Vals vs us ∧ ∀ T M H, Reps K T M H vs ds
  | [], [], _ => ⟨[], .nil, fun _ _ _ => .nil⟩
  | [], _ :: _, h => by simp [valsB] at h
  | _ :: _, [], h => by simp [valsB] at h
  | d :: ds, u :: us, h => by
    unfold valsB at h
    obtain ⟨h1, h2⟩ := and2 h
    obtain ⟨v, r, p⟩ := valB_ok d u h1
    obtain ⟨vs, rs, ps⟩ := valsB_ok ds us h2
    exact ⟨v :: vs, .cons r rs, fun T M H => .cons (p T M H) (ps T M H)⟩
end
/-- a global that is this datum -/
def gcB (K : PySem.W.Frag) (x : Str) (d : D) : Bool := match PySem.W.nsIn K mainGlobals x with
  | some (some u) => valB K d u
  | _ => false
theorem gcB_ok {K : PySem.W.Frag} {h : Heap} {mg : Str → Option Value} (X : K.In h) (G : h.Ns mainGlobals mg) {x : Str} {d : D} (c : gcB K x d = true) : GC K mg x d := by
  unfold gcB at c
  cases q : PySem.W.nsIn K mainGlobals x with
  | none => rw [q] at c; cases c
  | some r =>
    rw [q] at c
    cases r with
    | none => cases c
    | some u =>
      obtain ⟨v, r1, r2⟩ := valB_ok d u c
      exact ⟨v, u, PySem.W.mg_of X G q, r1, r2⟩
/-- a global that is a builtin -/
def biB (K : PySem.W.Frag) (x : Str) (id : String) : Bool := He.eqO (PySem.W.nsIn K mainGlobals x) (some (some (.builtin id)))
theorem biB_ok {K : PySem.W.Frag} {h : Heap} {mg : Str → Option Value} (X : K.In h) (G : h.Ns mainGlobals mg) {x : Str} {id : String} (c : biB K x id = true) : mg x = some (.builtin id) := PySem.W.mg_of X G (He.eqO_ok c)
/-- an error's class, as isinstance looks at it -/
def excCB (K : PySem.W.Frag) (D : Addr) : Bool :=
  He.eqO (PySem.W.findIn K (.ref D) "__getattribute__") (some (some (.builtin "BaseException.__getattribute__"))) && (He.eqO (PySem.W.findIn K (.ref D) "__getattr__") (some none) && (decide (PySem.W.subIn K (.ref D) (.type "BaseException") = some true) && (PySem.W.hasDictIn K D &&
    (He.eqO (PySem.W.findIn K (.ref D) "__class__") (some (some (.builtin "object.__class__"))) && (He.eqO (PySem.W.specialIn K (.builtin "object.__class__") "__get__") (some (some (.builtin "getset_descriptor.__get__"))) && (decide (PySem.W.takesIn K (.builtin "object.__class__") = some true) &&
      decide (PySem.W.mroIn K D (.type "object") = some true)))))))
theorem excCB_ok {K : PySem.W.Frag} {D : Addr} (c : excCB K D = true) : ExcC K D := by
  obtain ⟨h1, c⟩ := and2 c
  obtain ⟨h2, c⟩ := and2 c
  obtain ⟨h3, c⟩ := and2 c
  obtain ⟨h4, c⟩ := and2 c
  obtain ⟨h5, c⟩ := and2 c
  obtain ⟨h6, c⟩ := and2 c
  obtain ⟨h7, h8⟩ := and2 c
  exact ⟨He.eqO_ok h1, He.eqO_ok h2, of_decide_eq_true h3, h4, He.eqO_ok h5, He.eqO_ok h6, of_decide_eq_true h7, of_decide_eq_true h8⟩
end Ev

set_option maxHeartbeats 2000000
/-! Ev35: facts of the head on errors: own work. -/
namespace Ev
open PySem PySem.Spec PyProof.Rows L2 LamX
theorem ga_eq {K : PySem.W.Frag} {x : Str} {D : Addr} (h : PySem.W.nsIn K mainGlobals x = some (some (.ref D))) : He.ga K x = D := by
  unfold He.ga
  rw [h]
/-- isinstance(an error of l, c) -/
def exsB (K : PySem.W.Frag) (c : Str) (l : List Str) (isS : Str → Option Bool) : Bool :=
  decide (PySem.W.kitOne K (.type "NoneType") (.ref (He.ga K c)) = some false) && l.all fun x => excCB K (He.ga K x) && decide (PySem.W.kitOne K (.ref (He.ga K x)) (.ref (He.ga K c)) = isS x)
theorem exsB_ok {P : Pm} {mg : Str → Option Value} {c : Str} {l : List Str} {isS : Str → Option Bool} (hm : mg c = some (.ref (He.ga P.K c))) (h : exsB P.K c l isS = true) (hl : ∀ x b, isS x = some b → x ∈ l) : ExS P mg c isS := by
  obtain ⟨h1, h2⟩ := and2 h
  refine ⟨_, hm, of_decide_eq_true h1, fun x b D e q => ?_⟩
  obtain ⟨h3, h4⟩ := and2 (List.all_eq_true.mp h2 x (hl x b e))
  rw [ga_eq q] at h3 h4
  exact ⟨excCB_ok h3, (of_decide_eq_true h4).trans e⟩
/-- raise c(..) -/
theorem exF_ok {P : Pm} {mg : Str → Option Value} {c : Str} (hm : mg c = some (.ref (He.ga P.K c))) (f : (He.Fa.exc c).ok P.K = true) (hx : ∀ H, P.xi c .non (.ref (He.ga P.K c)) none H) : ExF P mg c := by
  obtain ⟨h1, h2, h3, h4⟩ := He.exc_ok f
  exact ⟨_, hm, h1, h2, h3, h4, hx⟩
/-- what is known of an error raised -/
abbrev PmK (K : PySem.W.Frag) (tb : List (Addr × Str)) : Pm :=
  ⟨K, fun c p cls d _ => p = .non ∧ d = none ∧ ∃ C, PySem.W.nsIn K mainGlobals c = some (some (.ref C)) ∧ cls = .ref C, fun _ _ _ => False, tb⟩
theorem exF_k {K : PySem.W.Frag} {tb : List (Addr × Str)} {h : Heap} {mg : Str → Option Value} {c : Str} (X : K.In h) (G : h.Ns mainGlobals mg) (g : (He.Fa.glo c).ok K = true) (f : (He.Fa.exc c).ok K = true) : ExF (PmK K tb) mg c :=
  exF_ok (P := PmK K tb) (He.glo_ok X G g) f fun _ => ⟨rfl, rfl, _, He.eqO_ok g, rfl⟩
def exmB (K : PySem.W.Frag) (CE : Str) (l : List Str) : Bool := l.all fun x => decide (PySem.W.exmOne K (.ref (He.ga K x)) (.ref (He.ga K CE)) = some true)
theorem xi_k {K : PySem.W.Frag} {tb : List (Addr × Str)} {CE : Str} {l : List Str} {isE : Str → Bool} (c : exmB K CE l = true) (hl : ∀ x, isE x = true → x ∈ l) : XiOk (PmK K tb) (.ref (He.ga K CE)) isE :=
  ⟨fun c p cls d H h => h, fun x C e q => by
    have h := of_decide_eq_true (List.all_eq_true.mp c x (hl x e))
    have h2 : He.ga K x = C := ga_eq q
    rw [h2] at h
    exact h⟩
end Ev

set_option maxHeartbeats 2000000
/-! Ev36: from a def's promise to its call's facts: own work. -/
namespace Ev
open PySem PySem.Spec PyProof.Rows L2 LamX
theorem FnG.none {Pg : Program} {w : World} {K : PySem.W.Frag} {mg : Str → Option Value} {base : Heap} {k : Nat} {f : Addr} {fd : FuncData} {ps : List Str} {sp : Sp} (h : ∀ vs H Q E, ¬ sp vs H Q E) : FnG Pg w K mg base k f fd ps sp :=
  ⟨fun vs H Q E z => (h vs H Q E z).elim, fun A outer s H args us vs Q E hr hg e0 hb r hsp => (h vs H Q E hsp).elim⟩
theorem spF_stuck {P : Pm} {m : Nat} : ∀ vs H Q E, ¬ spF P m (fun _ _ => .stuck) vs H Q E := fun vs H Q E z => by
  unfold spF at z
  obtain ⟨_, T, M, ds, s, _, _, _, _, _, c⟩ := z
  exact c
/-- what a call needs, from the def's promise: every parameter given -/
theorem Has.of {P : Pm} {Pg : Program} {w : World} {mg : Str → Option Value} {base : Heap} {k m n : Nat} {x : Str} {b : Stm} {f : Addr} {fd : FuncData} {ps : List Str} (hm : mg x = some (.ref f)) (hk : PySem.W.keepIn P.K (.ref f) = true) (F : FnG Pg w P.K mg base k f fd ps (spF P m (fnOf m n b))) (hb : Binds P.K fd ps []) : Has P Pg w mg base k x m (fnOf m n b) [] :=
  ⟨fnOf_len, f, fd, ps, [], [], hm, hk, F, hb, .nil, fun _ _ _ => .nil⟩
/-- the last parameters by their defaults -/
theorem Has.ofD {P : Pm} {Pg : Program} {w : World} {mg : Str → Option Value} {base : Heap} {k m n : Nat} {x : Str} {b : Stm} {f : Addr} {fd : FuncData} {ps : List Str} {dvs : List V} {dd : List D} (hm : mg x = some (.ref f)) (hk : PySem.W.keepIn P.K (.ref f) = true) (F : FnG Pg w P.K mg base k f fd ps (spF P m (fnOf m n b))) (hb : ∃ ds, Vals dvs ds ∧ Binds P.K fd ps ds)
    (hr : ∀ T M H, Reps P.K T M H dvs dd) : Has P Pg w mg base k x m (fnOf m n b) dd :=
  let ⟨ds, h1, h2⟩ := hb
  ⟨fnOf_len, f, fd, ps, dvs, ds, hm, hk, F, h2, h1, hr⟩
/-- a recursive def: by the depth allowed -/
theorem Has.recur {P : Pm} {Pg : Program} {w : World} {mg : Str → Option Value} {base : Heap} {k m : Nat} {x : Str} {g : Nat → Fn} {f : Addr} {fd : FuncData} {ps : List Str} (hm : mg x = some (.ref f)) (hk : PySem.W.keepIn P.K (.ref f) = true) (h0 : g 0 = fun _ _ => .stuck) (hl : ∀ n ds s, ds.length ≠ m → g n ds s = .stuck)
    (F : ∀ n, Has P Pg w mg base (k + n) x m (g n) [] → FnG Pg w P.K mg base (k + n + 1) f fd ps (spF P m (g (n + 1)))) (hb : Binds P.K fd ps []) : ∀ n, Has P Pg w mg base (k + n) x m (g n) []
  | 0 => ⟨hl 0, f, fd, ps, [], [], hm, hk, by rw [h0]; exact FnG.none spF_stuck, hb, .nil, fun _ _ _ => .nil⟩
  | n + 1 => ⟨hl (n + 1), f, fd, ps, [], [], hm, hk, F n (Has.recur hm hk h0 hl F hb n), hb, .nil, fun _ _ _ => .nil⟩
end Ev

set_option maxHeartbeats 2000000
/-! Ev37: calls by keywords, from a def's facts: own work. -/
namespace Ev
open PySem PySem.Spec PyProof.Rows L2 LamX
theorem bindsKW {K : PySem.W.Frag} {x qual : Str} {params : Arguments} {body : List Stmt} {scope : Scope} {kws : List (Str × V)} {f : Addr} {fd : FuncData} {ps : List Str} (F : FunD K x qual params body scope [] kws f fd)
    (h : ∀ (kV doc pm : Value) (an : Option Addr) (cdv ct : Value) (us : List Value), us.length = ps.length → bindArgs (PySem.W.fnOf x qual params body scope .none kV doc pm an cdv ct) ⟨[], ps.zip us⟩ = pure (ps.zip us)) (s : Shared) (us : List Value) (_ : K.In s.heap) (hl : us.length = ps.length) : BindsTo s fd ⟨[], ps.zip us⟩ (ps.zip us) := by
  obtain ⟨oc, od, dV, kV, doc, pm, an, cdv, ct, osl, rfl, lk, hcd, hD, hK⟩ := F.ex
  rcases hD with ⟨_, rfl⟩ | ⟨e, _⟩
  · exact .of_eq (h kV doc pm an cdv ct us hl)
  · exact absurd rfl e
theorem HasK.of {P : Pm} {Pg : Program} {w : World} {mg : Str → Option Value} {base : Heap} {k m n : Nat} {x : Str} {b : Stm} {f : Addr} {fd : FuncData} {ps : List Str} (hm : mg x = some (.ref f)) (hk : PySem.W.keepIn P.K (.ref f) = true) (F : FnG Pg w P.K mg base k f fd ps (spF P m (fnOf m n b))) (hl : ps.length = m)
    (hb : ∀ (s : Shared) (ws : List Value), P.K.In s.heap → ws.length = ps.length → BindsTo s fd ⟨[], ps.zip ws⟩ (ps.zip ws)) : HasK P Pg w mg base k x ps (fnOf m n b) := by
  subst hl
  exact ⟨fnOf_len, f, fd, hm, hk, F, hb⟩
theorem all_at {l : List Bool} (h : l.all id = true) (i : Nat) {b : Bool} (hb : l[i]? = some b := by rfl) : b = true := List.all_eq_true.mp h b (List.mem_of_getElem? hb)
end Ev

set_option maxHeartbeats 2000000
/-! Ev38: x[::-1], str: own work. -/
namespace Ev
open PySem PySem.Spec PyProof.Rows L2 LamX
section
variable {prog : Program} {w : World} {A : Around} {E : Value → Shared → Prop} {s : Shared}
theorem sliceApplied_rev {sl : Addr} {vl vu vs : Value} {n : Nat} {Q : Int × Int × Nat → Shared → Prop} (hs : s.heap.IsSliceOf sl vl vu vs) (pl : IsPart vl none) (pu : IsPart vu none) (ps : IsPart vs (some (-1)))
    (h : Q ((n : Int) - 1, -1, n) s) : wpAny (model prog w) A (Builtin.Slice.sliceApplied (.ref sl) (pure (n : Int))) Q E s := by
  obtain ⟨os, hos, hcs, hds⟩ := id hs
  unfold Builtin.Slice.sliceApplied Builtin.Slice.sliceFields
  refine wpAny_bind (wpAny_bind (wpAny_field hos hds (x := vl) rfl (wpAny_bind (wpAny_field hos hds (x := vu) rfl (wpAny_bind (wpAny_field hos hds (x := vs) rfl (wpAny_pure ?_)))))))
  refine wpAny_bind (HT.slicePart_ ps ?_)
  show wpAny _ _ (if (((-1 : Int)) == 0) = true then _ else _) _ _ s
  rw [if_neg (by decide)]
  refine wpAny_bind (HT.slicePart_ pl (wpAny_bind (HT.slicePart_ pu (wpAny_bind (wpAny_pure ?_)))))
  have e1 : Builtin.Slice.sliceAdjust none none (-1) (n : Int) = ((n : Int) - 1, -1) := rfl
  have e2 : Builtin.Slice.slicePlaces ((n : Int) - 1) (-1) (-1) = n := by
    unfold Builtin.Slice.slicePlaces
    rw [if_neg (by decide), show (-(-1) : Int) = 1 from rfl, Int.ediv_one]
    split <;> omega
  show wpAny _ _ (match Builtin.Slice.sliceAdjust none none (-1) (n : Int) with | (lo, hi) => pure (lo, (-1 : Int), Builtin.Slice.slicePlaces lo hi (-1))) _ _ s
  rw [e1]
  show wpAny _ _ (pure ((n : Int) - 1, (-1 : Int), Builtin.Slice.slicePlaces ((n : Int) - 1) (-1) (-1))) _ _ s
  rw [e2]
  exact wpAny_pure h
theorem fm_congr {α β : Type} {f g : α → Option β} : ∀ {l : List α}, (∀ x ∈ l, f x = g x) → l.filterMap f = l.filterMap g
  | [], _ => rfl
  | x :: l, h => by
    rw [List.filterMap_cons, List.filterMap_cons, h x List.mem_cons_self, fm_congr fun y hy => h y (List.mem_cons_of_mem _ hy)]
theorem pick_rev (xs : Array Value) : ((List.range xs.size).filterMap fun (m : Nat) => xs[(((xs.size : Int) - 1) + (m : Int) * (-1)).toNat]?).toArray = xs.toList.reverse.toArray := by
  congr 1
  rw [← PySem.W.krv_all xs, ← List.filterMap_reverse, ← PySem.W.krv_range, List.filterMap_map]
  refine fm_congr fun m hm => ?_
  have := List.mem_range.mp hm
  have e : (((xs.size : Int) - 1) + (m : Int) * (-1)).toNat = xs.size - 1 - m := by omega
  rw [e]
  rfl
theorem getItem_tuple_rev {t sl : Addr} {items : Array Value} {vl vu vs : Value} {Q : Value → Shared → Prop} (ht : IsTup s.heap t items) (hs : s.heap.IsSliceOf sl vl vu vs) (pl : IsPart vl none) (pu : IsPart vu none) (ps : IsPart vs (some (-1)))
    (h : Q (.ref s.heap.objs.size) { s with heap := s.heap.push { cls := .type "tuple", data := .seq items.toList.reverse.toArray } }) (hsz : items.size ≤ sizeLine) : wpAny (model prog w) A (getItem (.ref t) (.ref sl)) Q E s := by
  have htake : sizeOk (.seq items.toList.reverse.toArray) := by
    show items.toList.reverse.toArray.size ≤ sizeLine
    rw [List.size_toArray, List.length_reverse, Array.length_toList]
    exact hsz
  obtain ⟨os, hos, hcs, hds⟩ := id hs
  have hTs : s.TypeIs (.ref sl) "slice" := ⟨os, hos, hcs⟩
  unfold getItem
  try with_reducible refine wpAny_holding ?_
  first | refine wpAny_bind (wpAny_pure ?_) | skip
  refine wpAny_bind (wpAny_sequenceKey ht.typeIs (by decide) ?_)
  refine wpAny_bind (wpAny_callSpecial?_slot (name := Str.ofString "__getitem__") ht.typeIs PyProof.Rows.slot_tuple_getitem
    (wpAny_call_entry PyProof.Rows.slot_tuple_getitem ht.typeIs entry_tuple_getitem ?_ (args_tuple_getitem _ _)))
  show wpAny _ _ (Builtin.Tuple.tupleItemsOf (.ref t) >>= _) _ _ s
  refine wpAny_bind (tupleItemsOf_ ht ?_)
  refine wpAny_bind (wpAny_typeOf hTs ?_)
  rw [if_pos (by decide)]
  refine wpAny_bind (sliceApplied_rev hs pl pu ps ?_)
  have hno : ¬ ((((items.size : Int) - 1) == 0 && (-1 : Int) == 1 && items.size == items.size) = true) := by
    intro q
    rw [Bool.and_eq_true, Bool.and_eq_true] at q
    exact absurd q.1.2 (by decide)
  show wpAny _ _ (if (((items.size : Int) - 1) == 0 && (-1 : Int) == 1 && items.size == items.size) = true then _ else _) _ _ s
  rw [if_neg hno, pick_rev]
  first
    | exact wpAny_bind (m := Builtin.Tuple.tupleExact _) (wpAny_newObj_type (wpAny_pure ⟨_, rfl, wpAny_pure h⟩) htake)
    | exact wpAny_bind (m := Builtin.Tuple.tupleExact _) (wpAny_newObj_type (wpAny_bind (wpAny_pure (wpAny_pure ⟨_, rfl, wpAny_pure h⟩))) htake)
    | exact wpAny_bind (wpAny_bind (m := Builtin.Tuple.tupleExact _) (wpAny_newObj_type (wpAny_pure (wpAny_pure ⟨_, rfl, wpAny_pure h⟩)) htake))
    | exact wpAny_bind (wpAny_bind (m := Builtin.Tuple.tupleExact _) (wpAny_newObj_type (wpAny_pure ⟨_, rfl, wpAny_pure h⟩) htake))
end
/-- x[::-1], of a list or a tuple -/
def tRevA (K : PySem.W.Frag) (te : TE) : TE := fun σ H Q => te σ H fun x H1 => (∃ a xs, x = .ref a ∧ SqL K H1 a xs ∧ ∀ p, H1 p = none → Q (.ref p) (upd H1 p (.lst xs.reverse))) ∨ ∃ a xs, x = .ref a ∧ SqT K H1 a xs ∧ ∀ p, H1 p = none → Q (.ref p) (upd H1 p (.tup xs.reverse))
section
variable {X : Cx}
theorem pe_revA {e : Expr} {te : TE} {k : Nat} {p1 p2 p3 pos : Pos} (he : PE X e te) : PE X (.Subscript e (.Slice none none (some (.UnaryOp .USub (.Constant (.int 1) k p1) p2)) p3) pos) (tRevA X.K te) := by
  refine ⟨fun pins s σ H Q I h => ?_⟩
  refine Subscript_ (thn (he.run pins s σ H _ I h) fun v s1 ⟨x, H1, I1, r1, q1⟩ => ?_)
  have hst : PO X (some (.UnaryOp .USub (.Constant (.int 1) k p1) p2)) (tPart (tUn (rU fun i => .int (-i)) (tC (.int 1)))) := po_some (pe_un un_neg pe_int)
  refine wpAny_Slice (thn (po_none.run pins s1 σ H1 (fun o H2 => o = none ∧ H2 = H1) I1 ⟨rfl, rfl⟩) fun vl s2 ⟨l, H2, I2, pl, el, e2⟩ => ?_)
  subst el e2
  refine thn (po_none.run pins s2 σ H2 (fun o H3 => o = none ∧ H3 = H2) I2 ⟨rfl, rfl⟩) fun vu s3 ⟨u, H3, I3, pu, eu, e3⟩ => ?_
  subst eu e3
  refine thn (hst.run pins s3 σ H3 (fun o H4 => o = some (-1) ∧ H4 = H3) I3 ⟨1, rfl, -1, rfl, rfl, rfl⟩) fun vs s4 ⟨o, H4, I4, ps, eo, e4⟩ => ?_
  subst eo e4
  have I5 : Inv X pins σ H4 { s4 with heap := s4.heap.push { cls := .type "slice", data := .fields #[vl, vu, vs] } } := I4.kept (t' := s4.toks) fun b ob q => Heap.get?_push_of_some _ q
  show wpAny (model X.prog X.w) X.A (subscriptTail e (.Slice none none (some (.UnaryOp .USub (.Constant (.int 1) k p1) p2)) p3) v (.ref s4.heap.objs.size)) (EP X pins σ Q) X.xe { s4 with heap := s4.heap.push { cls := .type "slice", data := .fields #[vl, vu, vs] } }
  rcases q1 with ⟨a, xs, ex, hx, q⟩ | ⟨a, xs, ex, hx, q⟩
  · subst ex
    cases r1
    obtain ⟨its, r, ht, hz⟩ := I5.list hx
    have hlen := r.length
    refine tail_any (ops := [.ref a, .ref s4.heap.objs.size]) ht.isList.typeIs (PySem.slot_list_getitem.lookup) ?_ (by with_unfolding_all rfl)
    refine wpAny_getItem_list_slice ht.isList (Heap.IsSliceOf.new _ vl vu vs) pl pu ps (by decide) ?_ (by rw [List.size_toArray]; omega)
    rw [PySem.W.krv_pick]
    refine ⟨.ref _, _, I5.laid (t' := s4.toks) (o := .lst xs.reverse) (fun b ob q => Heap.get?_push_of_some _ q) (Nat.le_refl _) ?_, rfl, q _ (I5.hok.fresh (Nat.le_refl _))⟩
    exact ⟨by rw [List.length_reverse]; exact hz, _, 0, r.reverse, Heap.get?_push_size _ rfl⟩
  · subst ex
    cases r1
    obtain ⟨its, r, ht, hz⟩ := I5.tuple hx
    have hlen := r.length
    refine tail_any (ops := [.ref a, .ref s4.heap.objs.size]) ht.typeIs PyProof.Rows.slot_tuple_getitem.lookup ?_ (by with_unfolding_all rfl)
    refine getItem_tuple_rev ht (Heap.IsSliceOf.new _ vl vu vs) pl pu ps ?_ (by rw [List.size_toArray]; omega)
    refine ⟨.ref _, _, I5.laid (t' := s4.toks) (o := .tup xs.reverse) (fun b ob q => Heap.get?_push_of_some _ q) (Nat.le_refl _) ?_, rfl, q _ (I5.hok.fresh (Nat.le_refl _))⟩
    exact ⟨by rw [List.length_reverse]; exact hz, _, r.reverse, IsTup.new _ _⟩
end
section
variable {X : Cx} {P : Pm} {E : XK} {e : Expr} {f : Sm D}
theorem x_rev {k : Nat} {p1 p2 p3 pos : Pos} (he : PE X e (tO P E f)) (hK : P.K = X.K := by rfl) : PE X (.Subscript e (.Slice none none (some (.UnaryOp .USub (.Constant (.int 1) k p1) p2)) p3) pos) (tE P E (e1 oRev f)) :=
  PE.mono (pe_revA he) fun σ H Q h => t_e1 (r := fun x H1 Q => (∃ a xs, x = .ref a ∧ SqL X.K H1 a xs ∧ ∀ p, H1 p = none → Q (.ref p) (upd H1 p (.lst xs.reverse))) ∨ ∃ a xs, x = .ref a ∧ SqT X.K H1 a xs ∧ ∀ p, H1 p = none → Q (.ref p) (upd H1 p (.tup xs.reverse))) (fun T M O H v x z Q fr rx e q => by
    unfold oRev at e
    rw [← hK]
    split at e
    · obtain ⟨a, vs, rfl, h1, h2, h3⟩ := rx.lst
      cases e
      exact .inl ⟨a, vs, rfl, SqL.of h1, fun p hp => q _ _ (Same.new hp) (RepR.newL hp (by rw [List.length_reverse]; exact h2) h3.rev)⟩
    · obtain ⟨a, vs, rfl, h1, h2, h3⟩ := rx.tup
      cases e
      exact .inr ⟨a, vs, rfl, h1, fun p hp => q _ _ (Same.new hp) (RepR.newT hp (by rw [List.length_reverse]; exact h2) (h3.rev.new hp))⟩
    · cases e) h
theorem x_str1 {p pos : Pos} (hm : X.mg "str" = none) (ha : PE X e (tO P E f)) (hg : Gl X "str" := by rfl) (hs : starEach [e] X.env = (false, eval e X.env) :: starEach [] X.env := by rfl) : PE X (.Call (.Name "str" p) [e] [] pos) (tE P E (e1 oStr f)) :=
  x_ct1 (CallR.or call_str_int SkE.call_str_str) (fun T M O H v x z Q fr rx e q => by
    unfold oStr at e
    split at e
    · obtain rfl := rx.int
      split at e
      · rename_i hl
        cases e
        exact .inl ⟨_, rfl, hl, q _ H (Same.refl H) (show Rep _ _ _ _ _ _ from .str _ (PySem.int_text_fits hl))⟩
      · cases e
    · obtain ⟨rfl, h1⟩ := rx.str
      cases e
      exact .inr ⟨_, rfl, q _ H (Same.refl H) (show Rep _ _ _ _ _ _ from .str _ h1)⟩
    · cases e) (by decide +kernel) hm hg ha hs (by decide +kernel) (by decide +kernel)
theorem x_m1 {k : Nat} {p1 p2 : Pos} : PE X (.UnaryOp .USub (.Constant (.int 1) k p1) p2) fun _ H Q => Q (.int (-1)) H :=
  PE.mono (pe_un un_neg pe_int) fun σ H Q q => ⟨1, rfl, q⟩
end
end Ev

set_option maxHeartbeats 0
namespace K60
open PySem Ev
def c_ZERO : Ev.D := (.tup [(.int 0), (.int 1)])
def c_ONE : Ev.D := (.tup [(.int 1), (.int 1)])
def c_MOST_ORDER : Ev.D := (.int 24)
def b_is_whole : Stm := (sRet (eT (tAnd (tIsa [.int] (pV 0)) (tNot (tIsa [.bool] (pV 0))))))
def F_is_whole : Fn := fnOf 1 0 b_is_whole
def b_number : Stm := (sSeq (sSet 2 (eIf (tCmp oGt (pV 1) (pE (eC (.int 0)))) (e2 oGcd (pV 0) (pV 1)) (e2 oSub (pE (eC (.int 0))) (pE (e2 oGcd (pV 0) (pV 1)))))) (sRet (eTup (aCons (e2 oDiv (pV 0) (pV 2)) (aCons (e2 oDiv (pV 1) (pV 2)) aNil)))))
def F_number : Fn := fnOf 2 1 b_number
def b_minus : Stm := (sRet (eTup (aCons (e2 oSub (pE (eC (.int 0))) (pE (eIdx (pV 0) (pE (eC (.int 0)))))) (aCons (eIdx (pV 0) (pE (eC (.int 1)))) aNil))))
def F_minus : Fn := fnOf 1 0 b_minus
def b_trimmed : Stm := (sSeq (sSet 1 (e1 oList (pV 0))) (sSeq (sWhile 20000 (tAnd (tCmp oNe (pV 1) (pE (eLst aNil))) (tCmp oEq (pE (eIdx (pV 1) (pE (e1 oNeg (pE (eC (.int 1))))))) (pE (eC c_ZERO)))) (sPop 1)) (sRet (e1 oTuple (pV 1)))))
def F_trimmed : Fn := fnOf 1 1 b_trimmed
def b_L_mixed : Stm := (sSeq (sPar 1 2 (e2 oAdd (pE (eSt 0 .turn)) (pE (eC (.int 1)))) (eC (.int 0))) (sSeq (sStI 0 .turn (eV 1)) (sSeq (sFor (iP (eLst (aCons (eC (.int 2147483629)) (aCons (eC (.int 2147483587)) (aCons (eC (.int 2147483579)) (aCons (eC (.int 2147483563)) aNil)))))) (.nm 3) (sSeq (sSet 4 (e2 oAdd (pE (e2 oMul (pE (eC (.int 69621))) (pV 1))) (pE (e2 oDiv (pV 3) (pE (eC (.int 41))))))) (sSeq (sForC 0 (.nm 5) (sSet 4 (e2 oMod (pE (e1 oInt (pE (e2 oAdd (pE (e2 oAdd (pE (e2 oMul (pV 4) (pE (eC (.int 48271))))) (pV 5))) (pV 1))))) (pV 3)))) (sSet 2 (e2 oAdd (pE (e2 oMul (pV 2) (pE (eC (.int 2147483659))))) (pE (e2 oMod (pE (e1 oInt (pE (e2 oPow (pV 4) (pE (eC (.int 5))))))) (pV 3)))))))) (sRetV 2))))
def F_L_mixed : Fn := fnOf 1 5 b_L_mixed
def b_L_common : Stm := (sSeq (sWhile 20000 (tCmp oNe (pV 1) (pE (eC (.int 0)))) (sPar 0 1 (eV 1) (e2 oMod (pE (e1 oInt (pV 0))) (pV 1)))) (sRet (e1 oAbs (pV 0))))
def F_L_common : Fn := fnOf 2 0 b_L_common
def b_L_minus : Stm := (sRet (eTup (aCons (e2 oSub (pE (eC (.int 0))) (pE (eIdx (pV 0) (pE (eC (.int 0)))))) (aCons (eIdx (pV 0) (pE (eC (.int 1)))) aNil))))
def F_L_minus : Fn := fnOf 1 0 b_L_minus
def b_L_trim : Stm := (sSeq (sSet 1 (e1 oList (pV 0))) (sSeq (sWhile 20000 (tAnd (tCmp oNe (pV 1) (pE (eLst aNil))) (tCmp oEq (pE (eIdx (pE (eIdx (pV 1) (pE (e1 oNeg (pE (eC (.int 1))))))) (pE (eC (.int 0))))) (pE (eC (.int 0))))) (sPop 1)) (sRet (e1 oTuple (pV 1)))))
def F_L_trim : Fn := fnOf 1 1 b_L_trim
def b_is_number : Stm := (sSeq (sIf (tOr (tNot (tIsa [.tuple] (pV 0))) (tOr (tCmp oNe (pE (e1 oLenR (pV 0))) (pE (eC (.int 2)))) (tNot (tVal (pE (e1 oAll (pE (eLc (iP (eV 0)) (.nm 1) tYes (eCall F_is_whole (aCons (eV 1) aNil)) [1])))))))) (sRet (eC (.bl false))) sNil) (sRet (eT (tAnd (tCmp oGt (pE (eIdx (pV 0) (pE (eC (.int 1))))) (pE (eC (.int 0)))) (tCmp oEq (pE (e2 oGcd (pE (eIdx (pV 0) (pE (eC (.int 0))))) (pE (eIdx (pV 0) (pE (eC (.int 1))))))) (pE (eC (.int 1))))))))
def F_is_number : Fn := fnOf 1 1 b_is_number
def b_plus : Stm := (sRet (eCall F_number (aCons (e2 oAdd (pE (e2 oMul (pE (eIdx (pV 0) (pE (eC (.int 0))))) (pE (eIdx (pV 1) (pE (eC (.int 1))))))) (pE (e2 oMul (pE (eIdx (pV 1) (pE (eC (.int 0))))) (pE (eIdx (pV 0) (pE (eC (.int 1)))))))) (aCons (e2 oMul (pE (eIdx (pV 0) (pE (eC (.int 1))))) (pE (eIdx (pV 1) (pE (eC (.int 1)))))) aNil))))
def F_plus : Fn := fnOf 2 0 b_plus
def b_times : Stm := (sRet (eCall F_number (aCons (e2 oMul (pE (eIdx (pV 0) (pE (eC (.int 0))))) (pE (eIdx (pV 1) (pE (eC (.int 0)))))) (aCons (e2 oMul (pE (eIdx (pV 0) (pE (eC (.int 1))))) (pE (eIdx (pV 1) (pE (eC (.int 1)))))) aNil))))
def F_times : Fn := fnOf 2 0 b_times
def b_over : Stm := (sRet (eCall F_number (aCons (e2 oMul (pE (eIdx (pV 0) (pE (eC (.int 0))))) (pE (eIdx (pV 1) (pE (eC (.int 1)))))) (aCons (e2 oMul (pE (eIdx (pV 0) (pE (eC (.int 1))))) (pE (eIdx (pV 1) (pE (eC (.int 0)))))) aNil))))
def F_over : Fn := fnOf 2 0 b_over
def b_L_draw : Stm := (sSeq (sIf (tCmp oEq (pE (eSt 0 .rest)) (pE (eC (.int 0)))) (sStI 0 .rest (eIf (tGreat 0) (ePop0 0) (eCall F_L_mixed (aCons (eV 0) aNil)))) sNil) (sSeq (sSet 2 (e2 oMod (pE (e1 oInt (pE (eSt 0 .rest)))) (pV 1))) (sSeq (sStI 0 .rest (e2 oDiv (pE (eSt 0 .rest)) (pV 1))) (sRetV 2))))
def F_L_draw : Fn := fnOf 2 1 b_L_draw
def b_L_no : Stm := (sSeq (sSet 2 (e2 oMul (pE (eCall F_L_common (aCons (eV 0) (aCons (eV 1) aNil)))) (pE (eIf (tCmp oGt (pV 1) (pE (eC (.int 0)))) (eC (.int 1)) (e2 oSub (pE (eC (.int 0))) (pE (eC (.int 1)))))))) (sRet (eTup (aCons (e2 oDiv (pV 0) (pV 2)) (aCons (e2 oDiv (pV 1) (pV 2)) aNil)))))
def F_L_no : Fn := fnOf 2 1 b_L_no
def b_L_is_no : Stm := (sSeq (sIf (tOr (tNot (tIsa [.tuple] (pV 0))) (tOr (tCmp oNe (pE (e1 oLenR (pV 0))) (pE (eC (.int 2)))) (tCmp oNe (pE (eLc (iP (eV 0)) (.nm 1) (tOr (tNot (tIsa [.int] (pV 1))) (tIsa [.bool] (pV 1))) (eC (.int 1)) [1])) (pE (eLst aNil))))) (sRet (eC (.bl false))) sNil) (sRet (eT (tAnd (tCmp oGt (pE (eIdx (pV 0) (pE (eC (.int 1))))) (pE (eC (.int 0)))) (tCmp oEq (pE (eCall F_L_common (aCons (eIdx (pV 0) (pE (eC (.int 0)))) (aCons (eIdx (pV 0) (pE (eC (.int 1)))) aNil)))) (pE (eC (.int 1))))))))
def F_L_is_no : Fn := fnOf 1 1 b_L_is_no
def b_is_polynomial : Stm := (sSeq (sIf (tOr (tNot (tIsa [.tuple] (pV 0))) (tNot (tVal (pE (e1 oAll (pE (eLc (iP (eV 0)) (.nm 1) tYes (eCall F_is_number (aCons (eV 1) aNil)) [1]))))))) (sRet (eC (.bl false))) sNil) (sRet (eT (tOr (tCmp oEq (pV 0) (pE (eTup aNil))) (tCmp oNe (pE (eIdx (pV 0) (pE (e1 oNeg (pE (eC (.int 1))))))) (pE (eC c_ZERO)))))))
def F_is_polynomial : Fn := fnOf 1 1 b_is_polynomial
def b_summed : Stm := (sSeq (sSet 2 (e2 oMax (pE (e1 oLenR (pV 0))) (pE (e1 oLenR (pV 1))))) (sSeq (sSet 3 (e2 oAdd (pE (e1 oList (pV 0))) (pE (e2 oMul (pE (eLst (aCons (eC c_ZERO) aNil))) (pE (e2 oSub (pV 2) (pE (e1 oLenR (pV 0))))))))) (sSeq (sFrz 3) (sSeq (sSet 4 (e2 oAdd (pE (e1 oList (pV 1))) (pE (e2 oMul (pE (eLst (aCons (eC c_ZERO) aNil))) (pE (e2 oSub (pV 2) (pE (e1 oLenR (pV 1))))))))) (sSeq (sFrz 4) (sRet (eCall F_trimmed (aCons (eLc (iZip (eV 3) (eV 4)) (.tp [(.nm 5), (.nm 6)]) tYes (eCall F_plus (aCons (eV 5) (aCons (eV 6) aNil))) [5, 6]) aNil))))))))
def F_summed : Fn := fnOf 2 5 b_summed
def b_scaled : Stm := (sRet (eCall F_trimmed (aCons (eLc (iP (eV 1)) (.nm 2) tYes (eCall F_times (aCons (eV 0) (aCons (eV 2) aNil))) [2]) aNil)))
def F_scaled : Fn := fnOf 2 1 b_scaled
def b_multiplied : Stm := (sSeq (sSet 2 (e2 oMul (pE (eLst (aCons (eC c_ZERO) aNil))) (pE (e2 oMax (pE (eC (.int 0))) (pE (e2 oSub (pE (e2 oAdd (pE (e1 oLenR (pV 0))) (pE (e1 oLenR (pV 1))))) (pE (eC (.int 1))))))))) (sSeq (sFor (iEnum (eV 0)) (.tp [(.nm 3), (.nm 4)]) (sFor (iEnum (eV 1)) (.tp [(.nm 5), (.nm 6)]) (sPutAt 2 (pE (e2 oAdd (pV 3) (pV 5))) (eCall F_plus (aCons (eIdx (pV 2) (pE (e2 oAdd (pV 3) (pV 5)))) (aCons (eCall F_times (aCons (eV 4) (aCons (eV 6) aNil))) aNil)))))) (sRet (eCallB F_trimmed (bCons (pV 2) aNil)))))
def F_multiplied : Fn := fnOf 2 5 b_multiplied
def b_divided : Stm := (sSeq (sPar 2 3 (e1 oList (pV 0)) (e2 oMul (pE (eLst (aCons (eC c_ZERO) aNil))) (pE (e2 oMax (pE (eC (.int 0))) (pE (e2 oAdd (pE (e2 oSub (pE (e1 oLenR (pV 0))) (pE (e1 oLenR (pV 1))))) (pE (eC (.int 1))))))))) (sSeq (sFor (iRangeD (pE (e2 oSub (pE (e1 oLenR (pV 3))) (pE (eC (.int 1))))) (pE (e1 oNeg (pE (eC (.int 1)))))) (.nm 4) (sSeq (sSet 5 (eCall F_over (aCons (eIdx (pV 2) (pE (e2 oSub (pE (e2 oAdd (pV 4) (pE (e1 oLenR (pV 1))))) (pE (eC (.int 1)))))) (aCons (eIdx (pV 1) (pE (e1 oNeg (pE (eC (.int 1)))))) aNil)))) (sSeq (sPutAt 3 (pV 4) (eV 5)) (sFor (iEnum (eV 1)) (.tp [(.nm 6), (.nm 7)]) (sPutAt 2 (pE (e2 oAdd (pV 4) (pV 6))) (eCall F_plus (aCons (eIdx (pV 2) (pE (e2 oAdd (pV 4) (pV 6)))) (aCons (eCall F_minus (aCons (eCall F_times (aCons (eV 5) (aCons (eV 7) aNil))) aNil)) aNil)))))))) (sRet (eTup (aCons (eCallB F_trimmed (bCons (pV 3) aNil)) (aCons (eCallB F_trimmed (bCons (pV 2) aNil)) aNil))))))
def F_divided : Fn := fnOf 2 6 b_divided
def b_L_pick : Stm := (sRet (eIdx (pV 1) (pE (eCall F_L_draw (aCons (eV 0) (aCons (e1 oLenR (pV 1)) aNil))))))
def F_L_pick : Fn := fnOf 2 0 b_L_pick
def b_L_plus : Stm := (sRet (eCall F_L_no (aCons (e2 oAdd (pE (e2 oMul (pE (eIdx (pV 0) (pE (eC (.int 0))))) (pE (eIdx (pV 1) (pE (eC (.int 1))))))) (pE (e2 oMul (pE (eIdx (pV 1) (pE (eC (.int 0))))) (pE (eIdx (pV 0) (pE (eC (.int 1)))))))) (aCons (e2 oMul (pE (eIdx (pV 0) (pE (eC (.int 1))))) (pE (eIdx (pV 1) (pE (eC (.int 1)))))) aNil))))
def F_L_plus : Fn := fnOf 2 0 b_L_plus
def b_L_times : Stm := (sRet (eCall F_L_no (aCons (e2 oMul (pE (eIdx (pV 0) (pE (eC (.int 0))))) (pE (eIdx (pV 1) (pE (eC (.int 0)))))) (aCons (e2 oMul (pE (eIdx (pV 0) (pE (eC (.int 1))))) (pE (eIdx (pV 1) (pE (eC (.int 1)))))) aNil))))
def F_L_times : Fn := fnOf 2 0 b_L_times
def b_L_over : Stm := (sRet (eCall F_L_no (aCons (e2 oMul (pE (eIdx (pV 0) (pE (eC (.int 0))))) (pE (eIdx (pV 1) (pE (eC (.int 1)))))) (aCons (e2 oMul (pE (eIdx (pV 0) (pE (eC (.int 1))))) (pE (eIdx (pV 1) (pE (eC (.int 0)))))) aNil))))
def F_L_over : Fn := fnOf 2 0 b_L_over
def b_L_is_poly : Stm := (sSeq (sIf (tOr (tNot (tIsa [.tuple] (pV 0))) (tCmp oNe (pE (eLc (iP (eV 0)) (.nm 1) (tNot (tVal (pE (eCall F_L_is_no (aCons (eV 1) aNil))))) (eC (.int 1)) [1])) (pE (eLst aNil)))) (sRet (eC (.bl false))) sNil) (sRet (eT (tOr (tCmp oEq (pV 0) (pE (eTup aNil))) (tCmp oNe (pE (eIdx (pE (eIdx (pV 0) (pE (e1 oNeg (pE (eC (.int 1))))))) (pE (eC (.int 0))))) (pE (eC (.int 0))))))))
def F_L_is_poly : Fn := fnOf 1 1 b_L_is_poly
def b_with_cofactors : Stm := (sSeq (sPar 2 3 (eTup (aCons (eV 0) (aCons (eTup (aCons (eC c_ONE) aNil)) (aCons (eTup aNil) aNil)))) (eTup (aCons (eV 1) (aCons (eTup aNil) (aCons (eTup (aCons (eC c_ONE) aNil)) aNil))))) (sSeq (sWhile 20000 (tCmp oNe (pE (eIdx (pV 3) (pE (eC (.int 0))))) (pE (eTup aNil))) (sSeq (sSet 4 (eCall F_scaled (aCons (eCall F_minus (aCons (eC c_ONE) aNil)) (aCons (eIdx (pE (eCall F_divided (aCons (eIdx (pV 2) (pE (eC (.int 0)))) (aCons (eIdx (pV 3) (pE (eC (.int 0)))) aNil)))) (pE (eC (.int 0)))) aNil)))) (sSeq (sSet 5 (e1 oTuple (pE (eLc (iZip (eV 2) (eV 3)) (.tp [(.nm 7), (.nm 8)]) tYes (eCall F_summed (aCons (eV 7) (aCons (eCall F_multiplied (aCons (eV 4) (aCons (eV 8) aNil))) aNil))) [7, 8])))) (sPar 2 3 (eV 3) (eV 5))))) (sSeq (sSet 6 (eCall F_over (aCons (eC c_ONE) (aCons (eIdx (pE (eIdx (pV 2) (pE (eC (.int 0))))) (pE (e1 oNeg (pE (eC (.int 1)))))) aNil)))) (sRet (e1 oTuple (pE (eLc (iP (eV 2)) (.nm 7) tYes (eCall F_scaled (aCons (eV 6) (aCons (eV 7) aNil))) [7])))))))
def F_with_cofactors : Fn := fnOf 2 7 b_with_cofactors
def b_is_fraction : Stm := (sSeq (sIf (tOr (tNot (tIsa [.tuple] (pV 0))) (tOr (tCmp oNe (pE (e1 oLenR (pV 0))) (pE (eC (.int 3)))) (tOr (tNot (tIsa [.str] (pE (eIdx (pV 0) (pE (eC (.int 0))))))) (tCmp oNe (pE (eIdx (pV 0) (pE (eC (.int 0))))) (pE (eC (.str "fraction"))))))) (sRet (eC (.bl false))) sNil) (sSeq (sIf (tOr (tNot (tVal (pE (eCall F_is_polynomial (aCons (eIdx (pV 0) (pE (eC (.int 1)))) aNil))))) (tOr (tNot (tVal (pE (eCall F_is_polynomial (aCons (eIdx (pV 0) (pE (eC (.int 2)))) aNil))))) (tOr (tCmp oEq (pE (eIdx (pV 0) (pE (eC (.int 2))))) (pE (eTup aNil))) (tCmp oNe (pE (eIdx (pE (eIdx (pV 0) (pE (eC (.int 2))))) (pE (eC (.int 0))))) (pE (eC c_ONE)))))) (sRet (eC (.bl false))) sNil) (sRet (eT (tAnd (tCmp oLe (pE (e1 oLenR (pE (eIdx (pV 0) (pE (eC (.int 1))))))) (pE (eC c_MOST_ORDER))) (tCmp oLe (pE (e1 oLenR (pE (eIdx (pV 0) (pE (eC (.int 2))))))) (pE (e2 oAdd (pE (eC c_MOST_ORDER)) (pE (eC (.int 1)))))))))))
def F_is_fraction : Fn := fnOf 1 0 b_is_fraction
def b_L_some_number : Stm := (sSeq (sSet 2 (e2 oSub (pE (eCall F_L_draw (aCons (eV 0) (aCons (e2 oAdd (pE (e2 oMul (pE (eC (.int 2))) (pV 1))) (pE (eC (.int 1)))) aNil)))) (pV 1))) (sRet (eCall F_L_no (aCons (eV 2) (aCons (eCall F_L_pick (aCons (eV 0) (aCons (eLst (aCons (eC (.int 1)) (aCons (eC (.int 1)) (aCons (eC (.int 1)) (aCons (eC (.int 1)) (aCons (eC (.int 2)) (aCons (eC (.int 3)) aNil))))))) aNil))) aNil)))))
def F_L_some_number : Fn := fnOf 2 1 b_L_some_number
def b_L_poly_plus : Stm := (sSeq (sSet 3 (e2 oMax (pE (e1 oLenR (pV 0))) (pE (e1 oLenR (pV 1))))) (sSeq (sPar 4 5 (e2 oAdd (pE (e1 oList (pV 0))) (pE (e2 oMul (pE (eLst (aCons (eTup (aCons (eC (.int 0)) (aCons (eC (.int 1)) aNil))) aNil))) (pE (e2 oSub (pV 3) (pE (e1 oLenR (pV 0)))))))) (e2 oAdd (pE (e1 oList (pV 1))) (pE (e2 oMul (pE (eLst (aCons (eTup (aCons (eC (.int 0)) (aCons (eC (.int 1)) aNil))) aNil))) (pE (e2 oSub (pV 3) (pE (e1 oLenR (pV 1))))))))) (sSeq (sFrz 4) (sSeq (sFrz 5) (sRet (eCall F_L_trim (aCons (eLc (iZip (eV 4) (eV 5)) (.tp [(.nm 6), (.nm 7)]) tYes (eCall F_L_plus (aCons (eV 6) (aCons (eCall F_L_times (aCons (eV 2) (aCons (eV 7) aNil))) aNil))) [6, 7]) aNil)))))))
def F_L_poly_plus : Fn := fnOf 3 5 b_L_poly_plus
def b_L_poly_times : Stm := (sSeq (sSet 2 (e2 oMul (pE (eLst (aCons (eTup (aCons (eC (.int 0)) (aCons (eC (.int 1)) aNil))) aNil))) (pE (e2 oMax (pE (eC (.int 0))) (pE (e2 oSub (pE (e2 oAdd (pE (e1 oLenR (pV 0))) (pE (e1 oLenR (pV 1))))) (pE (eC (.int 1))))))))) (sSeq (sFor (iEnum (eV 0)) (.tp [(.nm 3), (.nm 4)]) (sFor (iEnum (eV 1)) (.tp [(.nm 5), (.nm 6)]) (sPutAt 2 (pE (e2 oAdd (pV 3) (pV 5))) (eCall F_L_plus (aCons (eIdx (pV 2) (pE (e2 oAdd (pV 3) (pV 5)))) (aCons (eCall F_L_times (aCons (eV 4) (aCons (eV 6) aNil))) aNil)))))) (sRet (eCallB F_L_trim (bCons (pV 2) aNil)))))
def F_L_poly_times : Fn := fnOf 2 5 b_L_poly_times
def b_L_poly_parted : Stm := (sSeq (sPar 2 3 (e1 oList (pV 0)) (e2 oMul (pE (eLst (aCons (eTup (aCons (eC (.int 0)) (aCons (eC (.int 1)) aNil))) aNil))) (pE (e2 oMax (pE (eC (.int 0))) (pE (e2 oAdd (pE (e2 oSub (pE (e1 oLenR (pV 0))) (pE (e1 oLenR (pV 1))))) (pE (eC (.int 1))))))))) (sSeq (sWhile 20000 (tCmp oGe (pE (e1 oLenR (pV 2))) (pE (e1 oLenR (pV 1)))) (sSeq (sPar 4 5 (eCall F_L_over (aCons (eIdx (pV 2) (pE (e1 oNeg (pE (eC (.int 1)))))) (aCons (eIdx (pV 1) (pE (e1 oNeg (pE (eC (.int 1)))))) aNil))) (e2 oSub (pE (e1 oLenR (pV 2))) (pE (e1 oLenR (pV 1))))) (sSeq (sPutAt 3 (pV 5) (eV 4)) (sSeq (sFor (iRange1 (pE (e1 oLenR (pV 1)))) (.nm 6) (sPutAt 2 (pE (e2 oAdd (pV 5) (pV 6))) (eCall F_L_plus (aCons (eIdx (pV 2) (pE (e2 oAdd (pV 5) (pV 6)))) (aCons (eCall F_L_minus (aCons (eCall F_L_times (aCons (eV 4) (aCons (eIdx (pV 1) (pV 6)) aNil))) aNil)) aNil))))) (sPop 2))))) (sRet (eTup (aCons (eCallB F_L_trim (bCons (pV 3) aNil)) (aCons (eCallB F_L_trim (bCons (pV 2) aNil)) aNil))))))
def F_L_poly_parted : Fn := fnOf 2 5 b_L_poly_parted
def b_L_is_fraction : Stm := (sSeq (sIf (tOr (tNot (tIsa [.tuple] (pV 0))) (tOr (tCmp oNe (pE (e1 oLenR (pV 0))) (pE (eC (.int 3)))) (tOr (tNot (tIsa [.str] (pE (eIdx (pV 0) (pE (eC (.int 0))))))) (tOr (tCmp oNe (pE (eIdx (pV 0) (pE (eC (.int 0))))) (pE (eC (.str "fraction")))) (tOr (tNot (tVal (pE (eCall F_L_is_poly (aCons (eIdx (pV 0) (pE (eC (.int 1)))) aNil))))) (tNot (tVal (pE (eCall F_L_is_poly (aCons (eIdx (pV 0) (pE (eC (.int 2)))) aNil)))))))))) (sRet (eC (.bl false))) sNil) (sRet (eT (tAnd (tCmp oNe (pE (eIdx (pV 0) (pE (eC (.int 2))))) (pE (eTup aNil))) (tAnd (tCmp oEq (pE (eIdx (pE (eIdx (pV 0) (pE (eC (.int 2))))) (pE (eC (.int 0))))) (pE (eTup (aCons (eC (.int 1)) (aCons (eC (.int 1)) aNil))))) (tAnd (tCmp oLt (pE (e1 oLenR (pE (eIdx (pV 0) (pE (eC (.int 1))))))) (pE (eC (.int 25)))) (tCmp oLt (pE (e1 oLenR (pE (eIdx (pV 0) (pE (eC (.int 2))))))) (pE (eC (.int 26))))))))))
def F_L_is_fraction : Fn := fnOf 1 0 b_L_is_fraction
def b_need_fraction : Stm := (sIf (tNot (tVal (pE (eCall F_is_fraction (aCons (eV 0) aNil))))) (sRaiseM "NoFraction" (eC (.str "no fraction"))) sNil)
def F_need_fraction : Fn := fnOf 1 0 b_need_fraction
def b_L_poly_common : Stm := (sSeq (sWhile 20000 (tCmp oNe (pV 1) (pE (eTup aNil))) (sPut (.tp [(.nm 0), (.nm 1)]) (eTup (aCons (eV 1) (aCons (eIdx (pE (eCall F_L_poly_parted (aCons (eV 0) (aCons (eV 1) aNil)))) (pE (eC (.int 1)))) aNil))))) (sRet (e1 oTuple (pE (eLc (iP (eV 0)) (.nm 2) tYes (eCall F_L_over (aCons (eV 2) (aCons (eIdx (pV 0) (pE (e1 oNeg (pE (eC (.int 1)))))) aNil))) [2])))))
def F_L_poly_common : Fn := fnOf 2 1 b_L_poly_common
def b_cofactors : Stm := (sSeq (sDrop (eCall F_need_fraction (aCons (eV 0) aNil))) (sSeq (sPut (.tp [(.nm 1), (.nm 2), (.nm 3)]) (eCall F_with_cofactors (aCons (eIdx (pV 0) (pE (eC (.int 1)))) (aCons (eIdx (pV 0) (pE (eC (.int 2)))) aNil)))) (sSeq (sIf (tCmp oNe (pV 1) (pE (eTup (aCons (eC c_ONE) aNil)))) (sRet (eC .non)) sNil) (sRet (eTup (aCons (eV 2) (aCons (eV 3) aNil)))))))
def F_cofactors : Fn := fnOf 1 3 b_cofactors
def b_L_plain (r_self : Fn) : Stm := (sSeq (sIf (tIsa [.list, .tuple] (pV 0)) (sRet (eT (tCmp oEq (pE (eLc (iP (eV 0)) (.nm 1) (tNot (tVal (pE (eCall r_self (aCons (eV 1) aNil))))) (eC (.int 1)) [1])) (pE (eLst aNil))))) sNil) (sSeq (sIf (tIsa [.dict] (pV 0)) sNo sNil) (sRet (eT (tOr (tIsN (pV 0)) (tIsa [.int, .str] (pV 0)))))))
def F_L_plain : Nat → Fn
  | 0 => fun _ _ => .stuck
  | n + 1 => fnOf 1 1 (b_L_plain (F_L_plain n))
def b_L_is : Stm := (sRet (eT (tAnd (tVal (pE (eCall (F_L_plain 100) (aCons (eV 0) aNil)))) (tAnd (tCmp oEq (pV 0) (pV 1)) (tAnd (tCmp oEq (pV 1) (pV 0)) (tCmp oEq (pE (e1 oRepr (pV 0))) (pE (e1 oRepr (pV 1)))))))))
def F_L_is : Fn := fnOf 2 0 b_L_is
def b_L_near (r_self : Fn) : Stm := (sSeq (sIf (tAnd (tIsa [.tuple] (pV 1)) (tAnd (tCmp oNe (pV 1) (pE (eTup aNil))) (tCmp oGt (pE (eCall F_L_draw (aCons (eV 0) (aCons (eC (.int 5)) aNil)))) (pE (eC (.int 0)))))) (sSeq (sSet 2 (eCall F_L_draw (aCons (eV 0) (aCons (e1 oLenR (pV 1)) aNil)))) (sRet (e2 oAdd (pE (e2 oAdd (pE (eSl (pV 1) none (some (pV 2)))) (pE (eTup (aCons (eCall r_self (aCons (eV 0) (aCons (eIdx (pV 1) (pV 2)) aNil))) aNil))))) (pE (eSl (pV 1) (some (pE (e2 oAdd (pV 2) (pE (eC (.int 1)))))) none))))) sNil) (sSeq (sIf (tIsa [.int] (pV 1)) (sRet (eCall F_L_pick (aCons (eV 0) (aCons (eLst (aCons (e2 oAdd (pV 1) (pE (eC (.int 1)))) (aCons (e2 oSub (pV 1) (pE (eC (.int 1)))) (aCons (e2 oSub (pE (eC (.int 0))) (pV 1)) (aCons (eC (.bl true)) (aCons (eC .non) (aCons (eTup (aCons (eV 1) aNil)) (aCons (e1 oStr (pV 1)) aNil)))))))) aNil)))) sNil) (sSeq (sSet 3 (eIf (tIsa [.tuple] (pV 1)) (e1 oList (pV 1)) (eLst (aCons (eV 1) aNil)))) (sSeq (sFrz 3) (sRet (eCall F_L_pick (aCons (eV 0) (aCons (eLst (aCons (eC .non) (aCons (eV 3) (aCons (e1 oTuple (pE (e2 oAdd (pV 3) (pE (eSl (pV 3) (some (pE (e1 oNeg (pE (eC (.int 1)))))) none))))) (aCons (e1 oTuple (pE (eSl (pV 3) none (some (pE (e1 oNeg (pE (eC (.int 1))))))))) (aCons (e1 oTuple (pE (e1 oRev (pV 3)))) (aCons (e1 oTuple (pV 3)) (aCons (eC (.int 0)) (aCons (eTup (aCons (eC (.int 0)) (aCons (eC (.int 1)) aNil))) aNil))))))))) aNil))))))))
def F_L_near : Nat → Fn
  | 0 => fun _ _ => .stuck
  | n + 1 => fnOf 2 2 (b_L_near (F_L_near n))
def b_law : Stm := (sSeq (sSet 2 (eTup (aCons (eC (.str "fraction")) (aCons (eTup (aCons (eTup (aCons (eC (.int 1)) (aCons (eC (.int 1)) aNil))) aNil)) (aCons (eTup (aCons (eTup (aCons (eC (.int 1)) (aCons (eC (.int 1)) aNil))) (aCons (eTup (aCons (e1 oNeg (pE (eC (.int 1)))) (aCons (eC (.int 2)) aNil))) aNil))) aNil))))) (sSeq (sIf (tOr (tNot (tVal (pE (eCall F_L_is (aCons (eLst (aCons (eCall F_cofactors (aCons (eV 2) aNil)) (aCons (eCall F_cofactors (aCons (eTup (aCons (eC (.str "fraction")) (aCons (eTup aNil) (aCons (eTup (aCons (eTup (aCons (eC (.int 1)) (aCons (eC (.int 1)) aNil))) aNil)) aNil)))) aNil)) aNil))) (aCons (eLst (aCons (eTup (aCons (eTup (aCons (eTup (aCons (eC (.int 1)) (aCons (eC (.int 1)) aNil))) aNil)) (aCons (eTup aNil) aNil))) (aCons (eTup (aCons (eTup aNil) (aCons (eTup (aCons (eTup (aCons (eC (.int 1)) (aCons (eC (.int 1)) aNil))) aNil)) aNil))) aNil))) aNil)))))) (tNot (tIsN (pE (eCall F_cofactors (aCons (eTup (aCons (eC (.str "fraction")) (aCons (eTup aNil) (aCons (eTup (aCons (eTup (aCons (eC (.int 1)) (aCons (eC (.int 1)) aNil))) (aCons (eTup (aCons (eC (.int 1)) (aCons (eC (.int 1)) aNil))) aNil))) aNil)))) aNil)))))) (sRet (eC (.bl false))) sNil) (sSeq (sFor (iRange1 (pE (e2 oAdd (pE (eC (.int 8))) (pE (e2 oMin (pE (e1 oLenR (pV 0))) (pE (eC (.int 8)))))))) (.nm 3) (sSeq (sSet 4 (eCall F_L_trim (aCons (eLc (iRange1 (pE (eCall F_L_draw (aCons (eV 1) (aCons (eC (.int 5)) aNil))))) (.nm 10) tYes (eCall F_L_some_number (aCons (eV 1) (aCons (eC (.int 2)) aNil))) [10]) aNil))) (sSeq (sSet 5 (e2 oAdd (pE (eTup (aCons (eTup (aCons (eC (.int 1)) (aCons (eC (.int 1)) aNil))) aNil))) (pE (eCall F_L_trim (aCons (eLc (iRange1 (pE (eCall F_L_draw (aCons (eV 1) (aCons (eC (.int 5)) aNil))))) (.nm 10) tYes (eCall F_L_some_number (aCons (eV 1) (aCons (eC (.int 2)) aNil))) [10]) aNil))))) (sSeq (sIf (tCmp oEq (pE (eCall F_L_draw (aCons (eV 1) (aCons (eC (.int 3)) aNil)))) (pE (eC (.int 0)))) (sSeq (sSet 6 (e2 oAdd (pE (eTup (aCons (eTup (aCons (eC (.int 1)) (aCons (eC (.int 1)) aNil))) aNil))) (pE (eCall F_L_trim (aCons (eLc (iRange1 (pE (eCall F_L_draw (aCons (eV 1) (aCons (eC (.int 3)) aNil))))) (.nm 10) tYes (eCall F_L_some_number (aCons (eV 1) (aCons (eC (.int 2)) aNil))) [10]) aNil))))) (sPar 4 5 (eCall F_L_poly_times (aCons (eV 4) (aCons (eV 6) aNil))) (eCall F_L_poly_times (aCons (eV 5) (aCons (eV 6) aNil))))) sNil) (sSeq (sSet 7 (eTup (aCons (eC (.str "fraction")) (aCons (eV 4) (aCons (eV 5) aNil))))) (sSeq (sSet 8 (eCall F_cofactors (aCons (eV 7) aNil))) (sSeq (sIf (tCmp oNe (pE (eT (tIsN (pV 8)))) (pE (eT (tCmp oGt (pE (e1 oLenR (pE (eCall F_L_poly_common (aCons (eV 4) (aCons (eV 5) aNil)))))) (pE (eC (.int 1))))))) (sRet (eC (.bl false))) sNil) (sSeq (sIf (tNot (tIsN (pV 8))) (sSeq (sIf (tOr (tNot (tVal (pE (eCall (F_L_plain 100) (aCons (eV 8) aNil))))) (tOr (tCmp oNe (pE (e1 oLenR (pV 8))) (pE (eC (.int 2)))) (tOr (tNot (tVal (pE (eCall F_L_is_poly (aCons (eIdx (pV 8) (pE (eC (.int 0)))) aNil))))) (tOr (tNot (tVal (pE (eCall F_L_is_poly (aCons (eIdx (pV 8) (pE (eC (.int 1)))) aNil))))) (tCmp oGe (pE (e1 oLenR (pE (eIdx (pV 8) (pE (eC (.int 0))))))) (pE (e1 oLenR (pV 5)))))))) (sRet (eC (.bl false))) sNil) (sIf (tCmp oNe (pE (eCall F_L_poly_plus (aCons (eCall F_L_poly_times (aCons (eIdx (pV 8) (pE (eC (.int 0)))) (aCons (eV 4) aNil))) (aCons (eCall F_L_poly_times (aCons (eIdx (pV 8) (pE (eC (.int 1)))) (aCons (eV 5) aNil))) (aCons (eTup (aCons (eC (.int 1)) (aCons (eC (.int 1)) aNil))) aNil))))) (pE (eTup (aCons (eTup (aCons (eC (.int 1)) (aCons (eC (.int 1)) aNil))) aNil)))) (sRet (eC (.bl false))) sNil)) sNil) (sFor (iP (e2 oAdd (pE (eLst (aCons (eV 7) (aCons (eSl (pV 7) none (some (pE (eC (.int 2))))) (aCons (e1 oList (pV 7)) (aCons (e2 oAdd (pV 7) (pE (eTup (aCons (eTup aNil) aNil)))) (aCons (eTup (aCons (eC (.str "fraction")) (aCons (eV 5) (aCons (eV 4) aNil)))) (aCons (eTup (aCons (eC (.str "fraction")) (aCons (e2 oAdd (pV 4) (pE (eTup (aCons (eTup (aCons (eC (.int 0)) (aCons (eC (.int 1)) aNil))) aNil)))) (aCons (eV 5) aNil)))) aNil)))))))) (pE (eLc (iRange1 (pE (eC (.int 8)))) (.nm 11) tYes (eCall (F_L_near 100) (aCons (eV 1) (aCons (eV 7) aNil))) [11])))) (.nm 9) (sIf (tNot (tVal (pE (eCall F_L_is (aCons (eCall F_is_fraction (aCons (eV 9) aNil)) (aCons (eCall F_L_is_fraction (aCons (eV 9) aNil)) aNil)))))) (sRet (eC (.bl false))) sNil)))))))))) (sRet (eC (.bl true))))))
end K60

set_option maxHeartbeats 0
namespace K60
open PySem PySem.Spec PyProof.Rows L2 LamX Ev
def top (i : Nat) : Stmt := PySem.Challenge.pw_entrybook_k60_cofactors_and_fractions_ju.main.body.getD i (.Pass ⟨0, 0, 0, 0⟩)
structure Gs (P : Pm) (mg : Str → Option Value) : Prop where
  abs : mg "abs" = none
  all : mg "all" = none
  bool_ : mg "bool" = none
  dict_ : mg "dict" = none
  enumerate : mg "enumerate" = none
  gcd : mg "gcd" = some (.builtin "math.gcd")
  int_ : mg "int" = none
  isinstance : mg "isinstance" = none
  len : mg "len" = none
  list_ : mg "list" = none
  max_ : mg "max" = none
  min_ : mg "min" = none
  range : mg "range" = none
  repr : mg "repr" = none
  str_ : mg "str" = none
  tuple_ : mg "tuple" = none
  zip : mg "zip" = none
  ZERO : GC P.K mg "ZERO" c_ZERO
  ONE : GC P.K mg "ONE" c_ONE
  MOST_ORDER : GC P.K mg "MOST_ORDER" c_MOST_ORDER
  x_NoFraction : ExF P mg "NoFraction"
section
variable {Pg : Program} {w : World} {mg : Str → Option Value} {base : Heap} {P : Pm} {f : Addr} {fd : FuncData} {dvs : List V} {kws : List (Str × V)}
theorem sc_L_begun : FnScope ["script", "great", "cell"] ["script"] (defScope (top 29)) := ⟨rfl, rfl, rfl, by decide +kernel, rfl, by decide +kernel, by decide +kernel⟩
theorem ok_L_begun (ga : mg "abs" = none) (F : FunD P.K "_law_begun" "_law_begun" (defArgs (top 29)) (defBody (top 29)) (defScope (top 29)) [] [] f fd) : FnG Pg w P.K mg base 2 f fd ["script"] (spBegun P.K) :=
  begun_ok F sc_L_begun fun cdv A outer s H E hr => pss_cons (ps_intsC (l := 1) (i := 2) (x := "cell") rfl sc_L_begun.nd rfl rfl (pe_var (i := 0) rfl (by first | exact Or.inl rfl | exact Or.inr (Or.inl rfl)) (by decide +kernel) (by decide +kernel)) (blkOk_by (by kernel_rfl)) (by show 2 < 3; decide) (fun _ _ _ _ _ => pg_name sc_L_begun.nd rfl (by first | exact Or.inl rfl | exact Or.inr rfl)) (fun _ _ _ _ _ => b_test 2 (b_abs 2 ga)) (fun _ _ _ _ _ => b_great 2 (b_abs 2 ga))) (pss_one (ps_ret (pe_disp (pps_cons pe_str (pe_var (i := 1) rfl (Or.inl rfl) (by decide +kernel) (by decide +kernel)) (pps_cons pe_str (pe_intsC (i := 2) (x := "cell") rfl sc_L_begun.nd (pe_var (i := 0) rfl (by first | exact Or.inl rfl | exact Or.inr (Or.inl rfl)) (by decide +kernel) (by decide +kernel)) (blkOk_by (by kernel_rfl)) (by show 2 < 3; decide) (fun _ _ _ _ _ => pg_name sc_L_begun.nd rfl (by first | exact Or.inl rfl | exact Or.inr rfl)) (fun _ _ _ _ _ => b_yes 2) (fun _ _ _ _ _ => b_abs 2 ga)) (pps_cons pe_str pe_int (pps_cons pe_str pe_int pps_nil)))) rfl rfl (by intro z; cases z) (by show 4 ≤ 15; decide))))
theorem sc_is_whole : FnScope ["thing"] ["thing"] (defScope (top 5)) := ⟨rfl, rfl, rfl, by decide +kernel, rfl, by decide +kernel, by decide +kernel⟩
theorem ok_is_whole (g : Gs P mg) (F : FunD P.K "is_whole" "is_whole" (defArgs (top 5)) (defBody (top 5)) (defScope (top 5)) dvs kws f fd) : FnG Pg w P.K mg base 1 f fd ["thing"] (spF P 1 F_is_whole) := by
  refine FnG.by (b := b_is_whole) F sc_is_whole rfl rfl fun cdv A outer s H E hr hA => ?_
  have hu := un64 hr
  have hu1 := un1 hr
  have nd := sc_is_whole.nd
  have hp := hp_of Pg w P.K mg base ["thing"] "is_whole" (defScope (top 5)) f cdv A outer s H E
  have hx := hx_of Pg w P.K mg base ["thing"] "is_whole" (defScope (top 5)) f cdv A outer s H E
  have tk := tk_of Pg w P.K mg base ["thing"] "is_whole" (defScope (top 5)) f cdv A outer s H E
  exact (s_one (s_ret (x_eT (XW.xt (x_andC (x_isa1 .int g.isinstance g.int_ (by decide +kernel) (x_O 0)) (x_and1 (x_not (x_isa1 .bool g.isinstance g.bool_ (by decide +kernel) (x_O 0)))))))))
theorem sc_number : FnScope ["upper", "lower", "by"] ["upper", "lower"] (defScope (top 9)) := ⟨rfl, rfl, rfl, by decide +kernel, rfl, by decide +kernel, by decide +kernel⟩
theorem ok_number (g : Gs P mg) (F : FunD P.K "number" "number" (defArgs (top 9)) (defBody (top 9)) (defScope (top 9)) dvs kws f fd) : FnG Pg w P.K mg base 1 f fd ["upper", "lower"] (spF P 2 F_number) := by
  refine FnG.by (b := b_number) F sc_number rfl rfl fun cdv A outer s H E hr hA => ?_
  have hu := un64 hr
  have hu1 := un1 hr
  have nd := sc_number.nd
  have hp := hp_of Pg w P.K mg base ["upper", "lower", "by"] "number" (defScope (top 9)) f cdv A outer s H E
  have hx := hx_of Pg w P.K mg base ["upper", "lower", "by"] "number" (defScope (top 9)) f cdv A outer s H E
  have tk := tk_of Pg w P.K mg base ["upper", "lower", "by"] "number" (defScope (top 9)) f cdv A outer s H E
  exact (s_seq (s_set (x_if (x_gt (x_O 1) (x_E x_int)) (x_gcd g.gcd (x_O 0) (x_O 1)) (x_sub (x_E x_int) (x_E (x_gcd g.gcd (x_O 0) (x_O 1))))) nd) (s_one (s_ret (x_tup (x_cons (x_div (x_O 0) (x_O 2)) (x_cons (x_div (x_O 1) (x_O 2)) x_nil))))))
theorem sc_minus : FnScope ["one"] ["one"] (defScope (top 12)) := ⟨rfl, rfl, rfl, by decide +kernel, rfl, by decide +kernel, by decide +kernel⟩
theorem ok_minus (g : Gs P mg) (F : FunD P.K "minus" "minus" (defArgs (top 12)) (defBody (top 12)) (defScope (top 12)) dvs kws f fd) : FnG Pg w P.K mg base 1 f fd ["one"] (spF P 1 F_minus) := by
  refine FnG.by (b := b_minus) F sc_minus rfl rfl fun cdv A outer s H E hr hA => ?_
  have hu := un64 hr
  have hu1 := un1 hr
  have nd := sc_minus.nd
  have hp := hp_of Pg w P.K mg base ["one"] "minus" (defScope (top 12)) f cdv A outer s H E
  have hx := hx_of Pg w P.K mg base ["one"] "minus" (defScope (top 12)) f cdv A outer s H E
  have tk := tk_of Pg w P.K mg base ["one"] "minus" (defScope (top 12)) f cdv A outer s H E
  exact (s_one (s_ret (x_tup (x_cons (x_sub (x_E x_int) (x_E (x_idx (x_O 0) (x_E x_int)))) (x_cons (x_idx (x_O 0) (x_E x_int)) x_nil)))))
theorem sc_trimmed : FnScope ["numbers", "found"] ["numbers"] (defScope (top 16)) := ⟨rfl, rfl, rfl, by decide +kernel, rfl, by decide +kernel, by decide +kernel⟩
theorem ok_trimmed (g : Gs P mg) (F : FunD P.K "trimmed" "trimmed" (defArgs (top 16)) (defBody (top 16)) (defScope (top 16)) dvs kws f fd) : FnG Pg w P.K mg base 1 f fd ["numbers"] (spF P 1 F_trimmed) := by
  refine FnG.by (b := b_trimmed) F sc_trimmed rfl rfl fun cdv A outer s H E hr hA => ?_
  have hu := un64 hr
  have hu1 := un1 hr
  have nd := sc_trimmed.nd
  have hp := hp_of Pg w P.K mg base ["numbers", "found"] "trimmed" (defScope (top 16)) f cdv A outer s H E
  have hx := hx_of Pg w P.K mg base ["numbers", "found"] "trimmed" (defScope (top 16)) f cdv A outer s H E
  have tk := tk_of Pg w P.K mg base ["numbers", "found"] "trimmed" (defScope (top 16)) f cdv A outer s H E
  exact (s_seq (s_set (x_list g.list_ (x_O 0)) nd) (s_seq (s_while 20000 hp (XW.xt (x_andC (x_ne hu (x_O 1) (x_E (x_lst x_nil))) (x_and1 (x_eq hu (x_E (x_idx (x_O 1) (x_E (x_neg (x_E x_int))))) (x_E (x_glob g.ZERO)))))) (s_one (s_pop 1))) (s_one (s_ret (x_tuple g.tuple_ (x_O 1))))))
theorem sc_L_mixed : FnScope ["state", "turn", "found", "prime", "blend", "cell"] ["state"] (defScope (top 30)) := ⟨rfl, rfl, rfl, by decide +kernel, rfl, by decide +kernel, by decide +kernel⟩
theorem ok_L_mixed (g : Gs P mg) (F : FunD P.K "_law_mixed" "_law_mixed" (defArgs (top 30)) (defBody (top 30)) (defScope (top 30)) dvs kws f fd) : FnG Pg w P.K mg base 1 f fd ["state"] (spF P 1 F_L_mixed) := by
  refine FnG.by (b := b_L_mixed) F sc_L_mixed rfl rfl fun cdv A outer s H E hr hA => ?_
  have hu := un64 hr
  have hu1 := un1 hr
  have nd := sc_L_mixed.nd
  have hp := hp_of Pg w P.K mg base ["state", "turn", "found", "prime", "blend", "cell"] "_law_mixed" (defScope (top 30)) f cdv A outer s H E
  have hx := hx_of Pg w P.K mg base ["state", "turn", "found", "prime", "blend", "cell"] "_law_mixed" (defScope (top 30)) f cdv A outer s H E
  have tk := tk_of Pg w P.K mg base ["state", "turn", "found", "prime", "blend", "cell"] "_law_mixed" (defScope (top 30)) f cdv A outer s H E
  exact (s_seq (s_par rfl (x_add (x_E (x_st .turn 0 hu1)) (x_E x_int)) x_int nd) (s_seq (s_stI .turn 0 hu1 (x_V 1)) (s_seq (s_for hp rfl (i_seq (x_lst (x_cons x_int (x_cons x_int (x_cons x_int (x_cons x_int x_nil)))))) (g_nm 3 nd) (s_seq (s_set (x_add (x_E (x_mul (x_E x_int) (x_O 1))) (x_E (x_div (x_O 3) (x_E x_int)))) nd) (s_seq (s_forC 0 hp rfl hu (g_nm 5 nd) (s_one (s_set (x_mod (x_E (x_int1 g.int_ (x_E (x_add (x_E (x_add (x_E (x_mul (x_O 4) (x_E x_int))) (x_O 5))) (x_O 1))))) (x_O 3)) nd))) (s_one (s_set (x_add (x_E (x_mul (x_O 2) (x_E x_int))) (x_E (x_mod (x_E (x_int1 g.int_ (x_E (x_pow (x_O 4) (x_E x_int))))) (x_O 3)))) nd))))) (s_one (s_retV 2)))))
theorem sc_L_common : FnScope ["one", "other"] ["one", "other"] (defScope (top 35)) := ⟨rfl, rfl, rfl, by decide +kernel, rfl, by decide +kernel, by decide +kernel⟩
theorem ok_L_common (g : Gs P mg) (F : FunD P.K "_law_common" "_law_common" (defArgs (top 35)) (defBody (top 35)) (defScope (top 35)) dvs kws f fd) : FnG Pg w P.K mg base 1 f fd ["one", "other"] (spF P 2 F_L_common) := by
  refine FnG.by (b := b_L_common) F sc_L_common rfl rfl fun cdv A outer s H E hr hA => ?_
  have hu := un64 hr
  have hu1 := un1 hr
  have nd := sc_L_common.nd
  have hp := hp_of Pg w P.K mg base ["one", "other"] "_law_common" (defScope (top 35)) f cdv A outer s H E
  have hx := hx_of Pg w P.K mg base ["one", "other"] "_law_common" (defScope (top 35)) f cdv A outer s H E
  have tk := tk_of Pg w P.K mg base ["one", "other"] "_law_common" (defScope (top 35)) f cdv A outer s H E
  exact (s_seq (s_while 20000 hp (x_ne hu (x_O 1) (x_E x_int)) (s_one (s_par rfl (x_V 1) (x_mod (x_E (x_int1 g.int_ (x_O 0))) (x_O 1)) nd))) (s_one (s_ret (x_abs g.abs (x_O 0)))))
theorem sc_L_minus : FnScope ["one"] ["one"] (defScope (top 40)) := ⟨rfl, rfl, rfl, by decide +kernel, rfl, by decide +kernel, by decide +kernel⟩
theorem ok_L_minus (g : Gs P mg) (F : FunD P.K "_law_minus" "_law_minus" (defArgs (top 40)) (defBody (top 40)) (defScope (top 40)) dvs kws f fd) : FnG Pg w P.K mg base 1 f fd ["one"] (spF P 1 F_L_minus) := by
  refine FnG.by (b := b_L_minus) F sc_L_minus rfl rfl fun cdv A outer s H E hr hA => ?_
  have hu := un64 hr
  have hu1 := un1 hr
  have nd := sc_L_minus.nd
  have hp := hp_of Pg w P.K mg base ["one"] "_law_minus" (defScope (top 40)) f cdv A outer s H E
  have hx := hx_of Pg w P.K mg base ["one"] "_law_minus" (defScope (top 40)) f cdv A outer s H E
  have tk := tk_of Pg w P.K mg base ["one"] "_law_minus" (defScope (top 40)) f cdv A outer s H E
  exact (s_one (s_ret (x_tup (x_cons (x_sub (x_E x_int) (x_E (x_idx (x_O 0) (x_E x_int)))) (x_cons (x_idx (x_O 0) (x_E x_int)) x_nil)))))
theorem sc_L_trim : FnScope ["numbers", "found"] ["numbers"] (defScope (top 42)) := ⟨rfl, rfl, rfl, by decide +kernel, rfl, by decide +kernel, by decide +kernel⟩
theorem ok_L_trim (g : Gs P mg) (F : FunD P.K "_law_trim" "_law_trim" (defArgs (top 42)) (defBody (top 42)) (defScope (top 42)) dvs kws f fd) : FnG Pg w P.K mg base 1 f fd ["numbers"] (spF P 1 F_L_trim) := by
  refine FnG.by (b := b_L_trim) F sc_L_trim rfl rfl fun cdv A outer s H E hr hA => ?_
  have hu := un64 hr
  have hu1 := un1 hr
  have nd := sc_L_trim.nd
  have hp := hp_of Pg w P.K mg base ["numbers", "found"] "_law_trim" (defScope (top 42)) f cdv A outer s H E
  have hx := hx_of Pg w P.K mg base ["numbers", "found"] "_law_trim" (defScope (top 42)) f cdv A outer s H E
  have tk := tk_of Pg w P.K mg base ["numbers", "found"] "_law_trim" (defScope (top 42)) f cdv A outer s H E
  exact (s_seq (s_set (x_list g.list_ (x_O 0)) nd) (s_seq (s_while 20000 hp (XW.xt (x_andC (x_ne hu (x_O 1) (x_E (x_lst x_nil))) (x_and1 (x_eq hu (x_E (x_idx (x_E (x_idx (x_O 1) (x_E (x_neg (x_E x_int))))) (x_E x_int))) (x_E x_int))))) (s_one (s_pop 1))) (s_one (s_ret (x_tuple g.tuple_ (x_O 1))))))
theorem sc_is_number : FnScope ["thing", "one"] ["thing"] (defScope (top 10)) := ⟨rfl, rfl, rfl, by decide +kernel, rfl, by decide +kernel, by decide +kernel⟩
theorem ok_is_number (g : Gs P mg) (h_is_whole : Has P Pg w mg base 1 "is_whole" 1 F_is_whole []) (F : FunD P.K "is_number" "is_number" (defArgs (top 10)) (defBody (top 10)) (defScope (top 10)) dvs kws f fd) : FnG Pg w P.K mg base 2 f fd ["thing"] (spF P 1 F_is_number) := by
  refine FnG.by (b := b_is_number) F sc_is_number rfl rfl fun cdv A outer s H E hr hA => ?_
  have hu := un64 hr
  have hu1 := un1 hr
  have nd := sc_is_number.nd
  have hp := hp_of Pg w P.K mg base ["thing", "one"] "is_number" (defScope (top 10)) f cdv A outer s H E
  have hx := hx_of Pg w P.K mg base ["thing", "one"] "is_number" (defScope (top 10)) f cdv A outer s H E
  have tk := tk_of Pg w P.K mg base ["thing", "one"] "is_number" (defScope (top 10)) f cdv A outer s H E
  exact (s_seq (s_if (XW.xt (x_orC (x_not (x_isa1 .tuple g.isinstance g.tuple_ (by decide +kernel) (x_O 0))) (x_orC (x_ne hu (x_E (x_len g.len (x_O 0))) (x_E x_int)) (x_or1 (x_not (x_val (x_E (x_all rfl g.all (x_E (x_lc (own := [("one", 1)]) rfl nd (i_seq (x_V 0)) (blkOk_by (by kernel_rfl)) (fun _ _ _ _ _ => (g_nm 1 nd)) (fun _ _ _ _ _ => ts_nil) (fun _ _ _ _ _ => (x_call (h_is_whole.mono (by omega)) hr hA rfl hx0 (x_cons (x_V 1) x_nil))))))))))))) (s_one (s_ret x_bl)) s_nil) (s_one (s_ret (x_eT (XW.xt (x_andC (x_gt (x_E (x_idx (x_O 0) (x_E x_int))) (x_E x_int)) (x_and1 (x_eq hu (x_E (x_gcd g.gcd (x_E (x_idx (x_O 0) (x_E x_int))) (x_E (x_idx (x_O 0) (x_E x_int))))) (x_E x_int)))))))))
theorem sc_plus : FnScope ["one", "other"] ["one", "other"] (defScope (top 11)) := ⟨rfl, rfl, rfl, by decide +kernel, rfl, by decide +kernel, by decide +kernel⟩
theorem ok_plus (g : Gs P mg) (h_number : Has P Pg w mg base 1 "number" 2 F_number []) (F : FunD P.K "plus" "plus" (defArgs (top 11)) (defBody (top 11)) (defScope (top 11)) dvs kws f fd) : FnG Pg w P.K mg base 2 f fd ["one", "other"] (spF P 2 F_plus) := by
  refine FnG.by (b := b_plus) F sc_plus rfl rfl fun cdv A outer s H E hr hA => ?_
  have hu := un64 hr
  have hu1 := un1 hr
  have nd := sc_plus.nd
  have hp := hp_of Pg w P.K mg base ["one", "other"] "plus" (defScope (top 11)) f cdv A outer s H E
  have hx := hx_of Pg w P.K mg base ["one", "other"] "plus" (defScope (top 11)) f cdv A outer s H E
  have tk := tk_of Pg w P.K mg base ["one", "other"] "plus" (defScope (top 11)) f cdv A outer s H E
  exact (s_one (s_ret (x_call (h_number.mono (by omega)) hr hA rfl hx (x_cons (x_add (x_E (x_mul (x_E (x_idx (x_O 0) (x_E x_int))) (x_E (x_idx (x_O 1) (x_E x_int))))) (x_E (x_mul (x_E (x_idx (x_O 1) (x_E x_int))) (x_E (x_idx (x_O 0) (x_E x_int)))))) (x_cons (x_mul (x_E (x_idx (x_O 0) (x_E x_int))) (x_E (x_idx (x_O 1) (x_E x_int)))) x_nil)))))
theorem sc_times : FnScope ["one", "other"] ["one", "other"] (defScope (top 13)) := ⟨rfl, rfl, rfl, by decide +kernel, rfl, by decide +kernel, by decide +kernel⟩
theorem ok_times (g : Gs P mg) (h_number : Has P Pg w mg base 1 "number" 2 F_number []) (F : FunD P.K "times" "times" (defArgs (top 13)) (defBody (top 13)) (defScope (top 13)) dvs kws f fd) : FnG Pg w P.K mg base 2 f fd ["one", "other"] (spF P 2 F_times) := by
  refine FnG.by (b := b_times) F sc_times rfl rfl fun cdv A outer s H E hr hA => ?_
  have hu := un64 hr
  have hu1 := un1 hr
  have nd := sc_times.nd
  have hp := hp_of Pg w P.K mg base ["one", "other"] "times" (defScope (top 13)) f cdv A outer s H E
  have hx := hx_of Pg w P.K mg base ["one", "other"] "times" (defScope (top 13)) f cdv A outer s H E
  have tk := tk_of Pg w P.K mg base ["one", "other"] "times" (defScope (top 13)) f cdv A outer s H E
  exact (s_one (s_ret (x_call (h_number.mono (by omega)) hr hA rfl hx (x_cons (x_mul (x_E (x_idx (x_O 0) (x_E x_int))) (x_E (x_idx (x_O 1) (x_E x_int)))) (x_cons (x_mul (x_E (x_idx (x_O 0) (x_E x_int))) (x_E (x_idx (x_O 1) (x_E x_int)))) x_nil)))))
theorem sc_over : FnScope ["one", "other"] ["one", "other"] (defScope (top 14)) := ⟨rfl, rfl, rfl, by decide +kernel, rfl, by decide +kernel, by decide +kernel⟩
theorem ok_over (g : Gs P mg) (h_number : Has P Pg w mg base 1 "number" 2 F_number []) (F : FunD P.K "over" "over" (defArgs (top 14)) (defBody (top 14)) (defScope (top 14)) dvs kws f fd) : FnG Pg w P.K mg base 2 f fd ["one", "other"] (spF P 2 F_over) := by
  refine FnG.by (b := b_over) F sc_over rfl rfl fun cdv A outer s H E hr hA => ?_
  have hu := un64 hr
  have hu1 := un1 hr
  have nd := sc_over.nd
  have hp := hp_of Pg w P.K mg base ["one", "other"] "over" (defScope (top 14)) f cdv A outer s H E
  have hx := hx_of Pg w P.K mg base ["one", "other"] "over" (defScope (top 14)) f cdv A outer s H E
  have tk := tk_of Pg w P.K mg base ["one", "other"] "over" (defScope (top 14)) f cdv A outer s H E
  exact (s_one (s_ret (x_call (h_number.mono (by omega)) hr hA rfl hx (x_cons (x_mul (x_E (x_idx (x_O 0) (x_E x_int))) (x_E (x_idx (x_O 1) (x_E x_int)))) (x_cons (x_mul (x_E (x_idx (x_O 0) (x_E x_int))) (x_E (x_idx (x_O 1) (x_E x_int)))) x_nil)))))
theorem sc_L_draw : FnScope ["state", "room", "found"] ["state", "room"] (defScope (top 31)) := ⟨rfl, rfl, rfl, by decide +kernel, rfl, by decide +kernel, by decide +kernel⟩
theorem ok_L_draw (g : Gs P mg) (h_L_mixed : Has P Pg w mg base 1 "_law_mixed" 1 F_L_mixed []) (F : FunD P.K "_law_draw" "_law_draw" (defArgs (top 31)) (defBody (top 31)) (defScope (top 31)) dvs kws f fd) : FnG Pg w P.K mg base 2 f fd ["state", "room"] (spF P 2 F_L_draw) := by
  refine FnG.by (b := b_L_draw) F sc_L_draw rfl rfl fun cdv A outer s H E hr hA => ?_
  have hu := un64 hr
  have hu1 := un1 hr
  have nd := sc_L_draw.nd
  have hp := hp_of Pg w P.K mg base ["state", "room", "found"] "_law_draw" (defScope (top 31)) f cdv A outer s H E
  have hx := hx_of Pg w P.K mg base ["state", "room", "found"] "_law_draw" (defScope (top 31)) f cdv A outer s H E
  have tk := tk_of Pg w P.K mg base ["state", "room", "found"] "_law_draw" (defScope (top 31)) f cdv A outer s H E
  exact (s_seq (s_if (x_eq hu (x_E (x_st .rest 0 hu1)) (x_E x_int)) (s_one (s_stI .rest 0 hu1 (x_if (x_greatV 0 hu) (x_pop0 0 hu) (x_call (h_L_mixed.mono (by omega)) hr hA rfl hx (x_cons (x_V 0) x_nil))))) s_nil) (s_seq (s_set (x_mod (x_E (x_int1 g.int_ (x_E (x_st .rest 0 hu1)))) (x_O 1)) nd) (s_seq (s_stI .rest 0 hu1 (x_div (x_E (x_st .rest 0 hu1)) (x_O 1))) (s_one (s_retV 2)))))
theorem sc_L_no : FnScope ["upper", "lower", "by"] ["upper", "lower"] (defScope (top 36)) := ⟨rfl, rfl, rfl, by decide +kernel, rfl, by decide +kernel, by decide +kernel⟩
theorem ok_L_no (g : Gs P mg) (h_L_common : Has P Pg w mg base 1 "_law_common" 2 F_L_common []) (F : FunD P.K "_law_no" "_law_no" (defArgs (top 36)) (defBody (top 36)) (defScope (top 36)) dvs kws f fd) : FnG Pg w P.K mg base 2 f fd ["upper", "lower"] (spF P 2 F_L_no) := by
  refine FnG.by (b := b_L_no) F sc_L_no rfl rfl fun cdv A outer s H E hr hA => ?_
  have hu := un64 hr
  have hu1 := un1 hr
  have nd := sc_L_no.nd
  have hp := hp_of Pg w P.K mg base ["upper", "lower", "by"] "_law_no" (defScope (top 36)) f cdv A outer s H E
  have hx := hx_of Pg w P.K mg base ["upper", "lower", "by"] "_law_no" (defScope (top 36)) f cdv A outer s H E
  have tk := tk_of Pg w P.K mg base ["upper", "lower", "by"] "_law_no" (defScope (top 36)) f cdv A outer s H E
  exact (s_seq (s_set (x_mul (x_E (x_call (h_L_common.mono (by omega)) hr hA rfl hx (x_cons (x_V 0) (x_cons (x_V 1) x_nil)))) (x_E (x_if (x_gt (x_O 1) (x_E x_int)) x_int (x_sub (x_E x_int) (x_E x_int))))) nd) (s_one (s_ret (x_tup (x_cons (x_div (x_O 0) (x_O 2)) (x_cons (x_div (x_O 1) (x_O 2)) x_nil))))))
theorem sc_L_is_no : FnScope ["thing", "one"] ["thing"] (defScope (top 48)) := ⟨rfl, rfl, rfl, by decide +kernel, rfl, by decide +kernel, by decide +kernel⟩
theorem ok_L_is_no (g : Gs P mg) (h_L_common : Has P Pg w mg base 1 "_law_common" 2 F_L_common []) (F : FunD P.K "_law_is_no" "_law_is_no" (defArgs (top 48)) (defBody (top 48)) (defScope (top 48)) dvs kws f fd) : FnG Pg w P.K mg base 2 f fd ["thing"] (spF P 1 F_L_is_no) := by
  refine FnG.by (b := b_L_is_no) F sc_L_is_no rfl rfl fun cdv A outer s H E hr hA => ?_
  have hu := un64 hr
  have hu1 := un1 hr
  have nd := sc_L_is_no.nd
  have hp := hp_of Pg w P.K mg base ["thing", "one"] "_law_is_no" (defScope (top 48)) f cdv A outer s H E
  have hx := hx_of Pg w P.K mg base ["thing", "one"] "_law_is_no" (defScope (top 48)) f cdv A outer s H E
  have tk := tk_of Pg w P.K mg base ["thing", "one"] "_law_is_no" (defScope (top 48)) f cdv A outer s H E
  exact (s_seq (s_if (XW.xt (x_orC (x_not (x_isa1 .tuple g.isinstance g.tuple_ (by decide +kernel) (x_O 0))) (x_orC (x_ne hu (x_E (x_len g.len (x_O 0))) (x_E x_int)) (x_or1 (x_ne hu (x_E (x_lc (own := [("one", 1)]) rfl nd (i_seq (x_V 0)) (blkOk_by (by kernel_rfl)) (fun _ _ _ _ _ => (g_nm 1 nd)) (fun _ _ _ _ _ => (ts_one (XW.xt (x_orC (x_not (x_isa1 .int g.isinstance g.int_ (by decide +kernel) (x_O 1))) (x_or1 (x_isa1 .bool g.isinstance g.bool_ (by decide +kernel) (x_O 1))))))) (fun _ _ _ _ _ => x_int))) (x_E (x_lst x_nil))))))) (s_one (s_ret x_bl)) s_nil) (s_one (s_ret (x_eT (XW.xt (x_andC (x_gt (x_E (x_idx (x_O 0) (x_E x_int))) (x_E x_int)) (x_and1 (x_eq hu (x_E (x_call (h_L_common.mono (by omega)) hr hA rfl hx (x_cons (x_idx (x_O 0) (x_E x_int)) (x_cons (x_idx (x_O 0) (x_E x_int)) x_nil)))) (x_E x_int)))))))))
theorem sc_is_polynomial : FnScope ["thing", "one"] ["thing"] (defScope (top 17)) := ⟨rfl, rfl, rfl, by decide +kernel, rfl, by decide +kernel, by decide +kernel⟩
theorem ok_is_polynomial (g : Gs P mg) (h_is_number : Has P Pg w mg base 2 "is_number" 1 F_is_number []) (F : FunD P.K "is_polynomial" "is_polynomial" (defArgs (top 17)) (defBody (top 17)) (defScope (top 17)) dvs kws f fd) : FnG Pg w P.K mg base 3 f fd ["thing"] (spF P 1 F_is_polynomial) := by
  refine FnG.by (b := b_is_polynomial) F sc_is_polynomial rfl rfl fun cdv A outer s H E hr hA => ?_
  have hu := un64 hr
  have hu1 := un1 hr
  have nd := sc_is_polynomial.nd
  have hp := hp_of Pg w P.K mg base ["thing", "one"] "is_polynomial" (defScope (top 17)) f cdv A outer s H E
  have hx := hx_of Pg w P.K mg base ["thing", "one"] "is_polynomial" (defScope (top 17)) f cdv A outer s H E
  have tk := tk_of Pg w P.K mg base ["thing", "one"] "is_polynomial" (defScope (top 17)) f cdv A outer s H E
  exact (s_seq (s_if (XW.xt (x_orC (x_not (x_isa1 .tuple g.isinstance g.tuple_ (by decide +kernel) (x_O 0))) (x_or1 (x_not (x_val (x_E (x_all rfl g.all (x_E (x_lc (own := [("one", 1)]) rfl nd (i_seq (x_V 0)) (blkOk_by (by kernel_rfl)) (fun _ _ _ _ _ => (g_nm 1 nd)) (fun _ _ _ _ _ => ts_nil) (fun _ _ _ _ _ => (x_call (h_is_number.mono (by omega)) hr hA rfl hx0 (x_cons (x_V 1) x_nil)))))))))))) (s_one (s_ret x_bl)) s_nil) (s_one (s_ret (x_eT (XW.xt (x_orC (x_eq hu (x_O 0) (x_E (x_tup x_nil))) (x_or1 (x_ne hu (x_E (x_idx (x_O 0) (x_E (x_neg (x_E x_int))))) (x_E (x_glob g.ZERO))))))))))
theorem sc_summed : FnScope ["one", "other", "wide", "left", "right", "here", "there"] ["one", "other"] (defScope (top 18)) := ⟨rfl, rfl, rfl, by decide +kernel, rfl, by decide +kernel, by decide +kernel⟩
theorem ok_summed (g : Gs P mg) (h_trimmed : Has P Pg w mg base 1 "trimmed" 1 F_trimmed []) (h_plus : Has P Pg w mg base 2 "plus" 2 F_plus []) (F : FunD P.K "summed" "summed" (defArgs (top 18)) (defBody (top 18)) (defScope (top 18)) dvs kws f fd) : FnG Pg w P.K mg base 3 f fd ["one", "other"] (spF P 2 F_summed) := by
  refine FnG.by (b := b_summed) F sc_summed rfl rfl fun cdv A outer s H E hr hA => ?_
  have hu := un64 hr
  have hu1 := un1 hr
  have nd := sc_summed.nd
  have hp := hp_of Pg w P.K mg base ["one", "other", "wide", "left", "right", "here", "there"] "summed" (defScope (top 18)) f cdv A outer s H E
  have hx := hx_of Pg w P.K mg base ["one", "other", "wide", "left", "right", "here", "there"] "summed" (defScope (top 18)) f cdv A outer s H E
  have tk := tk_of Pg w P.K mg base ["one", "other", "wide", "left", "right", "here", "there"] "summed" (defScope (top 18)) f cdv A outer s H E
  exact (s_seq (s_set (x_max rfl g.max_ (x_E (x_len g.len (x_O 0))) (x_E (x_len g.len (x_O 1)))) nd) (s_seq (s_set (x_add (x_E (x_list g.list_ (x_O 0))) (x_E (x_mul (x_E (x_lst (x_cons (x_glob g.ZERO) x_nil))) (x_E (x_sub (x_O 2) (x_E (x_len g.len (x_O 0)))))))) nd) (s_frz (s_seq (s_set (x_add (x_E (x_list g.list_ (x_O 1))) (x_E (x_mul (x_E (x_lst (x_cons (x_glob g.ZERO) x_nil))) (x_E (x_sub (x_O 2) (x_E (x_len g.len (x_O 1)))))))) nd) (s_frz (s_one (s_ret (x_call (h_trimmed.mono (by omega)) hr hA rfl hx (x_cons (x_lc (own := [("here", 5), ("there", 6)]) rfl nd (i_zip (x_V 3) (x_V 4) rfl g.zip) (blkOk_by (by kernel_rfl)) (fun _ _ _ _ _ => (g_tp rfl (g_cons (g_nm 5 nd) (g_cons (g_nm 6 nd) g_nil)))) (fun _ _ _ _ _ => ts_nil) (fun _ _ _ _ _ => (x_call (h_plus.mono (by omega)) hr hA rfl hx0 (x_cons (x_V 5) (x_cons (x_V 6) x_nil))))) x_nil)))))))))
theorem sc_scaled : FnScope ["by", "one", "own"] ["by", "one"] (defScope (top 19)) := ⟨rfl, rfl, rfl, by decide +kernel, rfl, by decide +kernel, by decide +kernel⟩
theorem ok_scaled (g : Gs P mg) (h_trimmed : Has P Pg w mg base 1 "trimmed" 1 F_trimmed []) (h_times : Has P Pg w mg base 2 "times" 2 F_times []) (F : FunD P.K "scaled" "scaled" (defArgs (top 19)) (defBody (top 19)) (defScope (top 19)) dvs kws f fd) : FnG Pg w P.K mg base 3 f fd ["by", "one"] (spF P 2 F_scaled) := by
  refine FnG.by (b := b_scaled) F sc_scaled rfl rfl fun cdv A outer s H E hr hA => ?_
  have hu := un64 hr
  have hu1 := un1 hr
  have nd := sc_scaled.nd
  have hp := hp_of Pg w P.K mg base ["by", "one", "own"] "scaled" (defScope (top 19)) f cdv A outer s H E
  have hx := hx_of Pg w P.K mg base ["by", "one", "own"] "scaled" (defScope (top 19)) f cdv A outer s H E
  have tk := tk_of Pg w P.K mg base ["by", "one", "own"] "scaled" (defScope (top 19)) f cdv A outer s H E
  exact (s_one (s_ret (x_call (h_trimmed.mono (by omega)) hr hA rfl hx (x_cons (x_lc (own := [("own", 2)]) rfl nd (i_seq (x_V 1)) (blkOk_by (by kernel_rfl)) (fun _ _ _ _ _ => (g_nm 2 nd)) (fun _ _ _ _ _ => ts_nil) (fun _ _ _ _ _ => (x_call (h_times.mono (by omega)) hr hA rfl hx0 (x_cons (x_V 0) (x_cons (x_V 2) x_nil))))) x_nil))))
theorem sc_multiplied : FnScope ["one", "other", "found", "at", "here", "to", "there"] ["one", "other"] (defScope (top 20)) := ⟨rfl, rfl, rfl, by decide +kernel, rfl, by decide +kernel, by decide +kernel⟩
theorem ok_multiplied (g : Gs P mg) (h_trimmed : Has P Pg w mg base 1 "trimmed" 1 F_trimmed []) (h_plus : Has P Pg w mg base 2 "plus" 2 F_plus []) (h_times : Has P Pg w mg base 2 "times" 2 F_times []) (F : FunD P.K "multiplied" "multiplied" (defArgs (top 20)) (defBody (top 20)) (defScope (top 20)) dvs kws f fd) : FnG Pg w P.K mg base 3 f fd ["one", "other"] (spF P 2 F_multiplied) := by
  refine FnG.by (b := b_multiplied) F sc_multiplied rfl rfl fun cdv A outer s H E hr hA => ?_
  have hu := un64 hr
  have hu1 := un1 hr
  have nd := sc_multiplied.nd
  have hp := hp_of Pg w P.K mg base ["one", "other", "found", "at", "here", "to", "there"] "multiplied" (defScope (top 20)) f cdv A outer s H E
  have hx := hx_of Pg w P.K mg base ["one", "other", "found", "at", "here", "to", "there"] "multiplied" (defScope (top 20)) f cdv A outer s H E
  have tk := tk_of Pg w P.K mg base ["one", "other", "found", "at", "here", "to", "there"] "multiplied" (defScope (top 20)) f cdv A outer s H E
  exact (s_seq (s_set (x_mul (x_E (x_lst (x_cons (x_glob g.ZERO) x_nil))) (x_E (x_max rfl g.max_ (x_E x_int) (x_E (x_sub (x_E (x_add (x_E (x_len g.len (x_O 0))) (x_E (x_len g.len (x_O 1))))) (x_E x_int)))))) nd) (s_seq (s_for hp rfl (i_enum (x_V 0) rfl g.enumerate) (g_tp rfl (g_cons (g_nm 3 nd) (g_cons (g_nm 4 nd) g_nil))) (s_one (s_for hp rfl (i_enum (x_V 1) rfl g.enumerate) (g_tp rfl (g_cons (g_nm 5 nd) (g_cons (g_nm 6 nd) g_nil))) (s_one (s_putAt 2 (x_call (h_plus.mono (by omega)) hr hA rfl hx (x_cons (x_idx (x_O 2) (x_E (x_add (x_O 3) (x_O 5)))) (x_cons (x_call (h_times.mono (by omega)) hr hA rfl hx (x_cons (x_V 4) (x_cons (x_V 6) x_nil))) x_nil))) (x_E (x_add (x_O 3) (x_O 5)))))))) (s_one (s_ret (x_callB (h_trimmed.mono (by omega)) hr hA rfl hx (b_cons (x_O 2) b_nil))))))
theorem sc_divided : FnScope ["one", "other", "left", "found", "at", "by", "to", "own"] ["one", "other"] (defScope (top 21)) := ⟨rfl, rfl, rfl, by decide +kernel, rfl, by decide +kernel, by decide +kernel⟩
theorem ok_divided (g : Gs P mg) (h_over : Has P Pg w mg base 2 "over" 2 F_over []) (h_trimmed : Has P Pg w mg base 1 "trimmed" 1 F_trimmed []) (h_plus : Has P Pg w mg base 2 "plus" 2 F_plus []) (h_minus : Has P Pg w mg base 1 "minus" 1 F_minus []) (h_times : Has P Pg w mg base 2 "times" 2 F_times []) (F : FunD P.K "divided" "divided" (defArgs (top 21)) (defBody (top 21)) (defScope (top 21)) dvs kws f fd) : FnG Pg w P.K mg base 3 f fd ["one", "other"] (spF P 2 F_divided) := by
  refine FnG.by (b := b_divided) F sc_divided rfl rfl fun cdv A outer s H E hr hA => ?_
  have hu := un64 hr
  have hu1 := un1 hr
  have nd := sc_divided.nd
  have hp := hp_of Pg w P.K mg base ["one", "other", "left", "found", "at", "by", "to", "own"] "divided" (defScope (top 21)) f cdv A outer s H E
  have hx := hx_of Pg w P.K mg base ["one", "other", "left", "found", "at", "by", "to", "own"] "divided" (defScope (top 21)) f cdv A outer s H E
  have tk := tk_of Pg w P.K mg base ["one", "other", "left", "found", "at", "by", "to", "own"] "divided" (defScope (top 21)) f cdv A outer s H E
  exact (s_seq (s_par rfl (x_list g.list_ (x_O 0)) (x_mul (x_E (x_lst (x_cons (x_glob g.ZERO) x_nil))) (x_E (x_max rfl g.max_ (x_E x_int) (x_E (x_add (x_E (x_sub (x_E (x_len g.len (x_O 0))) (x_E (x_len g.len (x_O 1))))) (x_E x_int)))))) nd) (s_seq (s_for hp rfl (i_rangeD (x_E (x_sub (x_E (x_len g.len (x_O 3))) (x_E x_int))) (x_E (x_neg (x_E x_int))) rfl g.range x_m1) (g_nm 4 nd) (s_seq (s_set (x_call (h_over.mono (by omega)) hr hA rfl hx (x_cons (x_idx (x_O 2) (x_E (x_sub (x_E (x_add (x_O 4) (x_E (x_len g.len (x_O 1))))) (x_E x_int)))) (x_cons (x_idx (x_O 1) (x_E (x_neg (x_E x_int)))) x_nil))) nd) (s_seq (s_putAt 3 (x_V 5) (x_O 4)) (s_one (s_for hp rfl (i_enum (x_V 1) rfl g.enumerate) (g_tp rfl (g_cons (g_nm 6 nd) (g_cons (g_nm 7 nd) g_nil))) (s_one (s_putAt 2 (x_call (h_plus.mono (by omega)) hr hA rfl hx (x_cons (x_idx (x_O 2) (x_E (x_add (x_O 4) (x_O 6)))) (x_cons (x_call (h_minus.mono (by omega)) hr hA rfl hx (x_cons (x_call (h_times.mono (by omega)) hr hA rfl hx (x_cons (x_V 5) (x_cons (x_V 7) x_nil))) x_nil)) x_nil))) (x_E (x_add (x_O 4) (x_O 6)))))))))) (s_one (s_ret (x_tup (x_cons (x_callB (h_trimmed.mono (by omega)) hr hA rfl hx (b_cons (x_O 3) b_nil)) (x_cons (x_callB (h_trimmed.mono (by omega)) hr hA rfl hx (b_cons (x_O 2) b_nil)) x_nil)))))))
theorem sc_L_pick : FnScope ["state", "some"] ["state", "some"] (defScope (top 32)) := ⟨rfl, rfl, rfl, by decide +kernel, rfl, by decide +kernel, by decide +kernel⟩
theorem ok_L_pick (g : Gs P mg) (h_L_draw : Has P Pg w mg base 2 "_law_draw" 2 F_L_draw []) (F : FunD P.K "_law_pick" "_law_pick" (defArgs (top 32)) (defBody (top 32)) (defScope (top 32)) dvs kws f fd) : FnG Pg w P.K mg base 3 f fd ["state", "some"] (spF P 2 F_L_pick) := by
  refine FnG.by (b := b_L_pick) F sc_L_pick rfl rfl fun cdv A outer s H E hr hA => ?_
  have hu := un64 hr
  have hu1 := un1 hr
  have nd := sc_L_pick.nd
  have hp := hp_of Pg w P.K mg base ["state", "some"] "_law_pick" (defScope (top 32)) f cdv A outer s H E
  have hx := hx_of Pg w P.K mg base ["state", "some"] "_law_pick" (defScope (top 32)) f cdv A outer s H E
  have tk := tk_of Pg w P.K mg base ["state", "some"] "_law_pick" (defScope (top 32)) f cdv A outer s H E
  exact (s_one (s_ret (x_idx (x_O 1) (x_E (x_call (h_L_draw.mono (by omega)) hr hA rfl hx (x_cons (x_V 0) (x_cons (x_len g.len (x_O 1)) x_nil)))))))
theorem sc_L_plus : FnScope ["one", "other"] ["one", "other"] (defScope (top 37)) := ⟨rfl, rfl, rfl, by decide +kernel, rfl, by decide +kernel, by decide +kernel⟩
theorem ok_L_plus (g : Gs P mg) (h_L_no : Has P Pg w mg base 2 "_law_no" 2 F_L_no []) (F : FunD P.K "_law_plus" "_law_plus" (defArgs (top 37)) (defBody (top 37)) (defScope (top 37)) dvs kws f fd) : FnG Pg w P.K mg base 3 f fd ["one", "other"] (spF P 2 F_L_plus) := by
  refine FnG.by (b := b_L_plus) F sc_L_plus rfl rfl fun cdv A outer s H E hr hA => ?_
  have hu := un64 hr
  have hu1 := un1 hr
  have nd := sc_L_plus.nd
  have hp := hp_of Pg w P.K mg base ["one", "other"] "_law_plus" (defScope (top 37)) f cdv A outer s H E
  have hx := hx_of Pg w P.K mg base ["one", "other"] "_law_plus" (defScope (top 37)) f cdv A outer s H E
  have tk := tk_of Pg w P.K mg base ["one", "other"] "_law_plus" (defScope (top 37)) f cdv A outer s H E
  exact (s_one (s_ret (x_call (h_L_no.mono (by omega)) hr hA rfl hx (x_cons (x_add (x_E (x_mul (x_E (x_idx (x_O 0) (x_E x_int))) (x_E (x_idx (x_O 1) (x_E x_int))))) (x_E (x_mul (x_E (x_idx (x_O 1) (x_E x_int))) (x_E (x_idx (x_O 0) (x_E x_int)))))) (x_cons (x_mul (x_E (x_idx (x_O 0) (x_E x_int))) (x_E (x_idx (x_O 1) (x_E x_int)))) x_nil)))))
theorem sc_L_times : FnScope ["one", "other"] ["one", "other"] (defScope (top 38)) := ⟨rfl, rfl, rfl, by decide +kernel, rfl, by decide +kernel, by decide +kernel⟩
theorem ok_L_times (g : Gs P mg) (h_L_no : Has P Pg w mg base 2 "_law_no" 2 F_L_no []) (F : FunD P.K "_law_times" "_law_times" (defArgs (top 38)) (defBody (top 38)) (defScope (top 38)) dvs kws f fd) : FnG Pg w P.K mg base 3 f fd ["one", "other"] (spF P 2 F_L_times) := by
  refine FnG.by (b := b_L_times) F sc_L_times rfl rfl fun cdv A outer s H E hr hA => ?_
  have hu := un64 hr
  have hu1 := un1 hr
  have nd := sc_L_times.nd
  have hp := hp_of Pg w P.K mg base ["one", "other"] "_law_times" (defScope (top 38)) f cdv A outer s H E
  have hx := hx_of Pg w P.K mg base ["one", "other"] "_law_times" (defScope (top 38)) f cdv A outer s H E
  have tk := tk_of Pg w P.K mg base ["one", "other"] "_law_times" (defScope (top 38)) f cdv A outer s H E
  exact (s_one (s_ret (x_call (h_L_no.mono (by omega)) hr hA rfl hx (x_cons (x_mul (x_E (x_idx (x_O 0) (x_E x_int))) (x_E (x_idx (x_O 1) (x_E x_int)))) (x_cons (x_mul (x_E (x_idx (x_O 0) (x_E x_int))) (x_E (x_idx (x_O 1) (x_E x_int)))) x_nil)))))
theorem sc_L_over : FnScope ["one", "other"] ["one", "other"] (defScope (top 41)) := ⟨rfl, rfl, rfl, by decide +kernel, rfl, by decide +kernel, by decide +kernel⟩
theorem ok_L_over (g : Gs P mg) (h_L_no : Has P Pg w mg base 2 "_law_no" 2 F_L_no []) (F : FunD P.K "_law_over" "_law_over" (defArgs (top 41)) (defBody (top 41)) (defScope (top 41)) dvs kws f fd) : FnG Pg w P.K mg base 3 f fd ["one", "other"] (spF P 2 F_L_over) := by
  refine FnG.by (b := b_L_over) F sc_L_over rfl rfl fun cdv A outer s H E hr hA => ?_
  have hu := un64 hr
  have hu1 := un1 hr
  have nd := sc_L_over.nd
  have hp := hp_of Pg w P.K mg base ["one", "other"] "_law_over" (defScope (top 41)) f cdv A outer s H E
  have hx := hx_of Pg w P.K mg base ["one", "other"] "_law_over" (defScope (top 41)) f cdv A outer s H E
  have tk := tk_of Pg w P.K mg base ["one", "other"] "_law_over" (defScope (top 41)) f cdv A outer s H E
  exact (s_one (s_ret (x_call (h_L_no.mono (by omega)) hr hA rfl hx (x_cons (x_mul (x_E (x_idx (x_O 0) (x_E x_int))) (x_E (x_idx (x_O 1) (x_E x_int)))) (x_cons (x_mul (x_E (x_idx (x_O 0) (x_E x_int))) (x_E (x_idx (x_O 1) (x_E x_int)))) x_nil)))))
theorem sc_L_is_poly : FnScope ["thing", "one"] ["thing"] (defScope (top 49)) := ⟨rfl, rfl, rfl, by decide +kernel, rfl, by decide +kernel, by decide +kernel⟩
theorem ok_L_is_poly (g : Gs P mg) (h_L_is_no : Has P Pg w mg base 2 "_law_is_no" 1 F_L_is_no []) (F : FunD P.K "_law_is_poly" "_law_is_poly" (defArgs (top 49)) (defBody (top 49)) (defScope (top 49)) dvs kws f fd) : FnG Pg w P.K mg base 3 f fd ["thing"] (spF P 1 F_L_is_poly) := by
  refine FnG.by (b := b_L_is_poly) F sc_L_is_poly rfl rfl fun cdv A outer s H E hr hA => ?_
  have hu := un64 hr
  have hu1 := un1 hr
  have nd := sc_L_is_poly.nd
  have hp := hp_of Pg w P.K mg base ["thing", "one"] "_law_is_poly" (defScope (top 49)) f cdv A outer s H E
  have hx := hx_of Pg w P.K mg base ["thing", "one"] "_law_is_poly" (defScope (top 49)) f cdv A outer s H E
  have tk := tk_of Pg w P.K mg base ["thing", "one"] "_law_is_poly" (defScope (top 49)) f cdv A outer s H E
  exact (s_seq (s_if (XW.xt (x_orC (x_not (x_isa1 .tuple g.isinstance g.tuple_ (by decide +kernel) (x_O 0))) (x_or1 (x_ne hu (x_E (x_lc (own := [("one", 1)]) rfl nd (i_seq (x_V 0)) (blkOk_by (by kernel_rfl)) (fun _ _ _ _ _ => (g_nm 1 nd)) (fun _ _ _ _ _ => (ts_one (x_not (x_val (x_E (x_call (h_L_is_no.mono (by omega)) hr hA rfl hx0 (x_cons (x_V 1) x_nil))))))) (fun _ _ _ _ _ => x_int))) (x_E (x_lst x_nil)))))) (s_one (s_ret x_bl)) s_nil) (s_one (s_ret (x_eT (XW.xt (x_orC (x_eq hu (x_O 0) (x_E (x_tup x_nil))) (x_or1 (x_ne hu (x_E (x_idx (x_E (x_idx (x_O 0) (x_E (x_neg (x_E x_int))))) (x_E x_int))) (x_E x_int)))))))))
theorem sc_with_cofactors : FnScope ["one", "other", "here", "there", "by", "later", "last", "own", "gone"] ["one", "other"] (defScope (top 22)) := ⟨rfl, rfl, rfl, by decide +kernel, rfl, by decide +kernel, by decide +kernel⟩
theorem ok_with_cofactors (g : Gs P mg) (h_over : Has P Pg w mg base 2 "over" 2 F_over []) (h_scaled : Has P Pg w mg base 3 "scaled" 2 F_scaled []) (h_minus : Has P Pg w mg base 1 "minus" 1 F_minus []) (h_divided : Has P Pg w mg base 3 "divided" 2 F_divided []) (h_summed : Has P Pg w mg base 3 "summed" 2 F_summed []) (h_multiplied : Has P Pg w mg base 3 "multiplied" 2 F_multiplied []) (F : FunD P.K "with_cofactors" "with_cofactors" (defArgs (top 22)) (defBody (top 22)) (defScope (top 22)) dvs kws f fd) : FnG Pg w P.K mg base 4 f fd ["one", "other"] (spF P 2 F_with_cofactors) := by
  refine FnG.by (b := b_with_cofactors) F sc_with_cofactors rfl rfl fun cdv A outer s H E hr hA => ?_
  have hu := un64 hr
  have hu1 := un1 hr
  have nd := sc_with_cofactors.nd
  have hp := hp_of Pg w P.K mg base ["one", "other", "here", "there", "by", "later", "last", "own", "gone"] "with_cofactors" (defScope (top 22)) f cdv A outer s H E
  have hx := hx_of Pg w P.K mg base ["one", "other", "here", "there", "by", "later", "last", "own", "gone"] "with_cofactors" (defScope (top 22)) f cdv A outer s H E
  have tk := tk_of Pg w P.K mg base ["one", "other", "here", "there", "by", "later", "last", "own", "gone"] "with_cofactors" (defScope (top 22)) f cdv A outer s H E
  exact (s_seq (s_par rfl (x_tup (x_cons (x_V 0) (x_cons (x_tup (x_cons (x_glob g.ONE) x_nil)) (x_cons (x_tup x_nil) x_nil)))) (x_tup (x_cons (x_V 1) (x_cons (x_tup x_nil) (x_cons (x_tup (x_cons (x_glob g.ONE) x_nil)) x_nil)))) nd) (s_seq (s_while 20000 hp (x_ne hu (x_E (x_idx (x_O 3) (x_E x_int))) (x_E (x_tup x_nil))) (s_seq (s_set (x_call (h_scaled.mono (by omega)) hr hA rfl hx (x_cons (x_call (h_minus.mono (by omega)) hr hA rfl hx (x_cons (x_glob g.ONE) x_nil)) (x_cons (x_idx (x_E (x_call (h_divided.mono (by omega)) hr hA rfl hx (x_cons (x_idx (x_O 2) (x_E x_int)) (x_cons (x_idx (x_O 3) (x_E x_int)) x_nil)))) (x_E x_int)) x_nil))) nd) (s_seq (s_set (x_tuple g.tuple_ (x_E (x_lc (own := [("own", 7), ("gone", 8)]) rfl nd (i_zip (x_V 2) (x_V 3) rfl g.zip) (blkOk_by (by kernel_rfl)) (fun _ _ _ _ _ => (g_tp rfl (g_cons (g_nm 7 nd) (g_cons (g_nm 8 nd) g_nil)))) (fun _ _ _ _ _ => ts_nil) (fun _ _ _ _ _ => (x_call (h_summed.mono (by omega)) hr hA rfl hx0 (x_cons (x_V 7) (x_cons (x_call (h_multiplied.mono (by omega)) hr hA rfl hx0 (x_cons (x_V 4) (x_cons (x_V 8) x_nil))) x_nil))))))) nd) (s_one (s_par rfl (x_V 3) (x_V 5) nd))))) (s_seq (s_set (x_call (h_over.mono (by omega)) hr hA rfl hx (x_cons (x_glob g.ONE) (x_cons (x_idx (x_E (x_idx (x_O 2) (x_E x_int))) (x_E (x_neg (x_E x_int)))) x_nil))) nd) (s_one (s_ret (x_tuple g.tuple_ (x_E (x_lc (own := [("own", 7)]) rfl nd (i_seq (x_V 2)) (blkOk_by (by kernel_rfl)) (fun _ _ _ _ _ => (g_nm 7 nd)) (fun _ _ _ _ _ => ts_nil) (fun _ _ _ _ _ => (x_call (h_scaled.mono (by omega)) hr hA rfl hx0 (x_cons (x_V 6) (x_cons (x_V 7) x_nil))))))))))))
theorem sc_is_fraction : FnScope ["thing"] ["thing"] (defScope (top 25)) := ⟨rfl, rfl, rfl, by decide +kernel, rfl, by decide +kernel, by decide +kernel⟩
theorem ok_is_fraction (g : Gs P mg) (h_is_polynomial : Has P Pg w mg base 3 "is_polynomial" 1 F_is_polynomial []) (F : FunD P.K "is_fraction" "is_fraction" (defArgs (top 25)) (defBody (top 25)) (defScope (top 25)) dvs kws f fd) : FnG Pg w P.K mg base 4 f fd ["thing"] (spF P 1 F_is_fraction) := by
  refine FnG.by (b := b_is_fraction) F sc_is_fraction rfl rfl fun cdv A outer s H E hr hA => ?_
  have hu := un64 hr
  have hu1 := un1 hr
  have nd := sc_is_fraction.nd
  have hp := hp_of Pg w P.K mg base ["thing"] "is_fraction" (defScope (top 25)) f cdv A outer s H E
  have hx := hx_of Pg w P.K mg base ["thing"] "is_fraction" (defScope (top 25)) f cdv A outer s H E
  have tk := tk_of Pg w P.K mg base ["thing"] "is_fraction" (defScope (top 25)) f cdv A outer s H E
  exact (s_seq (s_if (XW.xt (x_orC (x_not (x_isa1 .tuple g.isinstance g.tuple_ (by decide +kernel) (x_O 0))) (x_orC (x_ne hu (x_E (x_len g.len (x_O 0))) (x_E x_int)) (x_orC (x_not (x_isa1 .str g.isinstance g.str_ (by decide +kernel) (x_E (x_idx (x_O 0) (x_E x_int))))) (x_or1 (x_ne hu (x_E (x_idx (x_O 0) (x_E x_int))) (x_E x_str))))))) (s_one (s_ret x_bl)) s_nil) (s_seq (s_if (XW.xt (x_orC (x_not (x_val (x_E (x_call (h_is_polynomial.mono (by omega)) hr hA rfl hx (x_cons (x_idx (x_O 0) (x_E x_int)) x_nil))))) (x_orC (x_not (x_val (x_E (x_call (h_is_polynomial.mono (by omega)) hr hA rfl hx (x_cons (x_idx (x_O 0) (x_E x_int)) x_nil))))) (x_orC (x_eq hu (x_E (x_idx (x_O 0) (x_E x_int))) (x_E (x_tup x_nil))) (x_or1 (x_ne hu (x_E (x_idx (x_E (x_idx (x_O 0) (x_E x_int))) (x_E x_int))) (x_E (x_glob g.ONE)))))))) (s_one (s_ret x_bl)) s_nil) (s_one (s_ret (x_eT (XW.xt (x_andC (x_le (x_E (x_len g.len (x_E (x_idx (x_O 0) (x_E x_int))))) (x_E (x_glob g.MOST_ORDER))) (x_and1 (x_le (x_E (x_len g.len (x_E (x_idx (x_O 0) (x_E x_int))))) (x_E (x_add (x_E (x_glob g.MOST_ORDER)) (x_E x_int))))))))))))
theorem sc_L_some_number : FnScope ["state", "wide", "upper"] ["state", "wide"] (defScope (top 39)) := ⟨rfl, rfl, rfl, by decide +kernel, rfl, by decide +kernel, by decide +kernel⟩
theorem ok_L_some_number (g : Gs P mg) (h_L_no : Has P Pg w mg base 2 "_law_no" 2 F_L_no []) (h_L_draw : Has P Pg w mg base 2 "_law_draw" 2 F_L_draw []) (h_L_pick : Has P Pg w mg base 3 "_law_pick" 2 F_L_pick []) (F : FunD P.K "_law_some_number" "_law_some_number" (defArgs (top 39)) (defBody (top 39)) (defScope (top 39)) dvs kws f fd) : FnG Pg w P.K mg base 4 f fd ["state", "wide"] (spF P 2 F_L_some_number) := by
  refine FnG.by (b := b_L_some_number) F sc_L_some_number rfl rfl fun cdv A outer s H E hr hA => ?_
  have hu := un64 hr
  have hu1 := un1 hr
  have nd := sc_L_some_number.nd
  have hp := hp_of Pg w P.K mg base ["state", "wide", "upper"] "_law_some_number" (defScope (top 39)) f cdv A outer s H E
  have hx := hx_of Pg w P.K mg base ["state", "wide", "upper"] "_law_some_number" (defScope (top 39)) f cdv A outer s H E
  have tk := tk_of Pg w P.K mg base ["state", "wide", "upper"] "_law_some_number" (defScope (top 39)) f cdv A outer s H E
  exact (s_seq (s_set (x_sub (x_E (x_call (h_L_draw.mono (by omega)) hr hA rfl hx (x_cons (x_V 0) (x_cons (x_add (x_E (x_mul (x_E x_int) (x_O 1))) (x_E x_int)) x_nil)))) (x_O 1)) nd) (s_one (s_ret (x_call (h_L_no.mono (by omega)) hr hA rfl hx (x_cons (x_V 2) (x_cons (x_call (h_L_pick.mono (by omega)) hr hA rfl hx (x_cons (x_V 0) (x_cons (x_lst (x_cons x_int (x_cons x_int (x_cons x_int (x_cons x_int (x_cons x_int (x_cons x_int x_nil))))))) x_nil))) x_nil))))))
theorem sc_L_poly_plus : FnScope ["one", "other", "number_v", "wide", "left", "right", "here", "there"] ["one", "other", "number_v"] (defScope (top 43)) := ⟨rfl, rfl, rfl, by decide +kernel, rfl, by decide +kernel, by decide +kernel⟩
theorem ok_L_poly_plus (g : Gs P mg) (h_L_trim : Has P Pg w mg base 1 "_law_trim" 1 F_L_trim []) (h_L_plus : Has P Pg w mg base 3 "_law_plus" 2 F_L_plus []) (h_L_times : Has P Pg w mg base 3 "_law_times" 2 F_L_times []) (F : FunD P.K "_law_poly_plus" "_law_poly_plus" (defArgs (top 43)) (defBody (top 43)) (defScope (top 43)) dvs kws f fd) : FnG Pg w P.K mg base 4 f fd ["one", "other", "number_v"] (spF P 3 F_L_poly_plus) := by
  refine FnG.by (b := b_L_poly_plus) F sc_L_poly_plus rfl rfl fun cdv A outer s H E hr hA => ?_
  have hu := un64 hr
  have hu1 := un1 hr
  have nd := sc_L_poly_plus.nd
  have hp := hp_of Pg w P.K mg base ["one", "other", "number_v", "wide", "left", "right", "here", "there"] "_law_poly_plus" (defScope (top 43)) f cdv A outer s H E
  have hx := hx_of Pg w P.K mg base ["one", "other", "number_v", "wide", "left", "right", "here", "there"] "_law_poly_plus" (defScope (top 43)) f cdv A outer s H E
  have tk := tk_of Pg w P.K mg base ["one", "other", "number_v", "wide", "left", "right", "here", "there"] "_law_poly_plus" (defScope (top 43)) f cdv A outer s H E
  exact (s_seq (s_set (x_max rfl g.max_ (x_E (x_len g.len (x_O 0))) (x_E (x_len g.len (x_O 1)))) nd) (s_seq (s_par rfl (x_add (x_E (x_list g.list_ (x_O 0))) (x_E (x_mul (x_E (x_lst (x_cons (x_tup (x_cons x_int (x_cons x_int x_nil))) x_nil))) (x_E (x_sub (x_O 3) (x_E (x_len g.len (x_O 0)))))))) (x_add (x_E (x_list g.list_ (x_O 1))) (x_E (x_mul (x_E (x_lst (x_cons (x_tup (x_cons x_int (x_cons x_int x_nil))) x_nil))) (x_E (x_sub (x_O 3) (x_E (x_len g.len (x_O 1)))))))) nd) (s_frz (s_frz (s_one (s_ret (x_call (h_L_trim.mono (by omega)) hr hA rfl hx (x_cons (x_lc (own := [("here", 6), ("there", 7)]) rfl nd (i_zip (x_V 4) (x_V 5) rfl g.zip) (blkOk_by (by kernel_rfl)) (fun _ _ _ _ _ => (g_tp rfl (g_cons (g_nm 6 nd) (g_cons (g_nm 7 nd) g_nil)))) (fun _ _ _ _ _ => ts_nil) (fun _ _ _ _ _ => (x_call (h_L_plus.mono (by omega)) hr hA rfl hx0 (x_cons (x_V 6) (x_cons (x_call (h_L_times.mono (by omega)) hr hA rfl hx0 (x_cons (x_V 2) (x_cons (x_V 7) x_nil))) x_nil))))) x_nil))))))))
theorem sc_L_poly_times : FnScope ["one", "other", "found", "at", "here", "to", "there"] ["one", "other"] (defScope (top 44)) := ⟨rfl, rfl, rfl, by decide +kernel, rfl, by decide +kernel, by decide +kernel⟩
theorem ok_L_poly_times (g : Gs P mg) (h_L_trim : Has P Pg w mg base 1 "_law_trim" 1 F_L_trim []) (h_L_plus : Has P Pg w mg base 3 "_law_plus" 2 F_L_plus []) (h_L_times : Has P Pg w mg base 3 "_law_times" 2 F_L_times []) (F : FunD P.K "_law_poly_times" "_law_poly_times" (defArgs (top 44)) (defBody (top 44)) (defScope (top 44)) dvs kws f fd) : FnG Pg w P.K mg base 4 f fd ["one", "other"] (spF P 2 F_L_poly_times) := by
  refine FnG.by (b := b_L_poly_times) F sc_L_poly_times rfl rfl fun cdv A outer s H E hr hA => ?_
  have hu := un64 hr
  have hu1 := un1 hr
  have nd := sc_L_poly_times.nd
  have hp := hp_of Pg w P.K mg base ["one", "other", "found", "at", "here", "to", "there"] "_law_poly_times" (defScope (top 44)) f cdv A outer s H E
  have hx := hx_of Pg w P.K mg base ["one", "other", "found", "at", "here", "to", "there"] "_law_poly_times" (defScope (top 44)) f cdv A outer s H E
  have tk := tk_of Pg w P.K mg base ["one", "other", "found", "at", "here", "to", "there"] "_law_poly_times" (defScope (top 44)) f cdv A outer s H E
  exact (s_seq (s_set (x_mul (x_E (x_lst (x_cons (x_tup (x_cons x_int (x_cons x_int x_nil))) x_nil))) (x_E (x_max rfl g.max_ (x_E x_int) (x_E (x_sub (x_E (x_add (x_E (x_len g.len (x_O 0))) (x_E (x_len g.len (x_O 1))))) (x_E x_int)))))) nd) (s_seq (s_for hp rfl (i_enum (x_V 0) rfl g.enumerate) (g_tp rfl (g_cons (g_nm 3 nd) (g_cons (g_nm 4 nd) g_nil))) (s_one (s_for hp rfl (i_enum (x_V 1) rfl g.enumerate) (g_tp rfl (g_cons (g_nm 5 nd) (g_cons (g_nm 6 nd) g_nil))) (s_one (s_putAt 2 (x_call (h_L_plus.mono (by omega)) hr hA rfl hx (x_cons (x_idx (x_O 2) (x_E (x_add (x_O 3) (x_O 5)))) (x_cons (x_call (h_L_times.mono (by omega)) hr hA rfl hx (x_cons (x_V 4) (x_cons (x_V 6) x_nil))) x_nil))) (x_E (x_add (x_O 3) (x_O 5)))))))) (s_one (s_ret (x_callB (h_L_trim.mono (by omega)) hr hA rfl hx (b_cons (x_O 2) b_nil))))))
theorem sc_L_poly_parted : FnScope ["one", "other", "left", "found", "by", "spot", "at"] ["one", "other"] (defScope (top 45)) := ⟨rfl, rfl, rfl, by decide +kernel, rfl, by decide +kernel, by decide +kernel⟩
theorem ok_L_poly_parted (g : Gs P mg) (h_L_trim : Has P Pg w mg base 1 "_law_trim" 1 F_L_trim []) (h_L_over : Has P Pg w mg base 3 "_law_over" 2 F_L_over []) (h_L_plus : Has P Pg w mg base 3 "_law_plus" 2 F_L_plus []) (h_L_minus : Has P Pg w mg base 1 "_law_minus" 1 F_L_minus []) (h_L_times : Has P Pg w mg base 3 "_law_times" 2 F_L_times []) (F : FunD P.K "_law_poly_parted" "_law_poly_parted" (defArgs (top 45)) (defBody (top 45)) (defScope (top 45)) dvs kws f fd) : FnG Pg w P.K mg base 4 f fd ["one", "other"] (spF P 2 F_L_poly_parted) := by
  refine FnG.by (b := b_L_poly_parted) F sc_L_poly_parted rfl rfl fun cdv A outer s H E hr hA => ?_
  have hu := un64 hr
  have hu1 := un1 hr
  have nd := sc_L_poly_parted.nd
  have hp := hp_of Pg w P.K mg base ["one", "other", "left", "found", "by", "spot", "at"] "_law_poly_parted" (defScope (top 45)) f cdv A outer s H E
  have hx := hx_of Pg w P.K mg base ["one", "other", "left", "found", "by", "spot", "at"] "_law_poly_parted" (defScope (top 45)) f cdv A outer s H E
  have tk := tk_of Pg w P.K mg base ["one", "other", "left", "found", "by", "spot", "at"] "_law_poly_parted" (defScope (top 45)) f cdv A outer s H E
  exact (s_seq (s_par rfl (x_list g.list_ (x_O 0)) (x_mul (x_E (x_lst (x_cons (x_tup (x_cons x_int (x_cons x_int x_nil))) x_nil))) (x_E (x_max rfl g.max_ (x_E x_int) (x_E (x_add (x_E (x_sub (x_E (x_len g.len (x_O 0))) (x_E (x_len g.len (x_O 1))))) (x_E x_int)))))) nd) (s_seq (s_while 20000 hp (x_ge (x_E (x_len g.len (x_O 2))) (x_E (x_len g.len (x_O 1)))) (s_seq (s_par rfl (x_call (h_L_over.mono (by omega)) hr hA rfl hx (x_cons (x_idx (x_O 2) (x_E (x_neg (x_E x_int)))) (x_cons (x_idx (x_O 1) (x_E (x_neg (x_E x_int)))) x_nil))) (x_sub (x_E (x_len g.len (x_O 2))) (x_E (x_len g.len (x_O 1)))) nd) (s_seq (s_putAt 3 (x_V 4) (x_O 5)) (s_seq (s_for hp rfl (i_range1 (x_E (x_len g.len (x_O 1))) rfl g.range) (g_nm 6 nd) (s_one (s_putAt 2 (x_call (h_L_plus.mono (by omega)) hr hA rfl hx (x_cons (x_idx (x_O 2) (x_E (x_add (x_O 5) (x_O 6)))) (x_cons (x_call (h_L_minus.mono (by omega)) hr hA rfl hx (x_cons (x_call (h_L_times.mono (by omega)) hr hA rfl hx (x_cons (x_V 4) (x_cons (x_idx (x_O 1) (x_O 6)) x_nil))) x_nil)) x_nil))) (x_E (x_add (x_O 5) (x_O 6)))))) (s_one (s_pop 2)))))) (s_one (s_ret (x_tup (x_cons (x_callB (h_L_trim.mono (by omega)) hr hA rfl hx (b_cons (x_O 3) b_nil)) (x_cons (x_callB (h_L_trim.mono (by omega)) hr hA rfl hx (b_cons (x_O 2) b_nil)) x_nil)))))))
theorem sc_L_is_fraction : FnScope ["thing"] ["thing"] (defScope (top 50)) := ⟨rfl, rfl, rfl, by decide +kernel, rfl, by decide +kernel, by decide +kernel⟩
theorem ok_L_is_fraction (g : Gs P mg) (h_L_is_poly : Has P Pg w mg base 3 "_law_is_poly" 1 F_L_is_poly []) (F : FunD P.K "_law_is_fraction" "_law_is_fraction" (defArgs (top 50)) (defBody (top 50)) (defScope (top 50)) dvs kws f fd) : FnG Pg w P.K mg base 4 f fd ["thing"] (spF P 1 F_L_is_fraction) := by
  refine FnG.by (b := b_L_is_fraction) F sc_L_is_fraction rfl rfl fun cdv A outer s H E hr hA => ?_
  have hu := un64 hr
  have hu1 := un1 hr
  have nd := sc_L_is_fraction.nd
  have hp := hp_of Pg w P.K mg base ["thing"] "_law_is_fraction" (defScope (top 50)) f cdv A outer s H E
  have hx := hx_of Pg w P.K mg base ["thing"] "_law_is_fraction" (defScope (top 50)) f cdv A outer s H E
  have tk := tk_of Pg w P.K mg base ["thing"] "_law_is_fraction" (defScope (top 50)) f cdv A outer s H E
  exact (s_seq (s_if (XW.xt (x_orC (x_not (x_isa1 .tuple g.isinstance g.tuple_ (by decide +kernel) (x_O 0))) (x_orC (x_ne hu (x_E (x_len g.len (x_O 0))) (x_E x_int)) (x_orC (x_not (x_isa1 .str g.isinstance g.str_ (by decide +kernel) (x_E (x_idx (x_O 0) (x_E x_int))))) (x_orC (x_ne hu (x_E (x_idx (x_O 0) (x_E x_int))) (x_E x_str)) (x_orC (x_not (x_val (x_E (x_call (h_L_is_poly.mono (by omega)) hr hA rfl hx (x_cons (x_idx (x_O 0) (x_E x_int)) x_nil))))) (x_or1 (x_not (x_val (x_E (x_call (h_L_is_poly.mono (by omega)) hr hA rfl hx (x_cons (x_idx (x_O 0) (x_E x_int)) x_nil)))))))))))) (s_one (s_ret x_bl)) s_nil) (s_one (s_ret (x_eT (XW.xt (x_andC (x_ne hu (x_E (x_idx (x_O 0) (x_E x_int))) (x_E (x_tup x_nil))) (x_andC (x_eq hu (x_E (x_idx (x_E (x_idx (x_O 0) (x_E x_int))) (x_E x_int))) (x_E (x_tup (x_cons x_int (x_cons x_int x_nil))))) (x_andC (x_lt (x_E (x_len g.len (x_E (x_idx (x_O 0) (x_E x_int))))) (x_E x_int)) (x_and1 (x_lt (x_E (x_len g.len (x_E (x_idx (x_O 0) (x_E x_int))))) (x_E x_int)))))))))))
theorem sc_need_fraction : FnScope ["thing"] ["thing"] (defScope (top 26)) := ⟨rfl, rfl, rfl, by decide +kernel, rfl, by decide +kernel, by decide +kernel⟩
theorem ok_need_fraction (g : Gs P mg) (h_is_fraction : Has P Pg w mg base 4 "is_fraction" 1 F_is_fraction []) (F : FunD P.K "need_fraction" "need_fraction" (defArgs (top 26)) (defBody (top 26)) (defScope (top 26)) dvs kws f fd) : FnG Pg w P.K mg base 5 f fd ["thing"] (spF P 1 F_need_fraction) := by
  refine FnG.by (b := b_need_fraction) F sc_need_fraction rfl rfl fun cdv A outer s H E hr hA => ?_
  have hu := un64 hr
  have hu1 := un1 hr
  have nd := sc_need_fraction.nd
  have hp := hp_of Pg w P.K mg base ["thing"] "need_fraction" (defScope (top 26)) f cdv A outer s H E
  have hx := hx_of Pg w P.K mg base ["thing"] "need_fraction" (defScope (top 26)) f cdv A outer s H E
  have tk := tk_of Pg w P.K mg base ["thing"] "need_fraction" (defScope (top 26)) f cdv A outer s H E
  exact (s_one (s_if (x_not (x_val (x_E (x_call (h_is_fraction.mono (by omega)) hr hA rfl hx (x_cons (x_V 0) x_nil))))) (s_one (s_raise g.x_NoFraction rfl tk x_str)) s_nil))
theorem sc_L_poly_common : FnScope ["one", "other", "number_v"] ["one", "other"] (defScope (top 46)) := ⟨rfl, rfl, rfl, by decide +kernel, rfl, by decide +kernel, by decide +kernel⟩
theorem ok_L_poly_common (g : Gs P mg) (h_L_over : Has P Pg w mg base 3 "_law_over" 2 F_L_over []) (h_L_poly_parted : Has P Pg w mg base 4 "_law_poly_parted" 2 F_L_poly_parted []) (F : FunD P.K "_law_poly_common" "_law_poly_common" (defArgs (top 46)) (defBody (top 46)) (defScope (top 46)) dvs kws f fd) : FnG Pg w P.K mg base 5 f fd ["one", "other"] (spF P 2 F_L_poly_common) := by
  refine FnG.by (b := b_L_poly_common) F sc_L_poly_common rfl rfl fun cdv A outer s H E hr hA => ?_
  have hu := un64 hr
  have hu1 := un1 hr
  have nd := sc_L_poly_common.nd
  have hp := hp_of Pg w P.K mg base ["one", "other", "number_v"] "_law_poly_common" (defScope (top 46)) f cdv A outer s H E
  have hx := hx_of Pg w P.K mg base ["one", "other", "number_v"] "_law_poly_common" (defScope (top 46)) f cdv A outer s H E
  have tk := tk_of Pg w P.K mg base ["one", "other", "number_v"] "_law_poly_common" (defScope (top 46)) f cdv A outer s H E
  exact (s_seq (s_while 20000 hp (x_ne hu (x_O 1) (x_E (x_tup x_nil))) (s_one (s_put (x_tup (x_cons (x_V 1) (x_cons (x_idx (x_E (x_call (h_L_poly_parted.mono (by omega)) hr hA rfl hx (x_cons (x_V 0) (x_cons (x_V 1) x_nil)))) (x_E x_int)) x_nil))) (g_tp rfl (g_cons (g_nm 0 nd) (g_cons (g_nm 1 nd) g_nil)))))) (s_one (s_ret (x_tuple g.tuple_ (x_E (x_lc (own := [("number_v", 2)]) rfl nd (i_seq (x_V 0)) (blkOk_by (by kernel_rfl)) (fun _ _ _ _ _ => (g_nm 2 nd)) (fun _ _ _ _ _ => ts_nil) (fun _ _ _ _ _ => (x_call (h_L_over.mono (by omega)) hr hA rfl hx0 (x_cons (x_V 2) (x_cons (x_idx (x_O 0) (x_E (x_neg (x_E x_int)))) x_nil))))))))))
theorem sc_cofactors : FnScope ["fraction", "part", "by_upper", "by_lower"] ["fraction"] (defScope (top 27)) := ⟨rfl, rfl, rfl, by decide +kernel, rfl, by decide +kernel, by decide +kernel⟩
theorem ok_cofactors (g : Gs P mg) (h_need_fraction : Has P Pg w mg base 5 "need_fraction" 1 F_need_fraction []) (h_with_cofactors : Has P Pg w mg base 4 "with_cofactors" 2 F_with_cofactors []) (F : FunD P.K "cofactors" "cofactors" (defArgs (top 27)) (defBody (top 27)) (defScope (top 27)) dvs kws f fd) : FnG Pg w P.K mg base 6 f fd ["fraction"] (spF P 1 F_cofactors) := by
  refine FnG.by (b := b_cofactors) F sc_cofactors rfl rfl fun cdv A outer s H E hr hA => ?_
  have hu := un64 hr
  have hu1 := un1 hr
  have nd := sc_cofactors.nd
  have hp := hp_of Pg w P.K mg base ["fraction", "part", "by_upper", "by_lower"] "cofactors" (defScope (top 27)) f cdv A outer s H E
  have hx := hx_of Pg w P.K mg base ["fraction", "part", "by_upper", "by_lower"] "cofactors" (defScope (top 27)) f cdv A outer s H E
  have tk := tk_of Pg w P.K mg base ["fraction", "part", "by_upper", "by_lower"] "cofactors" (defScope (top 27)) f cdv A outer s H E
  exact (s_seq (s_drop (x_call (h_need_fraction.mono (by omega)) hr hA rfl hx (x_cons (x_V 0) x_nil))) (s_seq (s_put (x_call (h_with_cofactors.mono (by omega)) hr hA rfl hx (x_cons (x_idx (x_O 0) (x_E x_int)) (x_cons (x_idx (x_O 0) (x_E x_int)) x_nil))) (g_tp rfl (g_cons (g_nm 1 nd) (g_cons (g_nm 2 nd) (g_cons (g_nm 3 nd) g_nil))))) (s_seq (s_if (x_ne hu (x_O 1) (x_E (x_tup (x_cons (x_glob g.ONE) x_nil)))) (s_one (s_ret x_non)) s_nil) (s_one (s_ret (x_tup (x_cons (x_V 2) (x_cons (x_V 3) x_nil))))))))
theorem sc_L_plain : FnScope ["value", "one"] ["value"] (defScope (top 33)) := ⟨rfl, rfl, rfl, by decide +kernel, rfl, by decide +kernel, by decide +kernel⟩
theorem ok_L_plain (g : Gs P mg) (F : FunD P.K "_law_plain" "_law_plain" (defArgs (top 33)) (defBody (top 33)) (defScope (top 33)) dvs kws f fd) (n : Nat) (h_L_plain : Has P Pg w mg base (0 + n) "_law_plain" 1 (F_L_plain n) []) : FnG Pg w P.K mg base (0 + n + 1) f fd ["value"] (spF P 1 (F_L_plain (n + 1))) := by
  refine FnG.by (b := b_L_plain (F_L_plain n)) F sc_L_plain rfl rfl fun cdv A outer s H E hr hA => ?_
  have hu := un64 hr
  have hu1 := un1 hr
  have nd := sc_L_plain.nd
  have hp := hp_of Pg w P.K mg base ["value", "one"] "_law_plain" (defScope (top 33)) f cdv A outer s H E
  have hx := hx_of Pg w P.K mg base ["value", "one"] "_law_plain" (defScope (top 33)) f cdv A outer s H E
  have tk := tk_of Pg w P.K mg base ["value", "one"] "_law_plain" (defScope (top 33)) f cdv A outer s H E
  exact (s_seq (s_if (x_isa2 .list .tuple g.isinstance g.list_ g.tuple_ (by decide +kernel) (by decide +kernel) (x_O 0)) (s_one (s_ret (x_eT (x_eq hu (x_E (x_lc (own := [("one", 1)]) rfl nd (i_seq (x_V 0)) (blkOk_by (by kernel_rfl)) (fun _ _ _ _ _ => (g_nm 1 nd)) (fun _ _ _ _ _ => (ts_one (x_not (x_val (x_E (x_call (h_L_plain.mono (by omega)) hr hA rfl hx0 (x_cons (x_V 1) x_nil))))))) (fun _ _ _ _ _ => x_int))) (x_E (x_lst x_nil)))))) s_nil) (s_seq (s_if (x_isa1 .dict g.isinstance g.dict_ (by decide +kernel) (x_O 0)) (s_one s_no) s_nil) (s_one (s_ret (x_eT (XW.xt (x_orC (x_isN (x_O 0)) (x_or1 (x_isa2 .int .str g.isinstance g.int_ g.str_ (by decide +kernel) (by decide +kernel) (x_O 0))))))))))
theorem sc_L_is : FnScope ["found", "due"] ["found", "due"] (defScope (top 34)) := ⟨rfl, rfl, rfl, by decide +kernel, rfl, by decide +kernel, by decide +kernel⟩
theorem ok_L_is (g : Gs P mg) (h_L_plain : Has P Pg w mg base 101 "_law_plain" 1 (F_L_plain 100) []) (F : FunD P.K "_law_is" "_law_is" (defArgs (top 34)) (defBody (top 34)) (defScope (top 34)) dvs kws f fd) : FnG Pg w P.K mg base 102 f fd ["found", "due"] (spF P 2 F_L_is) := by
  refine FnG.by (b := b_L_is) F sc_L_is rfl rfl fun cdv A outer s H E hr hA => ?_
  have hu := un64 hr
  have hu1 := un1 hr
  have nd := sc_L_is.nd
  have hp := hp_of Pg w P.K mg base ["found", "due"] "_law_is" (defScope (top 34)) f cdv A outer s H E
  have hx := hx_of Pg w P.K mg base ["found", "due"] "_law_is" (defScope (top 34)) f cdv A outer s H E
  have tk := tk_of Pg w P.K mg base ["found", "due"] "_law_is" (defScope (top 34)) f cdv A outer s H E
  exact (s_one (s_ret (x_eT (XW.xt (x_andC (x_val (x_E (x_call (h_L_plain.mono (by omega)) hr hA rfl hx (x_cons (x_V 0) x_nil)))) (x_andC (x_eq hu (x_O 0) (x_O 1)) (x_andC (x_eq hu (x_O 1) (x_O 0)) (x_and1 (x_eq hu (x_E (x_repr hA hr g.repr (x_O 0))) (x_E (x_repr hA hr g.repr (x_O 1))))))))))))
theorem sc_L_near : FnScope ["state", "value", "at", "some"] ["state", "value"] (defScope (top 47)) := ⟨rfl, rfl, rfl, by decide +kernel, rfl, by decide +kernel, by decide +kernel⟩
theorem ok_L_near (g : Gs P mg) (h_L_pick : Has P Pg w mg base 3 "_law_pick" 2 F_L_pick []) (h_L_draw : Has P Pg w mg base 2 "_law_draw" 2 F_L_draw []) (F : FunD P.K "_law_near" "_law_near" (defArgs (top 47)) (defBody (top 47)) (defScope (top 47)) dvs kws f fd) (n : Nat) (h_L_near : Has P Pg w mg base (3 + n) "_law_near" 2 (F_L_near n) []) : FnG Pg w P.K mg base (3 + n + 1) f fd ["state", "value"] (spF P 2 (F_L_near (n + 1))) := by
  refine FnG.by (b := b_L_near (F_L_near n)) F sc_L_near rfl rfl fun cdv A outer s H E hr hA => ?_
  have hu := un64 hr
  have hu1 := un1 hr
  have nd := sc_L_near.nd
  have hp := hp_of Pg w P.K mg base ["state", "value", "at", "some"] "_law_near" (defScope (top 47)) f cdv A outer s H E
  have hx := hx_of Pg w P.K mg base ["state", "value", "at", "some"] "_law_near" (defScope (top 47)) f cdv A outer s H E
  have tk := tk_of Pg w P.K mg base ["state", "value", "at", "some"] "_law_near" (defScope (top 47)) f cdv A outer s H E
  exact (s_seq (s_if (XW.xt (x_andC (x_isa1 .tuple g.isinstance g.tuple_ (by decide +kernel) (x_O 1)) (x_andC (x_ne hu (x_O 1) (x_E (x_tup x_nil))) (x_and1 (x_gt (x_E (x_call (h_L_draw.mono (by omega)) hr hA rfl hx (x_cons (x_V 0) (x_cons x_int x_nil)))) (x_E x_int)))))) (s_seq (s_set (x_call (h_L_draw.mono (by omega)) hr hA rfl hx (x_cons (x_V 0) (x_cons (x_len g.len (x_O 1)) x_nil))) nd) (s_one (s_ret (x_add (x_E (x_add (x_E (x_slH (x_O 1) (x_O 2))) (x_E (x_tup (x_cons (x_call (h_L_near.mono (by omega)) hr hA rfl hx (x_cons (x_V 0) (x_cons (x_idx (x_O 1) (x_O 2)) x_nil))) x_nil))))) (x_E (x_slL (x_O 1) (x_E (x_add (x_O 2) (x_E x_int))))))))) s_nil) (s_seq (s_if (x_isa1 .int g.isinstance g.int_ (by decide +kernel) (x_O 1)) (s_one (s_ret (x_call (h_L_pick.mono (by omega)) hr hA rfl hx (x_cons (x_V 0) (x_cons (x_lst (x_cons (x_add (x_O 1) (x_E x_int)) (x_cons (x_sub (x_O 1) (x_E x_int)) (x_cons (x_sub (x_E x_int) (x_O 1)) (x_cons x_bl (x_cons x_non (x_cons (x_tup (x_cons (x_V 1) x_nil)) (x_cons (x_str1 g.str_ (x_O 1)) x_nil)))))))) x_nil))))) s_nil) (s_seq (s_set (x_if (x_isa1 .tuple g.isinstance g.tuple_ (by decide +kernel) (x_O 1)) (x_list g.list_ (x_O 1)) (x_lst (x_cons (x_V 1) x_nil))) nd) (s_frz (s_one (s_ret (x_call (h_L_pick.mono (by omega)) hr hA rfl hx (x_cons (x_V 0) (x_cons (x_lst (x_cons x_non (x_cons (x_V 3) (x_cons (x_tuple g.tuple_ (x_E (x_add (x_O 3) (x_E (x_slL (x_O 3) (x_E (x_neg (x_E x_int)))))))) (x_cons (x_tuple g.tuple_ (x_E (x_slH (x_O 3) (x_E (x_neg (x_E x_int)))))) (x_cons (x_tuple g.tuple_ (x_E (x_rev (x_O 3)))) (x_cons (x_tuple g.tuple_ (x_O 3)) (x_cons x_int (x_cons (x_tup (x_cons x_int (x_cons x_int x_nil))) x_nil))))))))) x_nil)))))))))
theorem sc_law : FnScope ["script", "state", "half", "lap", "upper", "lower", "part", "fraction", "found", "thing", "at", "turn"] ["script"] (defScope (top 51)) := ⟨rfl, rfl, rfl, by decide +kernel, rfl, by decide +kernel, by decide +kernel⟩
theorem ok_law (g : Gs P mg) (h_L_trim : Has P Pg w mg base 1 "_law_trim" 1 F_L_trim []) (hk_cofactors : HasK P Pg w mg base 6 "cofactors" ["fraction"] F_cofactors) (h_L_is : Has P Pg w mg base 102 "_law_is" 2 F_L_is []) (h_cofactors : Has P Pg w mg base 6 "cofactors" 1 F_cofactors []) (h_L_draw : Has P Pg w mg base 2 "_law_draw" 2 F_L_draw []) (h_L_some_number : Has P Pg w mg base 4 "_law_some_number" 2 F_L_some_number []) (h_L_poly_times : Has P Pg w mg base 4 "_law_poly_times" 2 F_L_poly_times []) (h_L_poly_plus : Has P Pg w mg base 4 "_law_poly_plus" 3 F_L_poly_plus []) (h_L_near : Has P Pg w mg base 104 "_law_near" 2 (F_L_near 100) []) (h_L_poly_common : Has P Pg w mg base 5 "_law_poly_common" 2 F_L_poly_common []) (h_L_plain : Has P Pg w mg base 101 "_law_plain" 1 (F_L_plain 100) []) (h_L_is_poly : Has P Pg w mg base 3 "_law_is_poly" 1 F_L_is_poly []) (h_is_fraction : Has P Pg w mg base 4 "is_fraction" 1 F_is_fraction []) (h_L_is_fraction : Has P Pg w mg base 4 "_law_is_fraction" 1 F_L_is_fraction []) {fB : Addr} {fdB : FuncData} (gB : mg "_law_begun" = some (.ref fB)) (kB : PySem.W.keepIn P.K (.ref fB) = true) (FB : FnG Pg w P.K mg base 2 fB fdB ["script"] (spBegun P.K)) (bB : Binds P.K fdB ["script"] []) (plain : ∀ ns : List Int, ns.length ≤ 63 → ∃ s', b_law ([.im (.scr ns.length), .im .st] ++ List.replicate 10 .un) (begun ns) = .rt (.im (.bl true)) s') (F : FunD P.K "law" "law" (defArgs (top 51)) (defBody (top 51)) (defScope (top 51)) dvs kws (He.fAd P.K ("law", none)) fd) : FnG Pg w P.K mg base 105 (He.fAd P.K ("law", none)) fd ["script"] (spLaw P 63) := by
  refine FnG.ofC F sc_law (fun vs H Q E ⟨a, ns, e, _⟩ => by rw [e]; rfl) fun A outer s H vs Q E hr hA h => ⟨_, ?_, law_start (E := E) (P := P) (b := b_law) rfl (by decide +kernel) h plain⟩
  have hu := un64 hr
  have hu1 := un1 hr
  have nd := sc_law.nd
  have hp := hp_of Pg w P.K mg base ["script", "state", "half", "lap", "upper", "lower", "part", "fraction", "found", "thing", "at", "turn"] "law" (defScope (top 51)) (He.fAd P.K ("law", none)) (.ref (He.codeOf P.K ("law", none))) A outer s H E
  have hx := hx_of Pg w P.K mg base ["script", "state", "half", "lap", "upper", "lower", "part", "fraction", "found", "thing", "at", "turn"] "law" (defScope (top 51)) (He.fAd P.K ("law", none)) (.ref (He.codeOf P.K ("law", none))) A outer s H E
  have tk := tk_of Pg w P.K mg base ["script", "state", "half", "lap", "upper", "lower", "part", "fraction", "found", "thing", "at", "turn"] "law" (defScope (top 51)) (He.fAd P.K ("law", none)) (.ref (He.codeOf P.K ("law", none))) A outer s H E
  exact pss_cons (ps_set (i := 1) nd rfl (by first | exact Or.inl rfl | exact Or.inr rfl) (pe_g FB (hr.mono (by omega)) hA rfl gB kB bB .nil hx (pa_cons (pe_var (i := 0) rfl (by first | exact Or.inl rfl | exact Or.inr (Or.inl rfl)) (by decide +kernel) (by decide +kernel)) pa_nil))) (s_seq (s_set (x_tup (x_cons x_str (x_cons (x_tup (x_cons (x_tup (x_cons x_int (x_cons x_int x_nil))) x_nil)) (x_cons (x_tup (x_cons (x_tup (x_cons x_int (x_cons x_int x_nil))) (x_cons (x_tup (x_cons (x_neg (x_E x_int)) (x_cons x_int x_nil))) x_nil))) x_nil)))) nd) (s_seq (s_if (XW.xt (x_orC (x_not (x_val (x_E (x_call (h_L_is.mono (by omega)) hr hA rfl hx (x_cons (x_lst (x_cons (x_call (h_cofactors.mono (by omega)) hr hA rfl hx (x_cons (x_V 2) x_nil)) (x_cons (x_call (h_cofactors.mono (by omega)) hr hA rfl hx (x_cons (x_tup (x_cons x_str (x_cons (x_tup x_nil) (x_cons (x_tup (x_cons (x_tup (x_cons x_int (x_cons x_int x_nil))) x_nil)) x_nil)))) x_nil)) x_nil))) (x_cons (x_lst (x_cons (x_tup (x_cons (x_tup (x_cons (x_tup (x_cons x_int (x_cons x_int x_nil))) x_nil)) (x_cons (x_tup x_nil) x_nil))) (x_cons (x_tup (x_cons (x_tup x_nil) (x_cons (x_tup (x_cons (x_tup (x_cons x_int (x_cons x_int x_nil))) x_nil)) x_nil))) x_nil))) x_nil)))))) (x_or1 (x_notN (x_E (x_call (h_cofactors.mono (by omega)) hr hA rfl hx (x_cons (x_tup (x_cons x_str (x_cons (x_tup x_nil) (x_cons (x_tup (x_cons (x_tup (x_cons x_int (x_cons x_int x_nil))) (x_cons (x_tup (x_cons x_int (x_cons x_int x_nil))) x_nil))) x_nil)))) x_nil))))))) (s_one (s_ret x_bl)) s_nil) (s_seq (s_for hp rfl (i_range1 (x_E (x_add (x_E x_int) (x_E (x_min rfl g.min_ (x_E (x_len g.len (x_O 0))) (x_E x_int))))) rfl g.range) (g_nm 3 nd) (s_seq (s_set (x_call (h_L_trim.mono (by omega)) hr hA rfl hx (x_cons (x_lc (own := [("at", 10)]) rfl nd (i_range1 (x_E (x_call (h_L_draw.mono (by omega)) hr hA rfl hx (x_cons (x_V 1) (x_cons x_int x_nil)))) rfl g.range) (blkOk_by (by kernel_rfl)) (fun _ _ _ _ _ => (g_nm 10 nd)) (fun _ _ _ _ _ => ts_nil) (fun _ _ _ _ _ => (x_call (h_L_some_number.mono (by omega)) hr hA rfl hx0 (x_cons (x_V 1) (x_cons x_int x_nil))))) x_nil)) nd) (s_seq (s_set (x_add (x_E (x_tup (x_cons (x_tup (x_cons x_int (x_cons x_int x_nil))) x_nil))) (x_E (x_call (h_L_trim.mono (by omega)) hr hA rfl hx (x_cons (x_lc (own := [("at", 10)]) rfl nd (i_range1 (x_E (x_call (h_L_draw.mono (by omega)) hr hA rfl hx (x_cons (x_V 1) (x_cons x_int x_nil)))) rfl g.range) (blkOk_by (by kernel_rfl)) (fun _ _ _ _ _ => (g_nm 10 nd)) (fun _ _ _ _ _ => ts_nil) (fun _ _ _ _ _ => (x_call (h_L_some_number.mono (by omega)) hr hA rfl hx0 (x_cons (x_V 1) (x_cons x_int x_nil))))) x_nil)))) nd) (s_seq (s_if (x_eq hu (x_E (x_call (h_L_draw.mono (by omega)) hr hA rfl hx (x_cons (x_V 1) (x_cons x_int x_nil)))) (x_E x_int)) (s_seq (s_set (x_add (x_E (x_tup (x_cons (x_tup (x_cons x_int (x_cons x_int x_nil))) x_nil))) (x_E (x_call (h_L_trim.mono (by omega)) hr hA rfl hx (x_cons (x_lc (own := [("at", 10)]) rfl nd (i_range1 (x_E (x_call (h_L_draw.mono (by omega)) hr hA rfl hx (x_cons (x_V 1) (x_cons x_int x_nil)))) rfl g.range) (blkOk_by (by kernel_rfl)) (fun _ _ _ _ _ => (g_nm 10 nd)) (fun _ _ _ _ _ => ts_nil) (fun _ _ _ _ _ => (x_call (h_L_some_number.mono (by omega)) hr hA rfl hx0 (x_cons (x_V 1) (x_cons x_int x_nil))))) x_nil)))) nd) (s_one (s_par rfl (x_call (h_L_poly_times.mono (by omega)) hr hA rfl hx (x_cons (x_V 4) (x_cons (x_V 6) x_nil))) (x_call (h_L_poly_times.mono (by omega)) hr hA rfl hx (x_cons (x_V 5) (x_cons (x_V 6) x_nil))) nd))) s_nil) (s_seq (s_set (x_tup (x_cons x_str (x_cons (x_V 4) (x_cons (x_V 5) x_nil)))) nd) (s_seq (s_set (x_callK (hk_cofactors.mono (by omega)) hr hA rfl hx (k_cons (x_V 7) k_nil)) nd) (s_seq (s_if (x_ne hu (x_E (x_eT (x_isN (x_O 8)))) (x_E (x_eT (x_gt (x_E (x_len g.len (x_E (x_call (h_L_poly_common.mono (by omega)) hr hA rfl hx (x_cons (x_V 4) (x_cons (x_V 5) x_nil)))))) (x_E x_int))))) (s_one (s_ret x_bl)) s_nil) (s_seq (s_if (x_notN (x_O 8)) (s_seq (s_if (XW.xt (x_orC (x_not (x_val (x_E (x_call (h_L_plain.mono (by omega)) hr hA rfl hx (x_cons (x_V 8) x_nil))))) (x_orC (x_ne hu (x_E (x_len g.len (x_O 8))) (x_E x_int)) (x_orC (x_not (x_val (x_E (x_call (h_L_is_poly.mono (by omega)) hr hA rfl hx (x_cons (x_idx (x_O 8) (x_E x_int)) x_nil))))) (x_orC (x_not (x_val (x_E (x_call (h_L_is_poly.mono (by omega)) hr hA rfl hx (x_cons (x_idx (x_O 8) (x_E x_int)) x_nil))))) (x_or1 (x_ge (x_E (x_len g.len (x_E (x_idx (x_O 8) (x_E x_int))))) (x_E (x_len g.len (x_O 5)))))))))) (s_one (s_ret x_bl)) s_nil) (s_one (s_if (x_ne hu (x_E (x_call (h_L_poly_plus.mono (by omega)) hr hA rfl hx (x_cons (x_call (h_L_poly_times.mono (by omega)) hr hA rfl hx (x_cons (x_idx (x_O 8) (x_E x_int)) (x_cons (x_V 4) x_nil))) (x_cons (x_call (h_L_poly_times.mono (by omega)) hr hA rfl hx (x_cons (x_idx (x_O 8) (x_E x_int)) (x_cons (x_V 5) x_nil))) (x_cons (x_tup (x_cons x_int (x_cons x_int x_nil))) x_nil))))) (x_E (x_tup (x_cons (x_tup (x_cons x_int (x_cons x_int x_nil))) x_nil)))) (s_one (s_ret x_bl)) s_nil))) s_nil) (s_one (s_for hp rfl (i_seq (x_add (x_E (x_lst (x_cons (x_V 7) (x_cons (x_slH (x_O 7) (x_E x_int)) (x_cons (x_list g.list_ (x_O 7)) (x_cons (x_add (x_O 7) (x_E (x_tup (x_cons (x_tup x_nil) x_nil)))) (x_cons (x_tup (x_cons x_str (x_cons (x_V 5) (x_cons (x_V 4) x_nil)))) (x_cons (x_tup (x_cons x_str (x_cons (x_add (x_O 4) (x_E (x_tup (x_cons (x_tup (x_cons x_int (x_cons x_int x_nil))) x_nil)))) (x_cons (x_V 5) x_nil)))) x_nil)))))))) (x_E (x_lc (own := [("turn", 11)]) rfl nd (i_range1 (x_E x_int) rfl g.range) (blkOk_by (by kernel_rfl)) (fun _ _ _ _ _ => (g_nm 11 nd)) (fun _ _ _ _ _ => ts_nil) (fun _ _ _ _ _ => (x_call (h_L_near.mono (by omega)) hr hA rfl hx0 (x_cons (x_V 1) (x_cons (x_V 7) x_nil)))))))) (g_nm 9 nd) (s_one (s_if (x_not (x_val (x_E (x_call (h_L_is.mono (by omega)) hr hA rfl hx (x_cons (x_call (h_is_fraction.mono (by omega)) hr hA rfl hx (x_cons (x_V 9) x_nil)) (x_cons (x_call (h_L_is_fraction.mono (by omega)) hr hA rfl hx (x_cons (x_V 9) x_nil)) x_nil)))))) (s_one (s_ret x_bl)) s_nil)))))))))))) (s_one (s_ret x_bl)))))
end
end K60

set_option maxHeartbeats 0
namespace K60
open PySem PySem.Spec PyProof.Rows L2 LamX Ev
def dd (x : Str) (i : Nat) (dfl : List He.Dv := []) : He.DefD := ⟨(x, none), x, x, defArgs (top i), defBody (top i), defScope (top i), dfl, []⟩
def fn : List He.DefD := [dd "is_whole" 5, dd "number" 9 [.int 1], dd "is_number" 10, dd "plus" 11, dd "minus" 12, dd "times" 13, dd "over" 14, dd "trimmed" 16, dd "is_polynomial" 17, dd "summed" 18, dd "scaled" 19, dd "multiplied" 20, dd "divided" 21, dd "with_cofactors" 22, dd "is_fraction" 25, dd "need_fraction" 26, dd "cofactors" 27, dd "_law_begun" 29, dd "_law_mixed" 30, dd "_law_draw" 31, dd "_law_pick" 32, dd "_law_plain" 33, dd "_law_is" 34, dd "_law_common" 35, dd "_law_no" 36, dd "_law_plus" 37, dd "_law_times" 38, dd "_law_some_number" 39, dd "_law_minus" 40, dd "_law_over" 41, dd "_law_trim" 42, dd "_law_poly_plus" 43, dd "_law_poly_times" 44, dd "_law_poly_parted" 45, dd "_law_poly_common" 46, dd "_law_near" 47, dd "_law_is_no" 48, dd "_law_is_poly" 49, dd "_law_is_fraction" 50, dd "law" 51]
def fa : List He.Fa := [.free "abs", .free "all", .free "bool", .free "dict", .free "enumerate", .free "int", .free "isinstance", .free "len", .free "list", .free "max", .free "min", .free "range", .free "repr", .free "str", .free "tuple", .free "zip", .glo "EntryError", .glo "NoFraction", .exc "NoFraction"] ++ fn.map (fun d => .glo d.name)
def tfl : List He.Defn := []
def exs (K : PySem.W.Frag) : List Bool := [gcB K "ZERO" c_ZERO, gcB K "ONE" c_ONE, gcB K "MOST_ORDER" c_MOST_ORDER, biB K "gcd" "math.gcd"]
def exB : PySem.W.Frag → Bool := fun K => (exs K).all id
abbrev R : PySem.W.OpenRow := PySem.W.OpenLaw.row PySem.Challenge.rw_entrybook_k60_cofactors_and_fractions_ju
abbrev hk : PySem.W.Hook := He.hookX 6 fa fn [] tfl exB
def ob (s : PySem.W.SharedT) : He.AlX := He.obsX 6 fa fn [] tfl exB (HandSHeadRun.getT s)
theorem ob_eq (s : PySem.W.SharedT) : ob s = hk.obs s.abs := He.obsX_eq (HandSHeadRun.getT_eq s)
def loose : List Str := (["__name__", "ZERO", "ONE", "MOST_ORDER", "EntryError", "NoFraction"] : List Str) ++ (fn.map (·.name)).dropLast
theorem run (w : World) : HandSHeadRun.RunEqI R (PySem.W.view R.prog [0, 51]) hk ob 4000 loose w := by
  unfold HandSHeadRun.RunEqI
  kernel_rfl
abbrev tbK (K : PySem.W.Frag) : List (Addr × Str) := []
section
variable {K : PySem.W.Frag} {h : Heap} {mg : Str → Option Value} {Pg : Program} {w : World} {base : Heap}
theorem gs_ok (X : K.In h) (G : h.Ns mainGlobals mg) (sd : He.SaysD fa fn K) (e : (exs K).all id = true) : Gs (PmK K (tbK K)) mg :=
  ⟨He.free_ok X G (sd.fact (f := .free "abs") 0),
    He.free_ok X G (sd.fact (f := .free "all") 1),
    He.free_ok X G (sd.fact (f := .free "bool") 2),
    He.free_ok X G (sd.fact (f := .free "dict") 3),
    He.free_ok X G (sd.fact (f := .free "enumerate") 4),
    biB_ok X G (all_at e 3),
    He.free_ok X G (sd.fact (f := .free "int") 5),
    He.free_ok X G (sd.fact (f := .free "isinstance") 6),
    He.free_ok X G (sd.fact (f := .free "len") 7),
    He.free_ok X G (sd.fact (f := .free "list") 8),
    He.free_ok X G (sd.fact (f := .free "max") 9),
    He.free_ok X G (sd.fact (f := .free "min") 10),
    He.free_ok X G (sd.fact (f := .free "range") 11),
    He.free_ok X G (sd.fact (f := .free "repr") 12),
    He.free_ok X G (sd.fact (f := .free "str") 13),
    He.free_ok X G (sd.fact (f := .free "tuple") 14),
    He.free_ok X G (sd.fact (f := .free "zip") 15),
    gcB_ok X G (all_at e 0),
    gcB_ok X G (all_at e 1),
    gcB_ok X G (all_at e 2),
    exF_k X G (sd.fact (f := .glo "NoFraction") 17) (sd.fact (f := .exc "NoFraction") 18)⟩
abbrev csK (K : PySem.W.Frag) : List (Addr × Addr) := []
theorem h_is_whole_of (X : K.In h) (G : h.Ns mainGlobals mg) (sd : He.SaysD fa fn K) (e : (exs K).all id = true) : Has (PmK K (tbK K)) Pg w mg base 1 "is_whole" 1 F_is_whole [] := by
  obtain ⟨fd, F⟩ := sd.def_ 0 (d := dd "is_whole" 5)
  exact Has.of (He.glo_ok X G (sd.fact (f := .glo "is_whole") 19)) F.kp (ok_is_whole (gs_ok X G sd e) F) (F.bindsN fun _ _ _ _ _ _ us hl => match us, hl with | [_], _ => rfl)
theorem h_number_of (X : K.In h) (G : h.Ns mainGlobals mg) (sd : He.SaysD fa fn K) (e : (exs K).all id = true) : Has (PmK K (tbK K)) Pg w mg base 1 "number" 2 F_number [] := by
  obtain ⟨fd, F⟩ := sd.def_ 1 (d := dd "number" 9 [.int 1])
  exact Has.ofD (ps := ["upper", "lower"]) (He.glo_ok X G (sd.fact (f := .glo "number") 20)) F.kp (ok_number (gs_ok X G sd e) F) (F.binds1 2 1 (fun z => by cases z) rfl fun _ _ _ _ _ _ _ us its hu hi => match us, its, hu, hi with | [_, _], [_], _, _ => ⟨_, rfl, rfl⟩) (fun _ _ _ => .nil)
theorem h_minus_of (X : K.In h) (G : h.Ns mainGlobals mg) (sd : He.SaysD fa fn K) (e : (exs K).all id = true) : Has (PmK K (tbK K)) Pg w mg base 1 "minus" 1 F_minus [] := by
  obtain ⟨fd, F⟩ := sd.def_ 4 (d := dd "minus" 12)
  exact Has.of (He.glo_ok X G (sd.fact (f := .glo "minus") 23)) F.kp (ok_minus (gs_ok X G sd e) F) (F.bindsN fun _ _ _ _ _ _ us hl => match us, hl with | [_], _ => rfl)
theorem h_trimmed_of (X : K.In h) (G : h.Ns mainGlobals mg) (sd : He.SaysD fa fn K) (e : (exs K).all id = true) : Has (PmK K (tbK K)) Pg w mg base 1 "trimmed" 1 F_trimmed [] := by
  obtain ⟨fd, F⟩ := sd.def_ 7 (d := dd "trimmed" 16)
  exact Has.of (He.glo_ok X G (sd.fact (f := .glo "trimmed") 26)) F.kp (ok_trimmed (gs_ok X G sd e) F) (F.bindsN fun _ _ _ _ _ _ us hl => match us, hl with | [_], _ => rfl)
theorem h_L_mixed_of (X : K.In h) (G : h.Ns mainGlobals mg) (sd : He.SaysD fa fn K) (e : (exs K).all id = true) : Has (PmK K (tbK K)) Pg w mg base 1 "_law_mixed" 1 F_L_mixed [] := by
  obtain ⟨fd, F⟩ := sd.def_ 18 (d := dd "_law_mixed" 30)
  exact Has.of (He.glo_ok X G (sd.fact (f := .glo "_law_mixed") 37)) F.kp (ok_L_mixed (gs_ok X G sd e) F) (F.bindsN fun _ _ _ _ _ _ us hl => match us, hl with | [_], _ => rfl)
theorem h_L_common_of (X : K.In h) (G : h.Ns mainGlobals mg) (sd : He.SaysD fa fn K) (e : (exs K).all id = true) : Has (PmK K (tbK K)) Pg w mg base 1 "_law_common" 2 F_L_common [] := by
  obtain ⟨fd, F⟩ := sd.def_ 23 (d := dd "_law_common" 35)
  exact Has.of (He.glo_ok X G (sd.fact (f := .glo "_law_common") 42)) F.kp (ok_L_common (gs_ok X G sd e) F) (F.bindsN fun _ _ _ _ _ _ us hl => match us, hl with | [_, _], _ => rfl)
theorem h_L_minus_of (X : K.In h) (G : h.Ns mainGlobals mg) (sd : He.SaysD fa fn K) (e : (exs K).all id = true) : Has (PmK K (tbK K)) Pg w mg base 1 "_law_minus" 1 F_L_minus [] := by
  obtain ⟨fd, F⟩ := sd.def_ 28 (d := dd "_law_minus" 40)
  exact Has.of (He.glo_ok X G (sd.fact (f := .glo "_law_minus") 47)) F.kp (ok_L_minus (gs_ok X G sd e) F) (F.bindsN fun _ _ _ _ _ _ us hl => match us, hl with | [_], _ => rfl)
theorem h_L_trim_of (X : K.In h) (G : h.Ns mainGlobals mg) (sd : He.SaysD fa fn K) (e : (exs K).all id = true) : Has (PmK K (tbK K)) Pg w mg base 1 "_law_trim" 1 F_L_trim [] := by
  obtain ⟨fd, F⟩ := sd.def_ 30 (d := dd "_law_trim" 42)
  exact Has.of (He.glo_ok X G (sd.fact (f := .glo "_law_trim") 49)) F.kp (ok_L_trim (gs_ok X G sd e) F) (F.bindsN fun _ _ _ _ _ _ us hl => match us, hl with | [_], _ => rfl)
theorem h_is_number_of (X : K.In h) (G : h.Ns mainGlobals mg) (sd : He.SaysD fa fn K) (e : (exs K).all id = true) : Has (PmK K (tbK K)) Pg w mg base 2 "is_number" 1 F_is_number [] := by
  obtain ⟨fd, F⟩ := sd.def_ 2 (d := dd "is_number" 10)
  exact Has.of (He.glo_ok X G (sd.fact (f := .glo "is_number") 21)) F.kp (ok_is_number (gs_ok X G sd e) (h_is_whole_of X G sd e) F) (F.bindsN fun _ _ _ _ _ _ us hl => match us, hl with | [_], _ => rfl)
theorem h_plus_of (X : K.In h) (G : h.Ns mainGlobals mg) (sd : He.SaysD fa fn K) (e : (exs K).all id = true) : Has (PmK K (tbK K)) Pg w mg base 2 "plus" 2 F_plus [] := by
  obtain ⟨fd, F⟩ := sd.def_ 3 (d := dd "plus" 11)
  exact Has.of (He.glo_ok X G (sd.fact (f := .glo "plus") 22)) F.kp (ok_plus (gs_ok X G sd e) (h_number_of X G sd e) F) (F.bindsN fun _ _ _ _ _ _ us hl => match us, hl with | [_, _], _ => rfl)
theorem h_times_of (X : K.In h) (G : h.Ns mainGlobals mg) (sd : He.SaysD fa fn K) (e : (exs K).all id = true) : Has (PmK K (tbK K)) Pg w mg base 2 "times" 2 F_times [] := by
  obtain ⟨fd, F⟩ := sd.def_ 5 (d := dd "times" 13)
  exact Has.of (He.glo_ok X G (sd.fact (f := .glo "times") 24)) F.kp (ok_times (gs_ok X G sd e) (h_number_of X G sd e) F) (F.bindsN fun _ _ _ _ _ _ us hl => match us, hl with | [_, _], _ => rfl)
theorem h_over_of (X : K.In h) (G : h.Ns mainGlobals mg) (sd : He.SaysD fa fn K) (e : (exs K).all id = true) : Has (PmK K (tbK K)) Pg w mg base 2 "over" 2 F_over [] := by
  obtain ⟨fd, F⟩ := sd.def_ 6 (d := dd "over" 14)
  exact Has.of (He.glo_ok X G (sd.fact (f := .glo "over") 25)) F.kp (ok_over (gs_ok X G sd e) (h_number_of X G sd e) F) (F.bindsN fun _ _ _ _ _ _ us hl => match us, hl with | [_, _], _ => rfl)
theorem h_L_draw_of (X : K.In h) (G : h.Ns mainGlobals mg) (sd : He.SaysD fa fn K) (e : (exs K).all id = true) : Has (PmK K (tbK K)) Pg w mg base 2 "_law_draw" 2 F_L_draw [] := by
  obtain ⟨fd, F⟩ := sd.def_ 19 (d := dd "_law_draw" 31)
  exact Has.of (He.glo_ok X G (sd.fact (f := .glo "_law_draw") 38)) F.kp (ok_L_draw (gs_ok X G sd e) (h_L_mixed_of X G sd e) F) (F.bindsN fun _ _ _ _ _ _ us hl => match us, hl with | [_, _], _ => rfl)
theorem h_L_no_of (X : K.In h) (G : h.Ns mainGlobals mg) (sd : He.SaysD fa fn K) (e : (exs K).all id = true) : Has (PmK K (tbK K)) Pg w mg base 2 "_law_no" 2 F_L_no [] := by
  obtain ⟨fd, F⟩ := sd.def_ 24 (d := dd "_law_no" 36)
  exact Has.of (He.glo_ok X G (sd.fact (f := .glo "_law_no") 43)) F.kp (ok_L_no (gs_ok X G sd e) (h_L_common_of X G sd e) F) (F.bindsN fun _ _ _ _ _ _ us hl => match us, hl with | [_, _], _ => rfl)
theorem h_L_is_no_of (X : K.In h) (G : h.Ns mainGlobals mg) (sd : He.SaysD fa fn K) (e : (exs K).all id = true) : Has (PmK K (tbK K)) Pg w mg base 2 "_law_is_no" 1 F_L_is_no [] := by
  obtain ⟨fd, F⟩ := sd.def_ 36 (d := dd "_law_is_no" 48)
  exact Has.of (He.glo_ok X G (sd.fact (f := .glo "_law_is_no") 55)) F.kp (ok_L_is_no (gs_ok X G sd e) (h_L_common_of X G sd e) F) (F.bindsN fun _ _ _ _ _ _ us hl => match us, hl with | [_], _ => rfl)
theorem h_is_polynomial_of (X : K.In h) (G : h.Ns mainGlobals mg) (sd : He.SaysD fa fn K) (e : (exs K).all id = true) : Has (PmK K (tbK K)) Pg w mg base 3 "is_polynomial" 1 F_is_polynomial [] := by
  obtain ⟨fd, F⟩ := sd.def_ 8 (d := dd "is_polynomial" 17)
  exact Has.of (He.glo_ok X G (sd.fact (f := .glo "is_polynomial") 27)) F.kp (ok_is_polynomial (gs_ok X G sd e) (h_is_number_of X G sd e) F) (F.bindsN fun _ _ _ _ _ _ us hl => match us, hl with | [_], _ => rfl)
theorem h_summed_of (X : K.In h) (G : h.Ns mainGlobals mg) (sd : He.SaysD fa fn K) (e : (exs K).all id = true) : Has (PmK K (tbK K)) Pg w mg base 3 "summed" 2 F_summed [] := by
  obtain ⟨fd, F⟩ := sd.def_ 9 (d := dd "summed" 18)
  exact Has.of (He.glo_ok X G (sd.fact (f := .glo "summed") 28)) F.kp (ok_summed (gs_ok X G sd e) (h_trimmed_of X G sd e) (h_plus_of X G sd e) F) (F.bindsN fun _ _ _ _ _ _ us hl => match us, hl with | [_, _], _ => rfl)
theorem h_scaled_of (X : K.In h) (G : h.Ns mainGlobals mg) (sd : He.SaysD fa fn K) (e : (exs K).all id = true) : Has (PmK K (tbK K)) Pg w mg base 3 "scaled" 2 F_scaled [] := by
  obtain ⟨fd, F⟩ := sd.def_ 10 (d := dd "scaled" 19)
  exact Has.of (He.glo_ok X G (sd.fact (f := .glo "scaled") 29)) F.kp (ok_scaled (gs_ok X G sd e) (h_trimmed_of X G sd e) (h_times_of X G sd e) F) (F.bindsN fun _ _ _ _ _ _ us hl => match us, hl with | [_, _], _ => rfl)
theorem h_multiplied_of (X : K.In h) (G : h.Ns mainGlobals mg) (sd : He.SaysD fa fn K) (e : (exs K).all id = true) : Has (PmK K (tbK K)) Pg w mg base 3 "multiplied" 2 F_multiplied [] := by
  obtain ⟨fd, F⟩ := sd.def_ 11 (d := dd "multiplied" 20)
  exact Has.of (He.glo_ok X G (sd.fact (f := .glo "multiplied") 30)) F.kp (ok_multiplied (gs_ok X G sd e) (h_trimmed_of X G sd e) (h_plus_of X G sd e) (h_times_of X G sd e) F) (F.bindsN fun _ _ _ _ _ _ us hl => match us, hl with | [_, _], _ => rfl)
theorem h_divided_of (X : K.In h) (G : h.Ns mainGlobals mg) (sd : He.SaysD fa fn K) (e : (exs K).all id = true) : Has (PmK K (tbK K)) Pg w mg base 3 "divided" 2 F_divided [] := by
  obtain ⟨fd, F⟩ := sd.def_ 12 (d := dd "divided" 21)
  exact Has.of (He.glo_ok X G (sd.fact (f := .glo "divided") 31)) F.kp (ok_divided (gs_ok X G sd e) (h_over_of X G sd e) (h_trimmed_of X G sd e) (h_plus_of X G sd e) (h_minus_of X G sd e) (h_times_of X G sd e) F) (F.bindsN fun _ _ _ _ _ _ us hl => match us, hl with | [_, _], _ => rfl)
theorem h_L_pick_of (X : K.In h) (G : h.Ns mainGlobals mg) (sd : He.SaysD fa fn K) (e : (exs K).all id = true) : Has (PmK K (tbK K)) Pg w mg base 3 "_law_pick" 2 F_L_pick [] := by
  obtain ⟨fd, F⟩ := sd.def_ 20 (d := dd "_law_pick" 32)
  exact Has.of (He.glo_ok X G (sd.fact (f := .glo "_law_pick") 39)) F.kp (ok_L_pick (gs_ok X G sd e) (h_L_draw_of X G sd e) F) (F.bindsN fun _ _ _ _ _ _ us hl => match us, hl with | [_, _], _ => rfl)
theorem h_L_plus_of (X : K.In h) (G : h.Ns mainGlobals mg) (sd : He.SaysD fa fn K) (e : (exs K).all id = true) : Has (PmK K (tbK K)) Pg w mg base 3 "_law_plus" 2 F_L_plus [] := by
  obtain ⟨fd, F⟩ := sd.def_ 25 (d := dd "_law_plus" 37)
  exact Has.of (He.glo_ok X G (sd.fact (f := .glo "_law_plus") 44)) F.kp (ok_L_plus (gs_ok X G sd e) (h_L_no_of X G sd e) F) (F.bindsN fun _ _ _ _ _ _ us hl => match us, hl with | [_, _], _ => rfl)
theorem h_L_times_of (X : K.In h) (G : h.Ns mainGlobals mg) (sd : He.SaysD fa fn K) (e : (exs K).all id = true) : Has (PmK K (tbK K)) Pg w mg base 3 "_law_times" 2 F_L_times [] := by
  obtain ⟨fd, F⟩ := sd.def_ 26 (d := dd "_law_times" 38)
  exact Has.of (He.glo_ok X G (sd.fact (f := .glo "_law_times") 45)) F.kp (ok_L_times (gs_ok X G sd e) (h_L_no_of X G sd e) F) (F.bindsN fun _ _ _ _ _ _ us hl => match us, hl with | [_, _], _ => rfl)
theorem h_L_over_of (X : K.In h) (G : h.Ns mainGlobals mg) (sd : He.SaysD fa fn K) (e : (exs K).all id = true) : Has (PmK K (tbK K)) Pg w mg base 3 "_law_over" 2 F_L_over [] := by
  obtain ⟨fd, F⟩ := sd.def_ 29 (d := dd "_law_over" 41)
  exact Has.of (He.glo_ok X G (sd.fact (f := .glo "_law_over") 48)) F.kp (ok_L_over (gs_ok X G sd e) (h_L_no_of X G sd e) F) (F.bindsN fun _ _ _ _ _ _ us hl => match us, hl with | [_, _], _ => rfl)
theorem h_L_is_poly_of (X : K.In h) (G : h.Ns mainGlobals mg) (sd : He.SaysD fa fn K) (e : (exs K).all id = true) : Has (PmK K (tbK K)) Pg w mg base 3 "_law_is_poly" 1 F_L_is_poly [] := by
  obtain ⟨fd, F⟩ := sd.def_ 37 (d := dd "_law_is_poly" 49)
  exact Has.of (He.glo_ok X G (sd.fact (f := .glo "_law_is_poly") 56)) F.kp (ok_L_is_poly (gs_ok X G sd e) (h_L_is_no_of X G sd e) F) (F.bindsN fun _ _ _ _ _ _ us hl => match us, hl with | [_], _ => rfl)
theorem h_with_cofactors_of (X : K.In h) (G : h.Ns mainGlobals mg) (sd : He.SaysD fa fn K) (e : (exs K).all id = true) : Has (PmK K (tbK K)) Pg w mg base 4 "with_cofactors" 2 F_with_cofactors [] := by
  obtain ⟨fd, F⟩ := sd.def_ 13 (d := dd "with_cofactors" 22)
  exact Has.of (He.glo_ok X G (sd.fact (f := .glo "with_cofactors") 32)) F.kp (ok_with_cofactors (gs_ok X G sd e) (h_over_of X G sd e) (h_scaled_of X G sd e) (h_minus_of X G sd e) (h_divided_of X G sd e) (h_summed_of X G sd e) (h_multiplied_of X G sd e) F) (F.bindsN fun _ _ _ _ _ _ us hl => match us, hl with | [_, _], _ => rfl)
theorem h_is_fraction_of (X : K.In h) (G : h.Ns mainGlobals mg) (sd : He.SaysD fa fn K) (e : (exs K).all id = true) : Has (PmK K (tbK K)) Pg w mg base 4 "is_fraction" 1 F_is_fraction [] := by
  obtain ⟨fd, F⟩ := sd.def_ 14 (d := dd "is_fraction" 25)
  exact Has.of (He.glo_ok X G (sd.fact (f := .glo "is_fraction") 33)) F.kp (ok_is_fraction (gs_ok X G sd e) (h_is_polynomial_of X G sd e) F) (F.bindsN fun _ _ _ _ _ _ us hl => match us, hl with | [_], _ => rfl)
theorem h_L_some_number_of (X : K.In h) (G : h.Ns mainGlobals mg) (sd : He.SaysD fa fn K) (e : (exs K).all id = true) : Has (PmK K (tbK K)) Pg w mg base 4 "_law_some_number" 2 F_L_some_number [] := by
  obtain ⟨fd, F⟩ := sd.def_ 27 (d := dd "_law_some_number" 39)
  exact Has.of (He.glo_ok X G (sd.fact (f := .glo "_law_some_number") 46)) F.kp (ok_L_some_number (gs_ok X G sd e) (h_L_no_of X G sd e) (h_L_draw_of X G sd e) (h_L_pick_of X G sd e) F) (F.bindsN fun _ _ _ _ _ _ us hl => match us, hl with | [_, _], _ => rfl)
theorem h_L_poly_plus_of (X : K.In h) (G : h.Ns mainGlobals mg) (sd : He.SaysD fa fn K) (e : (exs K).all id = true) : Has (PmK K (tbK K)) Pg w mg base 4 "_law_poly_plus" 3 F_L_poly_plus [] := by
  obtain ⟨fd, F⟩ := sd.def_ 31 (d := dd "_law_poly_plus" 43)
  exact Has.of (He.glo_ok X G (sd.fact (f := .glo "_law_poly_plus") 50)) F.kp (ok_L_poly_plus (gs_ok X G sd e) (h_L_trim_of X G sd e) (h_L_plus_of X G sd e) (h_L_times_of X G sd e) F) (F.bindsN fun _ _ _ _ _ _ us hl => match us, hl with | [_, _, _], _ => rfl)
theorem h_L_poly_times_of (X : K.In h) (G : h.Ns mainGlobals mg) (sd : He.SaysD fa fn K) (e : (exs K).all id = true) : Has (PmK K (tbK K)) Pg w mg base 4 "_law_poly_times" 2 F_L_poly_times [] := by
  obtain ⟨fd, F⟩ := sd.def_ 32 (d := dd "_law_poly_times" 44)
  exact Has.of (He.glo_ok X G (sd.fact (f := .glo "_law_poly_times") 51)) F.kp (ok_L_poly_times (gs_ok X G sd e) (h_L_trim_of X G sd e) (h_L_plus_of X G sd e) (h_L_times_of X G sd e) F) (F.bindsN fun _ _ _ _ _ _ us hl => match us, hl with | [_, _], _ => rfl)
theorem h_L_poly_parted_of (X : K.In h) (G : h.Ns mainGlobals mg) (sd : He.SaysD fa fn K) (e : (exs K).all id = true) : Has (PmK K (tbK K)) Pg w mg base 4 "_law_poly_parted" 2 F_L_poly_parted [] := by
  obtain ⟨fd, F⟩ := sd.def_ 33 (d := dd "_law_poly_parted" 45)
  exact Has.of (He.glo_ok X G (sd.fact (f := .glo "_law_poly_parted") 52)) F.kp (ok_L_poly_parted (gs_ok X G sd e) (h_L_trim_of X G sd e) (h_L_over_of X G sd e) (h_L_plus_of X G sd e) (h_L_minus_of X G sd e) (h_L_times_of X G sd e) F) (F.bindsN fun _ _ _ _ _ _ us hl => match us, hl with | [_, _], _ => rfl)
theorem h_L_is_fraction_of (X : K.In h) (G : h.Ns mainGlobals mg) (sd : He.SaysD fa fn K) (e : (exs K).all id = true) : Has (PmK K (tbK K)) Pg w mg base 4 "_law_is_fraction" 1 F_L_is_fraction [] := by
  obtain ⟨fd, F⟩ := sd.def_ 38 (d := dd "_law_is_fraction" 50)
  exact Has.of (He.glo_ok X G (sd.fact (f := .glo "_law_is_fraction") 57)) F.kp (ok_L_is_fraction (gs_ok X G sd e) (h_L_is_poly_of X G sd e) F) (F.bindsN fun _ _ _ _ _ _ us hl => match us, hl with | [_], _ => rfl)
theorem h_need_fraction_of (X : K.In h) (G : h.Ns mainGlobals mg) (sd : He.SaysD fa fn K) (e : (exs K).all id = true) : Has (PmK K (tbK K)) Pg w mg base 5 "need_fraction" 1 F_need_fraction [] := by
  obtain ⟨fd, F⟩ := sd.def_ 15 (d := dd "need_fraction" 26)
  exact Has.of (He.glo_ok X G (sd.fact (f := .glo "need_fraction") 34)) F.kp (ok_need_fraction (gs_ok X G sd e) (h_is_fraction_of X G sd e) F) (F.bindsN fun _ _ _ _ _ _ us hl => match us, hl with | [_], _ => rfl)
theorem h_L_poly_common_of (X : K.In h) (G : h.Ns mainGlobals mg) (sd : He.SaysD fa fn K) (e : (exs K).all id = true) : Has (PmK K (tbK K)) Pg w mg base 5 "_law_poly_common" 2 F_L_poly_common [] := by
  obtain ⟨fd, F⟩ := sd.def_ 34 (d := dd "_law_poly_common" 46)
  exact Has.of (He.glo_ok X G (sd.fact (f := .glo "_law_poly_common") 53)) F.kp (ok_L_poly_common (gs_ok X G sd e) (h_L_over_of X G sd e) (h_L_poly_parted_of X G sd e) F) (F.bindsN fun _ _ _ _ _ _ us hl => match us, hl with | [_, _], _ => rfl)
theorem h_cofactors_of (X : K.In h) (G : h.Ns mainGlobals mg) (sd : He.SaysD fa fn K) (e : (exs K).all id = true) : Has (PmK K (tbK K)) Pg w mg base 6 "cofactors" 1 F_cofactors [] := by
  obtain ⟨fd, F⟩ := sd.def_ 16 (d := dd "cofactors" 27)
  exact Has.of (He.glo_ok X G (sd.fact (f := .glo "cofactors") 35)) F.kp (ok_cofactors (gs_ok X G sd e) (h_need_fraction_of X G sd e) (h_with_cofactors_of X G sd e) F) (F.bindsN fun _ _ _ _ _ _ us hl => match us, hl with | [_], _ => rfl)
theorem hk_cofactors_of (X : K.In h) (G : h.Ns mainGlobals mg) (sd : He.SaysD fa fn K) (e : (exs K).all id = true) : HasK (PmK K (tbK K)) Pg w mg base 6 "cofactors" ["fraction"] F_cofactors := by
  obtain ⟨fd, F⟩ := sd.def_ 16 (d := dd "cofactors" 27)
  exact HasK.of (He.glo_ok X G (sd.fact (f := .glo "cofactors") 35)) F.kp (ok_cofactors (gs_ok X G sd e) (h_need_fraction_of X G sd e) (h_with_cofactors_of X G sd e) F) rfl (bindsKW F fun _ _ _ _ _ _ us hl => match us, hl with | [_], _ => rfl)
theorem h_L_plain_of (X : K.In h) (G : h.Ns mainGlobals mg) (sd : He.SaysD fa fn K) (e : (exs K).all id = true) : Has (PmK K (tbK K)) Pg w mg base 101 "_law_plain" 1 (F_L_plain 100) [] := by
  obtain ⟨fd, F⟩ := sd.def_ 21 (d := dd "_law_plain" 33)
  exact (Has.recur (P := PmK K (tbK K)) (k := 0) (g := F_L_plain) (He.glo_ok X G (sd.fact (f := .glo "_law_plain") 40)) F.kp rfl (fun n => match n with | 0 => fun _ _ _ => rfl | n + 1 => fnOf_len) (fun n h => ok_L_plain (gs_ok X G sd e) F n h) (F.bindsN fun _ _ _ _ _ _ us hl => match us, hl with | [_], _ => rfl) 100).mono (by decide)
theorem h_L_is_of (X : K.In h) (G : h.Ns mainGlobals mg) (sd : He.SaysD fa fn K) (e : (exs K).all id = true) : Has (PmK K (tbK K)) Pg w mg base 102 "_law_is" 2 F_L_is [] := by
  obtain ⟨fd, F⟩ := sd.def_ 22 (d := dd "_law_is" 34)
  exact Has.of (He.glo_ok X G (sd.fact (f := .glo "_law_is") 41)) F.kp (ok_L_is (gs_ok X G sd e) (h_L_plain_of X G sd e) F) (F.bindsN fun _ _ _ _ _ _ us hl => match us, hl with | [_, _], _ => rfl)
theorem h_L_near_of (X : K.In h) (G : h.Ns mainGlobals mg) (sd : He.SaysD fa fn K) (e : (exs K).all id = true) : Has (PmK K (tbK K)) Pg w mg base 104 "_law_near" 2 (F_L_near 100) [] := by
  obtain ⟨fd, F⟩ := sd.def_ 35 (d := dd "_law_near" 47)
  exact (Has.recur (P := PmK K (tbK K)) (k := 3) (g := F_L_near) (He.glo_ok X G (sd.fact (f := .glo "_law_near") 54)) F.kp rfl (fun n => match n with | 0 => fun _ _ _ => rfl | n + 1 => fnOf_len) (fun n h => ok_L_near (gs_ok X G sd e) (h_L_pick_of X G sd e) (h_L_draw_of X G sd e) F n h) (F.bindsN fun _ _ _ _ _ _ us hl => match us, hl with | [_, _], _ => rfl) 100).mono (by decide)
end
/-- the law, from what it comes to -/
theorem facts (plain : ∀ ns : List Int, ns.length ≤ 63 → ∃ s', b_law ([.im (.scr ns.length), .im .st] ++ List.replicate 10 .un) (begun ns) = .rt (.im (.bl true)) s') {w : World} {K : PySem.W.Frag} {h : Heap} {mg : Str → Option Value} {fa0 : Addr} (X : K.In h) (G : h.Ns mainGlobals mg) (hfa : mg "law" = some (.ref fa0)) (c : He.SaysX fa fn [] tfl exB w h K) : LawG PySem.Challenge.rw_entrybook_k60_cofactors_and_fractions_ju w K 105 63 "script" mg fa0 h := by
  have sd := c.t.d
  have e : (exs K).all id = true := c.more
  obtain ⟨fd, F⟩ := sd.def_ 39 (d := dd "law" 51)
  obtain ⟨fdB, FB⟩ := sd.def_ 17 (d := dd "_law_begun" 29)
  have e0 := hfa.symm.trans (He.glo_ok X G (sd.fact (f := .glo "law") 58))
  cases e0
  have cm : ∀ p ∈ csK K, ∃ q ∈ tfl, p = He.cT K q := by
    intro p hp
    cases hp
  refine ⟨fd, csK K, spLaw (PmK K (tbK K)) 63, fun p hp => ?_, fun p hp => ?_, fun p hp => ?_, fun s u => F.bindsA (ps := ["script"]) (fun _ _ _ _ _ _ us hl => match us, hl with | [_], _ => rfl) s [u] rfl, fun HH a ns hl hT hS => ⟨a, ns, rfl, hS, hl, fun p hp => ?_, fun _ => rfl⟩, fun base Xb Gb TBs => ?_⟩
  · obtain ⟨q, hq, rfl⟩ := cm p hp; exact c.empty q hq
  · obtain ⟨q, hq, rfl⟩ := cm p hp; exact c.out q hq
  · obtain ⟨q, hq, rfl⟩ := cm p hp; exact PySem.W.codeHd_of_K X (c.hd q hq)
  · have z : ∃ t ∈ csK K, p.1 = t.2 := by
      cases hp
    obtain ⟨t, ht, e⟩ := z
    exact ⟨#[], by rw [e]; exact hT t ht, True.intro, fun pos cv hc => by
      have z : codeAmong pos [] = some cv := hc
      cases z⟩
  · exact ok_law (gs_ok X G sd e) (h_L_trim_of X G sd e) (hk_cofactors_of X G sd e) (h_L_is_of X G sd e) (h_cofactors_of X G sd e) (h_L_draw_of X G sd e) (h_L_some_number_of X G sd e) (h_L_poly_times_of X G sd e) (h_L_poly_plus_of X G sd e) (h_L_near_of X G sd e) (h_L_poly_common_of X G sd e) (h_L_plain_of X G sd e) (h_L_is_poly_of X G sd e) (h_is_fraction_of X G sd e) (h_L_is_fraction_of X G sd e) (He.glo_ok X G (sd.fact (f := .glo "_law_begun") 36)) FB.kp (ok_L_begun (He.free_ok X G (sd.fact (f := .free "abs") 0)) FB) (FB.bindsN fun _ _ _ _ _ _ us hl => match us, hl with | [_], _ => rfl) plain F
end K60
open PySem PySem.W PySem.Calls PyProof.Rows in
/-- THE LAW, from what it comes to -/
theorem K60.holds_of (plain : ∀ ns : List Int, ns.length ≤ 63 → ∃ s', K60.b_law ([.im (.scr ns.length), .im .st] ++ List.replicate 10 .un) (Ev.begun ns) = .rt (.im (.bl true)) s') : PySem.Challenge.rw_entrybook_k60_cofactors_and_fractions_ju.Holds := by
  w_on; o_law
  refine HandSHeadRun.head_imp (r := PySem.W.OpenLaw.row PySem.Challenge.rw_entrybook_k60_cofactors_and_fractions_ju) (q := view (PySem.W.OpenLaw.row PySem.Challenge.rw_entrybook_k60_cofactors_and_fractions_ju).prog [0, 51]) (H := K60.hk) (ob := K60.ob) (M := 4000) (loose := K60.loose) (d := HandSHeadRun.topDef (PySem.W.OpenLaw.row PySem.Challenge.rw_entrybook_k60_cofactors_and_fractions_ju).prog 51) (kwd := []) K60.ob_eq K60.run (by kernel_rfl) (by kernel_rfl) (by kernel_rfl) (by rfl) (by first | assumption | decide +kernel) (by decide +kernel) ⟨rfl, rfl, rfl, rfl, rfl, by decide +kernel⟩ ?hw ?hc
  case hw => w_witness2
  case hc =>
    refine Ev.walk_g (l := PySem.Challenge.rw_entrybook_k60_cofactors_and_fractions_ju) (n := 63) (k := 105) (x := "script") rfl (by decide) (by kernel_rfl) ⟨rfl, by decide, by decide⟩ ?F
    intro w mg fa h Y G hmg0
    obtain ⟨K, KX, c⟩ := Y
    have hmg : mg ("law" : PySem.Str) = some (.ref fa) := by
      have e : (HandSHeadRun.topDef (PySem.W.OpenLaw.row PySem.Challenge.rw_entrybook_k60_cofactors_and_fractions_ju).prog 51).name = ("law" : PySem.Str) := by kernel_rfl
      rw [← e]; exact hmg0
    exact ⟨K, KX, K60.facts plain KX G hmg c⟩

/-! Pl0: the plain readings, unfolded where all is given: own work. -/
namespace Ev
open PySem
section
variable {env : Lo} {s : DS} {α β : Type}
@[simp] theorem bind_ok (a : α) (k : α → DS → Res β) : (Res.ok a s).bind k = k a s := Eq.trans rfl rfl
@[simp] theorem bind_exc (c : Str) (p : D) (k : α → DS → Res β) : (Res.exc c p s : Res α).bind k = .exc c p s := Eq.trans rfl rfl
@[simp] theorem bind_stuck (k : α → DS → Res β) : (Res.stuck : Res α).bind k = .stuck := Eq.trans rfl rfl
@[simp] theorem out_ok (a : α) (k : α → DS → Out) : (Res.ok a s).out k = k a s := Eq.trans rfl rfl
@[simp] theorem out_exc (c : Str) (p : D) (k : α → DS → Out) : (Res.exc c p s : Res α).out k = .exc c p s := Eq.trans rfl rfl
@[simp] theorem lift_some (a : α) : lift (some a) s = .ok a s := Eq.trans rfl rfl
@[simp] theorem d_im (d : D) : (RV.im d).d = d := Eq.trans rfl rfl
@[simp] theorem d_mu (xs : List D) : (RV.mu xs).d = .lst xs := Eq.trans rfl rfl
@[simp] theorem slot_im (d : D) : (RV.im d).slot = .im d := Eq.trans rfl rfl
@[simp] theorem slot_mu (xs : List D) : (RV.mu xs).slot = .mu xs := Eq.trans rfl rfl
@[simp] theorem pV_def (i : Nat) : pV i env s = match env[i]? with
  | some (.im d) => .ok d s
  | some (.mu xs) => .ok (.lst xs) s
  | _ => .stuck := Eq.trans rfl rfl
@[simp] theorem eV_def (i : Nat) : eV i env s = match env[i]? with
  | some (.im d) => .ok (.im d) s
  | _ => .stuck := Eq.trans rfl rfl
@[simp] theorem eMv_def (i : Nat) : eMv i env s = match env[i]? with
  | some (.im d) => .ok (.im d) s
  | some (.mu xs) => .ok (.mu xs) s
  | _ => .stuck := Eq.trans rfl rfl
@[simp] theorem eC_def (d : D) : eC d env s = .ok (.im d) s := Eq.trans rfl rfl
@[simp] theorem pE_def (f : Sm RV) : pE f env s = (f env s).bind fun r s => .ok r.d s := Eq.trans rfl rfl
@[simp] theorem e1_def (o : D → Option RV) (a : Sm D) : e1 o a env s = (a env s).bind fun x s => lift (o x) s := Eq.trans rfl rfl
@[simp] theorem e2_def (o : D → D → Option RV) (a b : Sm D) : e2 o a b env s = (a env s).bind fun x s => (b env s).bind fun y s => lift (o x y) s := Eq.trans rfl rfl
@[simp] theorem eIdx_def (a b : Sm D) : eIdx a b env s = (a env s).bind fun x s => (b env s).bind fun y s => lift ((oIdx x y).map .im) s := Eq.trans rfl rfl
@[simp] theorem optI_none : optI none env s = .ok none s := Eq.trans rfl rfl
@[simp] theorem optI_some (f : Sm D) : optI (some f) env s = (f env s).bind fun x s => match x with
    | .int i => .ok (some i) s
    | _ => .stuck := Eq.trans rfl rfl
@[simp] theorem eSl_def (a : Sm D) (lo hi : Option (Sm D)) : eSl a lo hi env s = (a env s).bind fun x s => (optI lo env s).bind fun i s => (optI hi env s).bind fun j s => lift (oSlice x i j) s := Eq.trans rfl rfl
@[simp] theorem aNil_def : aNil env s = .ok [] s := Eq.trans rfl rfl
@[simp] theorem aCons_def (f : Sm RV) (r : Sm (List D)) : aCons f r env s = (f env s).bind fun x s => (r env s).bind fun xs s => .ok (x.d :: xs) s := Eq.trans rfl rfl
@[simp] theorem bCons_def (f : Sm D) (r : Sm (List D)) : bCons f r env s = (f env s).bind fun x s => (r env s).bind fun xs s => .ok (x :: xs) s := Eq.trans rfl rfl
@[simp] theorem eTup_def (a : Sm (List D)) : eTup a env s = (a env s).bind fun xs s => if xs.length ≤ sizeLine then .ok (.im (.tup xs)) s else .stuck := Eq.trans rfl rfl
@[simp] theorem eLst_def (a : Sm (List D)) : eLst a env s = (a env s).bind fun xs s => if xs.length ≤ sizeLine then .ok (.mu xs) s else .stuck := Eq.trans rfl rfl
@[simp] theorem eCall_def (f : Fn) (a : Sm (List D)) : eCall f a env s = (a env s).bind fun ds s => f ds s := Eq.trans rfl rfl
@[simp] theorem eCallD_def (f : Fn) (dd : List D) (a : Sm (List D)) : eCallD f dd a env s = (a env s).bind fun ds s => f (ds ++ dd) s := Eq.trans rfl rfl
@[simp] theorem eCallB_def (f : Fn) (a : Sm (List D)) : eCallB f a env s = (a env s).bind fun ds s => (f ds s).bind fun r s => if r.flat then .ok r s else .stuck := Eq.trans rfl rfl
@[simp] theorem tCmp_def (o : D → D → Option Bool) (a b : Sm D) : tCmp o a b env s = (a env s).bind fun x s => (b env s).bind fun y s => lift (o x y) s := Eq.trans rfl rfl
@[simp] theorem tChain_def (o o' : D → D → Option Bool) (a b c : Sm D) : tChain o o' a b c env s = (a env s).bind fun x s => (b env s).bind fun y s => (lift (o x y) s).bind fun k s =>
  if k then (c env s).bind fun z s => lift (o' y z) s else .ok false s := Eq.trans rfl rfl
@[simp] theorem tIsN_def (a : Sm D) : tIsN a env s = (a env s).bind fun x s => .ok x.isNon s := Eq.trans rfl rfl
@[simp] theorem tIsB_def (b : Bool) (a : Sm D) : tIsB b a env s = (a env s).bind fun x s => .ok (x.isBl b) s := Eq.trans rfl rfl
@[simp] theorem tNot_def (t : Sm Bool) : tNot t env s = (t env s).bind fun k s => .ok (!k) s := Eq.trans rfl rfl
@[simp] theorem tAnd_def (t u : Sm Bool) : tAnd t u env s = (t env s).bind fun k s => if k then u env s else .ok false s := Eq.trans rfl rfl
@[simp] theorem tOr_def (t u : Sm Bool) : tOr t u env s = (t env s).bind fun k s => if k then .ok true s else u env s := Eq.trans rfl rfl
@[simp] theorem tIsa_def (ts : List Ty) (a : Sm D) : tIsa ts a env s = (a env s).bind fun x s => lift (oIsa ts x) s := Eq.trans rfl rfl
@[simp] theorem tVal_def (a : Sm D) : tVal a env s = (a env s).bind fun x s => lift x.truth s := Eq.trans rfl rfl
@[simp] theorem eT_def (t : Sm Bool) : eT t env s = (t env s).bind fun k s => .ok (.im (.bl k)) s := Eq.trans rfl rfl
@[simp] theorem eIf_def (t : Sm Bool) (a b : Sm RV) : eIf t a b env s = (t env s).bind fun k s => if k then a env s else b env s := Eq.trans rfl rfl
@[simp] theorem tYes_def : tYes env s = .ok true s := Eq.trans rfl rfl
@[simp] theorem iP_def (a : Sm RV) : iP a env s = (a env s).bind fun r s => lift r.d.seq s := Eq.trans rfl rfl
@[simp] theorem iEnum_def (a : Sm RV) : iEnum a env s = (a env s).bind fun r s => lift (r.d.items.map enumD) s := Eq.trans rfl rfl
@[simp] theorem iZip_def (a b : Sm RV) : iZip a b env s = (a env s).bind fun r s => (b env s).bind fun q s => lift (zipR r.d q.d) s := Eq.trans rfl rfl
@[simp] theorem eLc_def (it : Sm (List D)) (tg : Tgt) (c : Sm Bool) (elt : Sm RV) (vs : List Nat) : eLc it tg c elt vs env s =
  (it env s).bind fun xs s => if xs.length ≤ sizeLine ∧ wipeOk env vs = true ∧ tg.inn vs = true then (lcL tg c elt (wipeE env vs) xs s).bind fun ys s => .ok (.mu ys) s else .stuck := Eq.trans rfl rfl
@[simp] theorem sNil_def : sNil env s = .nx env s := Eq.trans rfl rfl
@[simp] theorem sSeq_def (a b : Stm) : sSeq a b env s = match a env s with
  | .nx env s => b env s
  | o => o := Eq.trans rfl rfl
@[simp] theorem sBrk_def : sBrk env s = .bk env s := Eq.trans rfl rfl
@[simp] theorem sCont_def : sCont env s = .ct env s := Eq.trans rfl rfl
@[simp] theorem sDrop_def (f : Sm RV) : sDrop f env s = (f env s).out fun _ s => .nx env s := Eq.trans rfl rfl
@[simp] theorem sRet_def (f : Sm RV) : sRet f env s = (f env s).out fun r s => .rt r s := Eq.trans rfl rfl
@[simp] theorem sRetV_def (i : Nat) : sRetV i env s = match env[i]? with
  | some (.im d) => .rt (.im d) s
  | some (.mu xs) => .rt (.mu xs) s
  | _ => .stuck := Eq.trans rfl rfl
@[simp] theorem sRetN_def : sRetN env s = .rt (.im .non) s := Eq.trans rfl rfl
@[simp] theorem sIf_def (t : Sm Bool) (a b : Stm) : sIf t a b env s = (t env s).out fun k s => if k then a env s else b env s := Eq.trans rfl rfl
@[simp] theorem sSet_def (i : Nat) (f : Sm RV) : sSet i f env s = (f env s).out fun r s => .nx (env.set i r.slot) s := Eq.trans rfl rfl
@[simp] theorem sPut_def (tg : Tgt) (f : Sm RV) : sPut tg f env s = (f env s).out fun r s => match r with
  | .im d => match tg.put d env with
    | some env => .nx env s
    | none => .stuck
  | .mu _ => .stuck := Eq.trans rfl rfl
@[simp] theorem sPar_def (i j : Nat) (a b : Sm RV) : sPar i j a b env s = (a env s).out fun r s => (b env s).out fun q s => match r with
  | .im _ => .nx ((env.set i r.slot).set j q.slot) s
  | .mu _ => if q.flat then .nx ((env.set i r.slot).set j q.slot) s else .stuck := Eq.trans rfl rfl
@[simp] theorem sAugI_def (i : Nat) (f : Sm D) : sAugI i f env s = match env[i]? with
  | some (.im x) => (f env s).out fun y s => match x, y with
    | .int n, .int m => .nx (env.set i (.im (.int (n + m)))) s
    | _, _ => .stuck
  | _ => .stuck := Eq.trans rfl rfl
@[simp] theorem sApp_def (i : Nat) (f : Sm RV) : sApp i f env s = match env[i]? with
  | some (.mu xs) => (f env s).out fun r s => if xs.length < sizeLine then .nx (env.set i (.mu (xs ++ [r.d]))) s else .stuck
  | _ => .stuck := Eq.trans rfl rfl
@[simp] theorem sFrz_def (i : Nat) : sFrz i env s = match env[i]? with
  | some (.mu xs) => .nx (env.set i (.im (.lst xs))) s
  | some (.im _) => .nx env s
  | _ => .stuck := Eq.trans rfl rfl
@[simp] theorem sFor_def (it : Sm (List D)) (tg : Tgt) (body : Stm) : sFor it tg body env s = (it env s).out fun xs s => forL tg body xs env s := Eq.trans rfl rfl
@[simp] theorem sWhile_def (W : Nat) (t : Sm Bool) (body : Stm) : sWhile W t body env s = whileN t body W env s := Eq.trans rfl rfl
@[simp] theorem sRaiseM_def (c : Str) (f : Sm RV) : sRaiseM c f env s = (f env s).out fun _ s => .exc c .non s := Eq.trans rfl rfl
@[simp] theorem eSt_def (i : Nat) (f : Fd) : eSt i f env s = match env[i]? with
  | some (.im .st) => .ok (.im (.int (f.get s))) s
  | _ => .stuck := Eq.trans rfl rfl
@[simp] theorem sStI_def (i : Nat) (f : Fd) (e : Sm RV) : sStI i f e env s = (e env s).out fun r s => match env[i]?, r with
  | some (.im .st), .im (.int n) => .nx env (f.put s n)
  | _, _ => .stuck := Eq.trans rfl rfl
@[simp] theorem tGreat_def (i : Nat) : tGreat i env s = match env[i]? with
  | some (.im .st) => .ok (!s.great.isEmpty) s
  | _ => .stuck := Eq.trans rfl rfl
@[simp] theorem ePop0_def (i : Nat) : ePop0 i env s = match env[i]? with
  | some (.im .st) => (match s.great with
    | g :: gs => .ok (.im (.int g)) { s with great := gs }
    | [] => .stuck)
  | _ => .stuck := Eq.trans rfl rfl
@[simp] theorem sForC_def (i : Nat) (tg : Tgt) (body : Stm) : sForC i tg body env s = match env[i]? with
  | some (.im .st) => forC s.cells tg body (s.cells.map .int) env s
  | _ => .stuck := Eq.trans rfl rfl
@[simp] theorem eCaught_def (lam : Nat → Sm RV) (isE : Str → Bool) (i : Nat) : eCaught lam isE i env s = match env[i]? with
  | some (.fn k) => caughtR isE (lam k env s)
  | _ => .stuck := Eq.trans rfl rfl
@[simp] theorem caught_ok (isE : Str → Bool) (r : RV) : caughtR isE (.ok r s) = .ok (.im .non) s := Eq.trans rfl rfl
@[simp] theorem caught_exc (isE : Str → Bool) (c : Str) (p : D) : caughtR isE (.exc c p s) = if isE c then .ok (.im (.exc c .non)) s else .stuck := Eq.trans rfl rfl
@[simp] theorem tIsE_def (isS : Str → Option Bool) (a : Sm D) : tIsE isS a env s = (a env s).bind fun x s => match x with
  | .non => .ok false s
  | .exc c _ => lift (isS c) s
  | _ => .stuck := Eq.trans rfl rfl
@[simp] theorem eDic_def : eDic env s = .ok (.im .edic) s := Eq.trans rfl rfl
@[simp] theorem sForFn_def (ks : List Nat) (i : Nat) (b : Stm) : sForFn ks i b env s = forFn i b ks env s := Eq.trans rfl rfl
@[simp] theorem fnOf_def {m k : Nat} {body : Stm} {ds : List D} : fnOf m k body ds s = if ds.length = m then match body (ds.map .im ++ List.replicate k .un) s with
    | .nx _ s => .ok (.im .non) s
    | .rt r s => .ok r s
    | .exc c p s => .exc c p s
    | _ => .stuck
  else .stuck := Eq.trans rfl rfl
end
/-! ### operators -/
@[simp] theorem oAdd_ii (i j : Int) : oAdd (.int i) (.int j) = some (.im (.int (i + j))) := Eq.trans rfl rfl
@[simp] theorem oAdd_tt (xs ys : List D) : oAdd (.tup xs) (.tup ys) = if xs.length + ys.length ≤ sizeLine then some (.im (.tup (xs ++ ys))) else none := Eq.trans rfl rfl
@[simp] theorem oAdd_ll (xs ys : List D) : oAdd (.lst xs) (.lst ys) = if xs.length + ys.length ≤ sizeLine then some (.mu (xs ++ ys)) else none := Eq.trans rfl rfl
@[simp] theorem oSub_ii (i j : Int) : oSub (.int i) (.int j) = some (.im (.int (i - j))) := Eq.trans rfl rfl
@[simp] theorem oNeg_i (i : Int) : oNeg (.int i) = some (.im (.int (-i))) := Eq.trans rfl rfl
theorem oMul_ii {i j : Int} (h : MulOk i j = true) : oMul (.int i) (.int j) = some (.im (.int (i * j))) := if_pos h
theorem oDiv_ii {i j : Int} (h : DivOk i j = true) : oDiv (.int i) (.int j) = some (.im (.int (i.fdiv j))) := if_pos h
theorem oMod_ii {i j : Int} (h : j ≠ 0) : oMod (.int i) (.int j) = some (.im (.int (i.fmod j))) := if_pos h
@[simp] theorem oLt_ii (i j : Int) : oLt (.int i) (.int j) = some (decide (i < j)) := Eq.trans rfl rfl
@[simp] theorem oLe_ii (i j : Int) : oLe (.int i) (.int j) = some (decide (i ≤ j)) := Eq.trans rfl rfl
@[simp] theorem oGt_ii (i j : Int) : oGt (.int i) (.int j) = some (decide (j < i)) := Eq.trans rfl rfl
@[simp] theorem oGe_ii (i j : Int) : oGe (.int i) (.int j) = some (decide (j ≤ i)) := Eq.trans rfl rfl
@[simp] theorem oGcd_ii (i j : Int) : oGcd (.int i) (.int j) = some (.im (.int ((Nat.gcd i.natAbs j.natAbs : Nat) : Int))) := Eq.trans rfl rfl
@[simp] theorem oInt_i (i : Int) : oInt (.int i) = some (.im (.int i)) := Eq.trans rfl rfl
@[simp] theorem oAbs_i (i : Int) : oAbs (.int i) = some (.im (.int (if i < 0 then -i else i))) := Eq.trans rfl rfl
@[simp] theorem oLen_t (xs : List D) : oLen (.tup xs) = some (.int xs.length) := Eq.trans rfl rfl
@[simp] theorem oLen_l (xs : List D) : oLen (.lst xs) = some (.int xs.length) := Eq.trans rfl rfl
@[simp] theorem oLenR_t (xs : List D) : oLenR (.tup xs) = some (.im (.int xs.length)) := Eq.trans rfl rfl
@[simp] theorem oLenR_l (xs : List D) : oLenR (.lst xs) = some (.im (.int xs.length)) := Eq.trans rfl rfl
@[simp] theorem oLenR_scr (n : Nat) : oLenR (.scr n) = some (.im (.int n)) := Eq.trans rfl rfl
@[simp] theorem oTuple_l (xs : List D) : oTuple (.lst xs) = some (.im (.tup xs)) := Eq.trans rfl rfl
@[simp] theorem oTuple_t (xs : List D) : oTuple (.tup xs) = some (.im (.tup xs)) := Eq.trans rfl rfl
@[simp] theorem oList_l (xs : List D) : oList (.lst xs) = some (.mu xs) := Eq.trans rfl rfl
@[simp] theorem oList_t (xs : List D) : oList (.tup xs) = some (.mu xs) := Eq.trans rfl rfl
@[simp] theorem seq_t (xs : List D) : (D.tup xs).seq = some xs := Eq.trans rfl rfl
@[simp] theorem seq_l (xs : List D) : (D.lst xs).seq = some xs := Eq.trans rfl rfl
@[simp] theorem items_t (xs : List D) : (D.tup xs).items = some xs := Eq.trans rfl rfl
@[simp] theorem items_l (xs : List D) : (D.lst xs).items = some xs := Eq.trans rfl rfl
@[simp] theorem truth_b (b : Bool) : (D.bl b).truth = some b := Eq.trans rfl rfl
@[simp] theorem oMin_ii (i j : Int) : oMin (.int i) (.int j) = some (.im (.int (if j < i then j else i))) := Eq.trans rfl rfl
@[simp] theorem oMax_ii (i j : Int) : oMax (.int i) (.int j) = some (.im (.int (if j > i then j else i))) := Eq.trans rfl rfl
theorem oIdx_t {xs : List D} {k : Nat} {d : D} (h : xs[k]? = some d) : oIdx (.tup xs) (.int k) = some d := by
  have lt := (List.getElem?_eq_some_iff.mp h).1
  unfold oIdx L2.ixN
  simp [lt, (List.getElem?_eq_some_iff.mp h).2]
theorem oIdx_l {xs : List D} {k : Nat} {d : D} (h : xs[k]? = some d) : oIdx (.lst xs) (.int k) = some d := by
  have lt := (List.getElem?_eq_some_iff.mp h).1
  unfold oIdx L2.ixN
  simp [lt, (List.getElem?_eq_some_iff.mp h).2]
@[simp] theorem isaT_NoneType_int : isaT "NoneType" .int = false := Eq.trans rfl rfl
@[simp] theorem isaT_NoneType_str : isaT "NoneType" .str = false := Eq.trans rfl rfl
@[simp] theorem isaT_NoneType_tuple : isaT "NoneType" .tuple = false := Eq.trans rfl rfl
@[simp] theorem isaT_NoneType_list : isaT "NoneType" .list = false := Eq.trans rfl rfl
@[simp] theorem isaT_NoneType_bool : isaT "NoneType" .bool = false := Eq.trans rfl rfl
@[simp] theorem isaT_NoneType_dict : isaT "NoneType" .dict = false := Eq.trans rfl rfl
@[simp] theorem isaT_bool_int : isaT "bool" .int = true := Eq.trans rfl rfl
@[simp] theorem isaT_bool_str : isaT "bool" .str = false := Eq.trans rfl rfl
@[simp] theorem isaT_bool_tuple : isaT "bool" .tuple = false := Eq.trans rfl rfl
@[simp] theorem isaT_bool_list : isaT "bool" .list = false := Eq.trans rfl rfl
@[simp] theorem isaT_bool_bool : isaT "bool" .bool = true := Eq.trans rfl rfl
@[simp] theorem isaT_bool_dict : isaT "bool" .dict = false := Eq.trans rfl rfl
@[simp] theorem isaT_int_int : isaT "int" .int = true := Eq.trans rfl rfl
@[simp] theorem isaT_int_str : isaT "int" .str = false := Eq.trans rfl rfl
@[simp] theorem isaT_int_tuple : isaT "int" .tuple = false := Eq.trans rfl rfl
@[simp] theorem isaT_int_list : isaT "int" .list = false := Eq.trans rfl rfl
@[simp] theorem isaT_int_bool : isaT "int" .bool = false := Eq.trans rfl rfl
@[simp] theorem isaT_int_dict : isaT "int" .dict = false := Eq.trans rfl rfl
@[simp] theorem isaT_str_int : isaT "str" .int = false := Eq.trans rfl rfl
@[simp] theorem isaT_str_str : isaT "str" .str = true := Eq.trans rfl rfl
@[simp] theorem isaT_str_tuple : isaT "str" .tuple = false := Eq.trans rfl rfl
@[simp] theorem isaT_str_list : isaT "str" .list = false := Eq.trans rfl rfl
@[simp] theorem isaT_str_bool : isaT "str" .bool = false := Eq.trans rfl rfl
@[simp] theorem isaT_str_dict : isaT "str" .dict = false := Eq.trans rfl rfl
@[simp] theorem isaT_tuple_int : isaT "tuple" .int = false := Eq.trans rfl rfl
@[simp] theorem isaT_tuple_str : isaT "tuple" .str = false := Eq.trans rfl rfl
@[simp] theorem isaT_tuple_tuple : isaT "tuple" .tuple = true := Eq.trans rfl rfl
@[simp] theorem isaT_tuple_list : isaT "tuple" .list = false := Eq.trans rfl rfl
@[simp] theorem isaT_tuple_bool : isaT "tuple" .bool = false := Eq.trans rfl rfl
@[simp] theorem isaT_tuple_dict : isaT "tuple" .dict = false := Eq.trans rfl rfl
@[simp] theorem isaT_list_int : isaT "list" .int = false := Eq.trans rfl rfl
@[simp] theorem isaT_list_str : isaT "list" .str = false := Eq.trans rfl rfl
@[simp] theorem isaT_list_tuple : isaT "list" .tuple = false := Eq.trans rfl rfl
@[simp] theorem isaT_list_list : isaT "list" .list = true := Eq.trans rfl rfl
@[simp] theorem isaT_list_bool : isaT "list" .bool = false := Eq.trans rfl rfl
@[simp] theorem isaT_list_dict : isaT "list" .dict = false := Eq.trans rfl rfl
@[simp] theorem isaT_dict_int : isaT "dict" .int = false := Eq.trans rfl rfl
@[simp] theorem isaT_dict_str : isaT "dict" .str = false := Eq.trans rfl rfl
@[simp] theorem isaT_dict_tuple : isaT "dict" .tuple = false := Eq.trans rfl rfl
@[simp] theorem isaT_dict_list : isaT "dict" .list = false := Eq.trans rfl rfl
@[simp] theorem isaT_dict_bool : isaT "dict" .bool = false := Eq.trans rfl rfl
@[simp] theorem isaT_dict_dict : isaT "dict" .dict = true := Eq.trans rfl rfl
@[simp] theorem oIsa_non (ts : List Ty)  : oIsa ts .non = some (ts.any (isaT "NoneType")) := Eq.trans rfl rfl
@[simp] theorem isNon_non  : D.isNon .non = true := Eq.trans rfl rfl
@[simp] theorem isBl_non_true  : D.isBl true .non = false := Eq.trans rfl rfl
@[simp] theorem isBl_non_false  : D.isBl false .non = false := Eq.trans rfl rfl
@[simp] theorem oIsa_bl (ts : List Ty) (b : Bool) : oIsa ts (.bl b) = some (ts.any (isaT "bool")) := Eq.trans rfl rfl
@[simp] theorem isNon_bl (b : Bool) : D.isNon (.bl b) = false := Eq.trans rfl rfl
@[simp] theorem isBl_bl_true (b : Bool) : D.isBl true (.bl b) = (b == true) := Eq.trans rfl rfl
@[simp] theorem isBl_bl_false (b : Bool) : D.isBl false (.bl b) = (b == false) := Eq.trans rfl rfl
@[simp] theorem oIsa_int (ts : List Ty) (b : Int) : oIsa ts (.int b) = some (ts.any (isaT "int")) := Eq.trans rfl rfl
@[simp] theorem isNon_int (b : Int) : D.isNon (.int b) = false := Eq.trans rfl rfl
@[simp] theorem isBl_int_true (b : Int) : D.isBl true (.int b) = false := Eq.trans rfl rfl
@[simp] theorem isBl_int_false (b : Int) : D.isBl false (.int b) = false := Eq.trans rfl rfl
@[simp] theorem oIsa_str (ts : List Ty) (b : Str) : oIsa ts (.str b) = some (ts.any (isaT "str")) := Eq.trans rfl rfl
@[simp] theorem isNon_str (b : Str) : D.isNon (.str b) = false := Eq.trans rfl rfl
@[simp] theorem isBl_str_true (b : Str) : D.isBl true (.str b) = false := Eq.trans rfl rfl
@[simp] theorem isBl_str_false (b : Str) : D.isBl false (.str b) = false := Eq.trans rfl rfl
@[simp] theorem oIsa_tup (ts : List Ty) (b : List D) : oIsa ts (.tup b) = some (ts.any (isaT "tuple")) := Eq.trans rfl rfl
@[simp] theorem isNon_tup (b : List D) : D.isNon (.tup b) = false := Eq.trans rfl rfl
@[simp] theorem isBl_tup_true (b : List D) : D.isBl true (.tup b) = false := Eq.trans rfl rfl
@[simp] theorem isBl_tup_false (b : List D) : D.isBl false (.tup b) = false := Eq.trans rfl rfl
@[simp] theorem oIsa_lst (ts : List Ty) (b : List D) : oIsa ts (.lst b) = some (ts.any (isaT "list")) := Eq.trans rfl rfl
@[simp] theorem isNon_lst (b : List D) : D.isNon (.lst b) = false := Eq.trans rfl rfl
@[simp] theorem isBl_lst_true (b : List D) : D.isBl true (.lst b) = false := Eq.trans rfl rfl
@[simp] theorem isBl_lst_false (b : List D) : D.isBl false (.lst b) = false := Eq.trans rfl rfl
@[simp] theorem oIsa_edic (ts : List Ty)  : oIsa ts .edic = some (ts.any (isaT "dict")) := Eq.trans rfl rfl
@[simp] theorem isNon_edic  : D.isNon .edic = false := Eq.trans rfl rfl
@[simp] theorem isBl_edic_true  : D.isBl true .edic = false := Eq.trans rfl rfl
@[simp] theorem isBl_edic_false  : D.isBl false .edic = false := Eq.trans rfl rfl
@[simp] theorem isNon_exc (c : Str) (p : D) : D.isNon (.exc c p) = false := Eq.trans rfl rfl
theorem sz_le {n : Nat} (h : Nat.ble n 1000 = true) : (n ≤ sizeLine) = True := eq_true (Nat.le_trans (Nat.le_of_ble_eq_true h) (by decide))
@[simp] theorem sz_0 : (0 ≤ sizeLine) = True := sz_le rfl
@[simp] theorem sz_1 : (1 ≤ sizeLine) = True := sz_le rfl
@[simp] theorem sz_2 : (2 ≤ sizeLine) = True := sz_le rfl
@[simp] theorem sz_3 : (3 ≤ sizeLine) = True := sz_le rfl
@[simp] theorem sz_4 : (4 ≤ sizeLine) = True := sz_le rfl
@[simp] theorem sz_5 : (5 ≤ sizeLine) = True := sz_le rfl
@[simp] theorem sz_6 : (6 ≤ sizeLine) = True := sz_le rfl
@[simp] theorem sz_7 : (7 ≤ sizeLine) = True := sz_le rfl
@[simp] theorem sz_8 : (8 ≤ sizeLine) = True := sz_le rfl
@[simp] theorem sz_9 : (9 ≤ sizeLine) = True := sz_le rfl
@[simp] theorem sz_10 : (10 ≤ sizeLine) = True := sz_le rfl
@[simp] theorem sz_11 : (11 ≤ sizeLine) = True := sz_le rfl
@[simp] theorem sz_12 : (12 ≤ sizeLine) = True := sz_le rfl
@[simp] theorem sz_13 : (13 ≤ sizeLine) = True := sz_le rfl
@[simp] theorem sz_14 : (14 ≤ sizeLine) = True := sz_le rfl
@[simp] theorem sz_15 : (15 ≤ sizeLine) = True := sz_le rfl
@[simp] theorem sz_16 : (16 ≤ sizeLine) = True := sz_le rfl
@[simp] theorem sz_17 : (17 ≤ sizeLine) = True := sz_le rfl
@[simp] theorem sz_18 : (18 ≤ sizeLine) = True := sz_le rfl
@[simp] theorem sz_19 : (19 ≤ sizeLine) = True := sz_le rfl
@[simp] theorem sz_20 : (20 ≤ sizeLine) = True := sz_le rfl
@[simp] theorem sz_21 : (21 ≤ sizeLine) = True := sz_le rfl
@[simp] theorem sz_22 : (22 ≤ sizeLine) = True := sz_le rfl
@[simp] theorem sz_23 : (23 ≤ sizeLine) = True := sz_le rfl
@[simp] theorem sz_24 : (24 ≤ sizeLine) = True := sz_le rfl
@[simp] theorem sz_25 : (25 ≤ sizeLine) = True := sz_le rfl
@[simp] theorem sz_26 : (26 ≤ sizeLine) = True := sz_le rfl
@[simp] theorem sz_27 : (27 ≤ sizeLine) = True := sz_le rfl
@[simp] theorem sz_28 : (28 ≤ sizeLine) = True := sz_le rfl
@[simp] theorem sz_29 : (29 ≤ sizeLine) = True := sz_le rfl
@[simp] theorem sz_30 : (30 ≤ sizeLine) = True := sz_le rfl
@[simp] theorem sz_31 : (31 ≤ sizeLine) = True := sz_le rfl
@[simp] theorem sz_32 : (32 ≤ sizeLine) = True := sz_le rfl
@[simp] theorem sz_33 : (33 ≤ sizeLine) = True := sz_le rfl
@[simp] theorem sz_34 : (34 ≤ sizeLine) = True := sz_le rfl
@[simp] theorem sz_35 : (35 ≤ sizeLine) = True := sz_le rfl
@[simp] theorem sz_36 : (36 ≤ sizeLine) = True := sz_le rfl
@[simp] theorem sz_37 : (37 ≤ sizeLine) = True := sz_le rfl
@[simp] theorem sz_38 : (38 ≤ sizeLine) = True := sz_le rfl
@[simp] theorem sz_39 : (39 ≤ sizeLine) = True := sz_le rfl
@[simp] theorem sz_40 : (40 ≤ sizeLine) = True := sz_le rfl
@[simp] theorem sz_41 : (41 ≤ sizeLine) = True := sz_le rfl
@[simp] theorem sz_42 : (42 ≤ sizeLine) = True := sz_le rfl
@[simp] theorem sz_43 : (43 ≤ sizeLine) = True := sz_le rfl
@[simp] theorem sz_44 : (44 ≤ sizeLine) = True := sz_le rfl
@[simp] theorem sz_45 : (45 ≤ sizeLine) = True := sz_le rfl
@[simp] theorem sz_46 : (46 ≤ sizeLine) = True := sz_le rfl
@[simp] theorem sz_47 : (47 ≤ sizeLine) = True := sz_le rfl
@[simp] theorem sz_48 : (48 ≤ sizeLine) = True := sz_le rfl
@[simp] theorem sz_49 : (49 ≤ sizeLine) = True := sz_le rfl
@[simp] theorem sz_50 : (50 ≤ sizeLine) = True := sz_le rfl
@[simp] theorem sz_51 : (51 ≤ sizeLine) = True := sz_le rfl
@[simp] theorem sz_52 : (52 ≤ sizeLine) = True := sz_le rfl
@[simp] theorem sz_53 : (53 ≤ sizeLine) = True := sz_le rfl
@[simp] theorem sz_54 : (54 ≤ sizeLine) = True := sz_le rfl
@[simp] theorem sz_55 : (55 ≤ sizeLine) = True := sz_le rfl
@[simp] theorem sz_56 : (56 ≤ sizeLine) = True := sz_le rfl
@[simp] theorem sz_57 : (57 ≤ sizeLine) = True := sz_le rfl
@[simp] theorem sz_58 : (58 ≤ sizeLine) = True := sz_le rfl
@[simp] theorem sz_59 : (59 ≤ sizeLine) = True := sz_le rfl
@[simp] theorem sz_60 : (60 ≤ sizeLine) = True := sz_le rfl
@[simp] theorem sz_61 : (61 ≤ sizeLine) = True := sz_le rfl
@[simp] theorem sz_62 : (62 ≤ sizeLine) = True := sz_le rfl
@[simp] theorem sz_63 : (63 ≤ sizeLine) = True := sz_le rfl
@[simp] theorem sz_64 : (64 ≤ sizeLine) = True := sz_le rfl
@[simp] theorem sz_100 : (100 ≤ sizeLine) = True := sz_le rfl
@[simp] theorem sz_150 : (150 ≤ sizeLine) = True := sz_le rfl
@[simp] theorem sz_200 : (200 ≤ sizeLine) = True := sz_le rfl
@[simp] theorem sz_250 : (250 ≤ sizeLine) = True := sz_le rfl
@[simp] theorem sz_300 : (300 ≤ sizeLine) = True := sz_le rfl
@[simp] theorem sz_400 : (400 ≤ sizeLine) = True := sz_le rfl
@[simp] theorem sz_500 : (500 ≤ sizeLine) = True := sz_le rfl
@[simp] theorem sz_600 : (600 ≤ sizeLine) = True := sz_le rfl
@[simp] theorem sz_700 : (700 ≤ sizeLine) = True := sz_le rfl
@[simp] theorem sz_800 : (800 ≤ sizeLine) = True := sz_le rfl
@[simp] theorem sz_900 : (900 ≤ sizeLine) = True := sz_le rfl
@[simp] theorem sz_1000 : (1000 ≤ sizeLine) = True := sz_le rfl
end Ev

/-! Pl1: numbers as fractions: own work. -/
namespace Ev
open PySem
/-- a fraction as the program has it -/
def qD (q : Rat) : D := .tup [.int q.num, .int q.den]
/-- of at most n bits -/
def Sz (n : Nat) (q : Rat) : Prop := q.num.natAbs < 2 ^ n ∧ q.den < 2 ^ n
theorem log2_lt {a n : Nat} (h : a < 2 ^ n) (hn : 0 < n) : a.log2 < n := by
  by_cases z : a = 0
  · subst z; simpa using hn
  · exact (Nat.log2_lt z).mpr h
theorem mulOk {i j : Int} {n m : Nat} (hi : i.natAbs < 2 ^ n) (hj : j.natAbs < 2 ^ m) (h : n + m < 900000) : MulOk i j = true := by
  unfold MulOk
  have h1 : i.natAbs.log2 ≤ n := by
    by_cases z : i.natAbs = 0
    · rw [z]; simp
    · exact Nat.le_of_lt ((Nat.log2_lt z).mpr hi)
  have h2 : j.natAbs.log2 ≤ m := by
    by_cases z : j.natAbs = 0
    · rw [z]; simp
    · exact Nat.le_of_lt ((Nat.log2_lt z).mpr hj)
  exact decide_eq_true (by omega)
theorem divOk {j i : Int} {n : Nat} (h0 : j ≠ 0) (hj : j.natAbs < 2 ^ n) (h : n < 9000) : DivOk i j = true := by
  unfold DivOk
  have h2 : j.natAbs.log2 ≤ n := by
    by_cases z : j.natAbs = 0
    · rw [z]; simp
    · exact Nat.le_of_lt ((Nat.log2_lt z).mpr hj)
  have h3 : j.natAbs.log2 < 9000 := by omega
  simp [h0, h3]
theorem fdiv_of_dvd {a b : Int} (h : b ∣ a) : a.fdiv b = a / b := by
  obtain ⟨c, rfl⟩ := h
  by_cases hb : b = 0
  · subst hb; simp
  · rw [Int.mul_fdiv_cancel_left _ hb, Int.mul_ediv_cancel_left _ hb]
/-- the fraction of two whole numbers, told by dividing by their greatest common divisor -/
theorem frac_num {u l : Int} (hl : l ≠ 0) : u.fdiv ((if 0 < l then (1 : Int) else -1) * ((Nat.gcd u.natAbs l.natAbs : Nat) : Int)) = (Rat.divInt u l).num := by
  rw [Rat.num_divInt]
  have g0 : (Nat.gcd u.natAbs l.natAbs) ≠ 0 := by
    intro z
    have := Nat.eq_zero_of_gcd_eq_zero_right z
    omega
  have gu : ((Nat.gcd u.natAbs l.natAbs : Nat) : Int) ∣ u := Int.ofNat_dvd_left.mpr (Nat.gcd_dvd_left _ _)
  have e : (Int.gcd l u : Nat) = Nat.gcd u.natAbs l.natAbs := by
    rw [Int.gcd, Nat.gcd_comm]
  rw [e]
  by_cases h : 0 < l
  · rw [if_pos h, Int.one_mul, fdiv_of_dvd gu, Int.sign_eq_one_of_pos h, Int.one_mul]
  · rw [if_neg h, Int.sign_eq_neg_one_of_neg (by omega)]
    have gu' : (-1 : Int) * ((Nat.gcd u.natAbs l.natAbs : Nat) : Int) ∣ u := by
      rw [Int.neg_one_mul]
      exact Int.neg_dvd.mpr gu
    rw [fdiv_of_dvd gu', Int.neg_one_mul, Int.neg_one_mul, Int.ediv_neg, Int.neg_ediv_of_dvd gu]
theorem frac_den {u l : Int} (hl : l ≠ 0) : l.fdiv ((if 0 < l then (1 : Int) else -1) * ((Nat.gcd u.natAbs l.natAbs : Nat) : Int)) = ((Rat.divInt u l).den : Int) := by
  rw [Rat.den_divInt, if_neg hl]
  have gl : ((Nat.gcd u.natAbs l.natAbs : Nat) : Int) ∣ l := Int.ofNat_dvd_left.mpr (Nat.gcd_dvd_right _ _)
  have e : (Int.gcd l u : Nat) = Nat.gcd u.natAbs l.natAbs := by
    rw [Int.gcd, Nat.gcd_comm]
  rw [e]
  by_cases h : 0 < l
  · rw [if_pos h, Int.one_mul, fdiv_of_dvd gl, Int.natCast_ediv]
    congr 1
    omega
  · rw [if_neg h]
    have gu' : (-1 : Int) * ((Nat.gcd u.natAbs l.natAbs : Nat) : Int) ∣ l := by
      rw [Int.neg_one_mul]
      exact Int.neg_dvd.mpr gl
    rw [fdiv_of_dvd gu', Int.neg_one_mul, Int.ediv_neg, Int.natCast_ediv, ← Int.neg_ediv_of_dvd gl]
    congr 1
    omega
theorem divInt_sz {u l : Int} {n : Nat} (hl : l ≠ 0) (hu : u.natAbs < 2 ^ n) (hv : l.natAbs < 2 ^ n) : Sz n (Rat.divInt u l) := by
  cases h : Rat.divInt u l with
  | mk' n' d' z c =>
    obtain ⟨m, m0, e1, e2⟩ := Rat.divInt_num_den hl h
    have m1 : 1 ≤ m.natAbs := by omega
    have h1 : n'.natAbs ≤ u.natAbs := by
      rw [e1, Int.natAbs_mul]
      exact Nat.le_mul_of_pos_right _ m1
    have h2 : d' ≤ l.natAbs := by
      rw [e2, Int.natAbs_mul]
      exact Nat.le_mul_of_pos_right d' m1
    exact ⟨by show n'.natAbs < _; omega, by show d' < _; omega⟩
theorem num_add_eq (p q : Rat) : Rat.divInt (p.num * q.den + q.num * p.den) ((p.den : Int) * q.den) = p + q := by
  rw [Rat.add_def', ← Rat.divInt_ofNat, Int.natCast_mul]
theorem num_mul_eq (p q : Rat) : Rat.divInt (p.num * q.num) ((p.den : Int) * q.den) = p * q := by
  rw [Rat.mul_def', ← Rat.divInt_ofNat, Int.natCast_mul]
end Ev

set_option maxHeartbeats 0
namespace Kit
open PySem Ev
def c_ZERO : Ev.D := (.tup [(.int 0), (.int 1)])
def c_MOST_ORDER : Ev.D := (.int 24)
def c_MOST_PLACE : Ev.D := (.int 400)
def b_is_whole : Stm := (sRet (eT (tAnd (tIsa [.int] (pV 0)) (tNot (tIsa [.bool] (pV 0))))))
def F_is_whole : Fn := fnOf 1 0 b_is_whole
def b_number : Stm := (sSeq (sSet 2 (eIf (tCmp oGt (pV 1) (pE (eC (.int 0)))) (e2 oGcd (pV 0) (pV 1)) (e2 oSub (pE (eC (.int 0))) (pE (e2 oGcd (pV 0) (pV 1)))))) (sRet (eTup (aCons (e2 oDiv (pV 0) (pV 2)) (aCons (e2 oDiv (pV 1) (pV 2)) aNil)))))
def F_number : Fn := fnOf 2 1 b_number
def b_L_mixed : Stm := (sSeq (sPar 1 2 (e2 oAdd (pE (eSt 0 .turn)) (pE (eC (.int 1)))) (eC (.int 0))) (sSeq (sStI 0 .turn (eV 1)) (sSeq (sFor (iP (eLst (aCons (eC (.int 2147483629)) (aCons (eC (.int 2147483587)) (aCons (eC (.int 2147483579)) (aCons (eC (.int 2147483563)) aNil)))))) (.nm 3) (sSeq (sSet 4 (e2 oAdd (pE (e2 oMul (pE (eC (.int 69621))) (pV 1))) (pE (e2 oDiv (pV 3) (pE (eC (.int 41))))))) (sSeq (sForC 0 (.nm 5) (sSet 4 (e2 oMod (pE (e1 oInt (pE (e2 oAdd (pE (e2 oAdd (pE (e2 oMul (pV 4) (pE (eC (.int 48271))))) (pV 5))) (pV 1))))) (pV 3)))) (sSet 2 (e2 oAdd (pE (e2 oMul (pV 2) (pE (eC (.int 2147483659))))) (pE (e2 oMod (pE (e1 oInt (pE (e2 oPow (pV 4) (pE (eC (.int 5))))))) (pV 3)))))))) (sRetV 2))))
def F_L_mixed : Fn := fnOf 1 5 b_L_mixed
def b_L_common : Stm := (sSeq (sWhile 20000 (tCmp oNe (pV 1) (pE (eC (.int 0)))) (sPar 0 1 (eV 1) (e2 oMod (pE (e1 oInt (pV 0))) (pV 1)))) (sRet (e1 oAbs (pV 0))))
def F_L_common : Fn := fnOf 2 0 b_L_common
def b_L_says : Stm := (sRet (eIf (tVal (pV 1)) (eT (tIsB true (pV 0))) (eT (tIsB false (pV 0)))))
def F_L_says : Fn := fnOf 2 0 b_L_says
def b_L_is_whole : Stm := (sRet (eT (tAnd (tIsa [.int] (pV 0)) (tAnd (tNot (tIsB true (pV 0))) (tNot (tIsB false (pV 0)))))))
def F_L_is_whole : Fn := fnOf 1 0 b_L_is_whole
def b_is_below : Stm := (sRet (eT (tAnd (tVal (pE (eCall F_is_whole (aCons (eV 0) aNil)))) (tChain oLe oLt (pE (eC (.int 0))) (pV 0) (pV 1)))))
def F_is_below : Fn := fnOf 2 0 b_is_below
def b_is_number : Stm := (sSeq (sIf (tOr (tNot (tIsa [.tuple] (pV 0))) (tOr (tCmp oNe (pE (e1 oLenR (pV 0))) (pE (eC (.int 2)))) (tNot (tVal (pE (e1 oAll (pE (eLc (iP (eV 0)) (.nm 1) tYes (eCall F_is_whole (aCons (eV 1) aNil)) [1])))))))) (sRet (eC (.bl false))) sNil) (sRet (eT (tAnd (tCmp oGt (pE (eIdx (pV 0) (pE (eC (.int 1))))) (pE (eC (.int 0)))) (tCmp oEq (pE (e2 oGcd (pE (eIdx (pV 0) (pE (eC (.int 0))))) (pE (eIdx (pV 0) (pE (eC (.int 1))))))) (pE (eC (.int 1))))))))
def F_is_number : Fn := fnOf 1 1 b_is_number
def b_plus : Stm := (sRet (eCall F_number (aCons (e2 oAdd (pE (e2 oMul (pE (eIdx (pV 0) (pE (eC (.int 0))))) (pE (eIdx (pV 1) (pE (eC (.int 1))))))) (pE (e2 oMul (pE (eIdx (pV 1) (pE (eC (.int 0))))) (pE (eIdx (pV 0) (pE (eC (.int 1)))))))) (aCons (e2 oMul (pE (eIdx (pV 0) (pE (eC (.int 1))))) (pE (eIdx (pV 1) (pE (eC (.int 1)))))) aNil))))
def F_plus : Fn := fnOf 2 0 b_plus
def b_times : Stm := (sRet (eCall F_number (aCons (e2 oMul (pE (eIdx (pV 0) (pE (eC (.int 0))))) (pE (eIdx (pV 1) (pE (eC (.int 0)))))) (aCons (e2 oMul (pE (eIdx (pV 0) (pE (eC (.int 1))))) (pE (eIdx (pV 1) (pE (eC (.int 1)))))) aNil))))
def F_times : Fn := fnOf 2 0 b_times
def b_L_draw : Stm := (sSeq (sIf (tCmp oEq (pE (eSt 0 .rest)) (pE (eC (.int 0)))) (sStI 0 .rest (eIf (tGreat 0) (ePop0 0) (eCall F_L_mixed (aCons (eV 0) aNil)))) sNil) (sSeq (sSet 2 (e2 oMod (pE (e1 oInt (pE (eSt 0 .rest)))) (pV 1))) (sSeq (sStI 0 .rest (e2 oDiv (pE (eSt 0 .rest)) (pV 1))) (sRetV 2))))
def F_L_draw : Fn := fnOf 2 1 b_L_draw
def b_L_no : Stm := (sSeq (sSet 2 (e2 oMul (pE (eCall F_L_common (aCons (eV 0) (aCons (eV 1) aNil)))) (pE (eIf (tCmp oGt (pV 1) (pE (eC (.int 0)))) (eC (.int 1)) (e2 oSub (pE (eC (.int 0))) (pE (eC (.int 1)))))))) (sRet (eTup (aCons (e2 oDiv (pV 0) (pV 2)) (aCons (e2 oDiv (pV 1) (pV 2)) aNil)))))
def F_L_no : Fn := fnOf 2 1 b_L_no
def b_L_is_number : Stm := (sSeq (sIf (tOr (tNot (tIsa [.tuple] (pV 0))) (tOr (tCmp oNe (pE (e1 oLenR (pV 0))) (pE (eC (.int 2)))) (tOr (tNot (tVal (pE (eCall F_L_is_whole (aCons (eIdx (pV 0) (pE (eC (.int 0)))) aNil))))) (tNot (tVal (pE (eCall F_L_is_whole (aCons (eIdx (pV 0) (pE (eC (.int 1)))) aNil)))))))) (sRet (eC (.bl false))) sNil) (sRet (eT (tAnd (tCmp oGt (pE (eIdx (pV 0) (pE (eC (.int 1))))) (pE (eC (.int 0)))) (tCmp oEq (pE (eCall F_L_common (aCons (eIdx (pV 0) (pE (eC (.int 0)))) (aCons (eIdx (pV 0) (pE (eC (.int 1)))) aNil)))) (pE (eC (.int 1))))))))
def F_L_is_number : Fn := fnOf 1 0 b_L_is_number
def b_L_is_place : Stm := (sRet (eT (tAnd (tVal (pE (eCall F_L_is_whole (aCons (eV 0) aNil)))) (tChain oLe oLe (pE (eC (.int 0))) (pV 0) (pE (eC (.int 400)))))))
def F_L_is_place : Fn := fnOf 1 0 b_L_is_place
def b_are_numbers : Stm := (sSeq (sIf (tOr (tNot (tIsa [.tuple] (pV 0))) (tCmp oGt (pE (e1 oLenR (pV 0))) (pV 1))) (sRet (eC (.bl false))) sNil) (sRet (e1 oAll (pE (eLc (iP (eV 0)) (.nm 2) tYes (eCall F_is_number (aCons (eV 2) aNil)) [2])))))
def F_are_numbers : Fn := fnOf 2 1 b_are_numbers
def b_need_many : Stm := (sIf (tNot (tVal (pE (eCall F_is_below (aCons (eV 0) (aCons (e2 oAdd (pV 1) (pE (eC (.int 1)))) aNil)))))) (sRaiseM "NoPlace" (eC (.str "no such place"))) sNil)
def F_need_many : Fn := fnOf 2 0 b_need_many
def b_stepped : Stm := (sSeq (sSet 2 (eC c_ZERO)) (sSeq (sFor (iEnum (eV 0)) (.tp [(.nm 3), (.nm 4)]) (sIf (tCmp oNe (pV 4) (pE (eC c_ZERO))) (sSet 2 (eCall F_plus (aCons (eV 2) (aCons (eCall F_times (aCons (eV 4) (aCons (eIdx (pV 1) (pE (e2 oSub (pE (e2 oSub (pE (e1 oLenR (pV 1))) (pE (eC (.int 1))))) (pV 3)))) aNil))) aNil)))) sNil)) (sRetV 2)))
def F_stepped : Fn := fnOf 2 3 b_stepped
def b_L_pick : Stm := (sRet (eIdx (pV 1) (pE (eCall F_L_draw (aCons (eV 0) (aCons (e1 oLenR (pV 1)) aNil))))))
def F_L_pick : Fn := fnOf 2 0 b_L_pick
def b_L_plus : Stm := (sRet (eCall F_L_no (aCons (e2 oAdd (pE (e2 oMul (pE (eIdx (pV 0) (pE (eC (.int 0))))) (pE (eIdx (pV 1) (pE (eC (.int 1))))))) (pE (e2 oMul (pE (eIdx (pV 1) (pE (eC (.int 0))))) (pE (eIdx (pV 0) (pE (eC (.int 1)))))))) (aCons (e2 oMul (pE (eIdx (pV 0) (pE (eC (.int 1))))) (pE (eIdx (pV 1) (pE (eC (.int 1)))))) aNil))))
def F_L_plus : Fn := fnOf 2 0 b_L_plus
def b_L_times : Stm := (sRet (eCall F_L_no (aCons (e2 oMul (pE (eIdx (pV 0) (pE (eC (.int 0))))) (pE (eIdx (pV 1) (pE (eC (.int 0)))))) (aCons (e2 oMul (pE (eIdx (pV 0) (pE (eC (.int 1))))) (pE (eIdx (pV 1) (pE (eC (.int 1)))))) aNil))))
def F_L_times : Fn := fnOf 2 0 b_L_times
def b_L_is_rule : Stm := (sRet (eT (tAnd (tIsa [.tuple] (pV 0)) (tAnd (tCmp oLe (pE (e1 oLenR (pV 0))) (pE (eC (.int 24)))) (tCmp oEq (pE (eLc (iP (eV 0)) (.nm 1) (tNot (tVal (pE (eCall F_L_is_number (aCons (eV 1) aNil))))) (eC (.int 1)) [1])) (pE (eLst aNil)))))))
def F_L_is_rule : Fn := fnOf 1 1 b_L_is_rule
def b_is_rule : Stm := (sRet (eCall F_are_numbers (aCons (eV 0) (aCons (eC c_MOST_ORDER) aNil))))
def F_is_rule : Fn := fnOf 1 0 b_is_rule
def b_extended : Stm := (sSeq (sSet 3 (e1 oList (pE (eSl (pV 1) none (some (pV 2)))))) (sSeq (sFor (iRange2 (pE (e1 oLenR (pV 3))) (pV 2)) (.nm 4) (sApp 3 (eCallB F_stepped (bCons (pV 0) (bCons (pV 3) aNil))))) (sRetV 3)))
def F_extended : Fn := fnOf 3 2 b_extended
def b_L_ruled : Stm := (sSeq (sSet 3 (eSl (pE (e1 oList (pV 1))) none (some (pV 2)))) (sSeq (sWhile 20000 (tCmp oLt (pE (e1 oLenR (pV 3))) (pV 2)) (sSeq (sSet 4 (eTup (aCons (eC (.int 0)) (aCons (eC (.int 1)) aNil)))) (sSeq (sFor (iEnum (eV 0)) (.tp [(.nm 5), (.nm 6)]) (sSet 4 (eCall F_L_plus (aCons (eV 4) (aCons (eCall F_L_times (aCons (eV 6) (aCons (eIdx (pV 3) (pE (e2 oSub (pE (e2 oSub (pE (e1 oLenR (pV 3))) (pE (eC (.int 1))))) (pV 5)))) aNil))) aNil))))) (sApp 3 (eV 4))))) (sRetV 3)))
def F_L_ruled : Fn := fnOf 3 4 b_L_ruled
def b_L_some_number : Stm := (sSeq (sSet 2 (e2 oSub (pE (eCall F_L_draw (aCons (eV 0) (aCons (e2 oAdd (pE (e2 oMul (pE (eC (.int 2))) (pV 1))) (pE (eC (.int 1)))) aNil)))) (pV 1))) (sRet (eCall F_L_no (aCons (eV 2) (aCons (eCall F_L_pick (aCons (eV 0) (aCons (eLst (aCons (eC (.int 1)) (aCons (eC (.int 1)) (aCons (eC (.int 1)) (aCons (eC (.int 1)) (aCons (eC (.int 2)) (aCons (eC (.int 3)) aNil))))))) aNil))) aNil)))))
def F_L_some_number : Fn := fnOf 2 1 b_L_some_number
def b_L_is_row : Stm := (sSeq (sIf (tOr (tNot (tIsa [.tuple] (pV 0))) (tOr (tCmp oNe (pE (e1 oLenR (pV 0))) (pE (eC (.int 3)))) (tOr (tNot (tIsa [.str] (pE (eIdx (pV 0) (pE (eC (.int 0))))))) (tCmp oNe (pE (eIdx (pV 0) (pE (eC (.int 0))))) (pE (eC (.str "row"))))))) (sRet (eC (.bl false))) sNil) (sRet (eT (tAnd (tVal (pE (eCall F_L_is_rule (aCons (eIdx (pV 0) (pE (eC (.int 1)))) aNil)))) (tAnd (tVal (pE (eCall F_L_is_rule (aCons (eIdx (pV 0) (pE (eC (.int 2)))) aNil)))) (tCmp oEq (pE (e1 oLenR (pE (eIdx (pV 0) (pE (eC (.int 1))))))) (pE (e1 oLenR (pE (eIdx (pV 0) (pE (eC (.int 2)))))))))))))
def F_L_is_row : Fn := fnOf 1 0 b_L_is_row
def b_is_row : Stm := (sSeq (sIf (tOr (tNot (tIsa [.tuple] (pV 0))) (tOr (tCmp oNe (pE (e1 oLenR (pV 0))) (pE (eC (.int 3)))) (tOr (tNot (tIsa [.str] (pE (eIdx (pV 0) (pE (eC (.int 0))))))) (tCmp oNe (pE (eIdx (pV 0) (pE (eC (.int 0))))) (pE (eC (.str "row"))))))) (sRet (eC (.bl false))) sNil) (sRet (eT (tAnd (tVal (pE (eCall F_is_rule (aCons (eIdx (pV 0) (pE (eC (.int 1)))) aNil)))) (tAnd (tVal (pE (eCall F_are_numbers (aCons (eIdx (pV 0) (pE (eC (.int 2)))) (aCons (eC c_MOST_ORDER) aNil))))) (tCmp oEq (pE (e1 oLenR (pE (eIdx (pV 0) (pE (eC (.int 1))))))) (pE (e1 oLenR (pE (eIdx (pV 0) (pE (eC (.int 2)))))))))))))
def F_is_row : Fn := fnOf 1 0 b_is_row
def b_L_some_rule : Stm := (sRet (e1 oTuple (pE (eLc (iRange1 (pV 1)) (.nm 2) tYes (eCall F_L_some_number (aCons (eV 0) (aCons (eC (.int 2)) aNil))) [2]))))
def F_L_some_rule : Fn := fnOf 2 1 b_L_some_rule
def b_L_some_first : Stm := (sRet (e1 oTuple (pE (eLc (iP (eV 1)) (.nm 2) tYes (eCall F_L_some_number (aCons (eV 0) (aCons (eC (.int 3)) aNil))) [2]))))
def F_L_some_first : Fn := fnOf 2 1 b_L_some_first
def b_need_row : Stm := (sIf (tNot (tVal (pE (eCall F_is_row (aCons (eV 0) aNil))))) (sRaiseM "NoRow" (eC (.str "no row"))) sNil)
def F_need_row : Fn := fnOf 1 0 b_need_row
def b_entries : Stm := (sSeq (sDrop (eCall F_need_row (aCons (eV 0) aNil))) (sSeq (sDrop (eCallD F_need_many [c_MOST_PLACE] (aCons (eV 1) aNil))) (sRet (e1 oTuple (pE (eCall F_extended (aCons (eIdx (pV 0) (pE (eC (.int 1)))) (aCons (eIdx (pV 0) (pE (eC (.int 2)))) (aCons (eV 1) aNil)))))))))
def F_entries : Fn := fnOf 2 0 b_entries
def b_entry : Stm := (sSeq (sDrop (eCall F_need_row (aCons (eV 0) aNil))) (sSeq (sDrop (eCallD F_need_many [c_MOST_PLACE] (aCons (eV 1) aNil))) (sRet (eIdx (pE (eCall F_extended (aCons (eIdx (pV 0) (pE (eC (.int 1)))) (aCons (eIdx (pV 0) (pE (eC (.int 2)))) (aCons (e2 oAdd (pV 1) (pE (eC (.int 1)))) aNil))))) (pV 1)))))
def F_entry : Fn := fnOf 2 0 b_entry
def b_L_plain (r_self : Fn) : Stm := (sSeq (sIf (tIsa [.list, .tuple] (pV 0)) (sRet (eT (tCmp oEq (pE (eLc (iP (eV 0)) (.nm 1) (tNot (tVal (pE (eCall r_self (aCons (eV 1) aNil))))) (eC (.int 1)) [1])) (pE (eLst aNil))))) sNil) (sSeq (sIf (tIsa [.dict] (pV 0)) sNo sNil) (sRet (eT (tOr (tIsN (pV 0)) (tIsa [.int, .str] (pV 0)))))))
def F_L_plain : Nat → Fn
  | 0 => fun _ _ => .stuck
  | n + 1 => fnOf 1 1 (b_L_plain (F_L_plain n))
def b_L_is : Stm := (sRet (eT (tAnd (tVal (pE (eCall (F_L_plain 100) (aCons (eV 0) aNil)))) (tAnd (tCmp oEq (pV 0) (pV 1)) (tAnd (tCmp oEq (pV 1) (pV 0)) (tCmp oEq (pE (e1 oRepr (pV 0))) (pE (e1 oRepr (pV 1)))))))))
def F_L_is : Fn := fnOf 2 0 b_L_is
end Kit

set_option exponentiation.threshold 10000
/-! KitP: what the usual defs come to: own work. -/
namespace Ev
open PySem
/-! ### Euclid -/
theorem fmod_gcd (a b : Int) : Int.gcd b (a.fmod b) = Int.gcd a b := by
  rw [Int.fmod_def, Int.gcd_sub_mul_left_right, Int.gcd_comm]
theorem fmod_abs_lt {a b : Int} (h : b ≠ 0) : (a.fmod b).natAbs < b.natAbs := by
  by_cases hb : 0 < b
  · have h1 := Int.fmod_nonneg_of_pos a hb
    have h2 := Int.fmod_lt_of_pos a hb
    omega
  · have h1 := Int.fmod_nonneg_of_pos (-a) (show 0 < -b by omega)
    have h2 := Int.fmod_lt_of_pos (-a) (show 0 < -b by omega)
    rw [Int.neg_fmod_neg] at h1 h2
    omega
/-- of the second step on each number is less than half the one two ahead -/
theorem fmod_half {a b : Int} (hb : b ≠ 0) (hr : a.fmod b ≠ 0) : 2 * (b.fmod (a.fmod b)).natAbs < b.natAbs := by
  -- by signs alike
  have pos : ∀ b r : Int, 0 < r → r < b → 2 * (b.fmod r).natAbs < b.natAbs := fun b r h1 h2 => by
    have h3 := Int.fmod_nonneg_of_pos b h1
    have h4 := Int.fmod_lt_of_pos b h1
    have h5 := Int.mul_fdiv_add_fmod b r
    have h6 : 1 ≤ b.fdiv r := by
      by_cases z : b.fdiv r ≤ 0
      · have := Int.mul_le_mul_of_nonneg_left z (show 0 ≤ r by omega)
        rw [Int.mul_zero] at this
        omega
      · omega
    have h7 := Int.mul_le_mul_of_nonneg_left h6 (show 0 ≤ r by omega)
    rw [Int.mul_one] at h7
    omega
  by_cases h : 0 < b
  · have h1 := Int.fmod_nonneg_of_pos a h
    have h2 := Int.fmod_lt_of_pos a h
    exact pos _ _ (by omega) h2
  · have h1 := Int.fmod_nonneg_of_pos (-a) (show 0 < -b by omega)
    have h2 := Int.fmod_lt_of_pos (-a) (show 0 < -b by omega)
    have z := pos (-b) ((-a).fmod (-b)) (by rw [Int.neg_fmod_neg] at *; omega) h2
    rw [Int.neg_fmod_neg, Int.neg_fmod_neg, Int.natAbs_neg, Int.natAbs_neg] at z
    exact z
end Ev
namespace Kit
open PySem Ev
variable {s : DS}
theorem common_while : ∀ (n f : Nat) (a b : Int) (s : DS), b.natAbs < 2 ^ n → 2 * n + 1 ≤ f →
    ∃ g : Int, g.natAbs = Int.gcd a b ∧ whileN (tCmp oNe (pV 1) (pE (eC (.int 0)))) (sPar 0 1 (eV 1) (e2 oMod (pE (e1 oInt (pV 0))) (pV 1))) f [.im (.int a), .im (.int b)] s = .nx [.im (.int g), .im (.int 0)] s := by
  have ne : ∀ b : Int, oNe (.int b) (.int 0) = some (!decide (b = 0)) := fun b => by
    have c : ∀ b : Int, (D.int b).cmp = true := fun b => rfl
    unfold oNe oEq
    rw [c, c]
    show some (!(PyData.eqv (.int b) (.int 0))) = _
    unfold PyData.eqv
    rfl
  have z : ∀ (f : Nat) (a : Int) (s : DS), whileN (tCmp oNe (pV 1) (pE (eC (.int 0)))) (sPar 0 1 (eV 1) (e2 oMod (pE (e1 oInt (pV 0))) (pV 1))) (f + 1) [.im (.int a), .im (.int 0)] s = .nx [.im (.int a), .im (.int 0)] s := fun f a s => by
    unfold whileN
    simp [ne]
  have st : ∀ (f : Nat) (a b : Int) (s : DS), b ≠ 0 → whileN (tCmp oNe (pV 1) (pE (eC (.int 0)))) (sPar 0 1 (eV 1) (e2 oMod (pE (e1 oInt (pV 0))) (pV 1))) (f + 1) [.im (.int a), .im (.int b)] s =
      whileN (tCmp oNe (pV 1) (pE (eC (.int 0)))) (sPar 0 1 (eV 1) (e2 oMod (pE (e1 oInt (pV 0))) (pV 1))) f [.im (.int b), .im (.int (a.fmod b))] s := fun f a b s h => by
    rw [whileN]
    simp [ne, h, oMod_ii h]
  intro n
  induction n with
  | zero =>
    intro f a b s hb hf
    obtain rfl : b = 0 := by omega
    obtain ⟨f, rfl⟩ : ∃ k, f = k + 1 := ⟨f - 1, by omega⟩
    exact ⟨a, by rw [Int.gcd_zero_right], z f a s⟩
  | succ n ih =>
    intro f a b s hb hf
    obtain ⟨f, rfl⟩ : ∃ k, f = k + 2 := ⟨f - 2, by omega⟩
    by_cases h0 : b = 0
    · subst h0
      exact ⟨a, by rw [Int.gcd_zero_right], z _ a s⟩
    · rw [st _ _ _ _ h0]
      by_cases h1 : a.fmod b = 0
      · rw [h1]
        refine ⟨b, ?_, z _ b s⟩
        have e := fmod_gcd a b
        rw [h1, Int.gcd_zero_right] at e
        exact e
      · rw [st _ _ _ _ h1]
        have e := fmod_half h0 h1
        rw [Nat.pow_succ] at hb
        obtain ⟨g, g1, g2⟩ := ih f (a.fmod b) (b.fmod (a.fmod b)) s (by omega) (by omega)
        exact ⟨g, by rw [g1, Int.gcd_comm, ← fmod_gcd a b, ← fmod_gcd b (a.fmod b), Int.gcd_comm], g2⟩
theorem L_common_ok {a b : Int} (h : b.natAbs < 2 ^ 9000) : F_L_common [.int a, .int b] s = .ok (.im (.int (Nat.gcd a.natAbs b.natAbs : Nat))) s := by
  obtain ⟨g, g1, g2⟩ := common_while 9000 20000 a b s h (by omega)
  unfold F_L_common b_L_common
  rw [fnOf_def, if_pos (by rfl)]
  simp [g2]
  have e : Int.gcd a b = Nat.gcd a.natAbs b.natAbs := rfl
  rw [e] at g1
  split <;> omega
theorem number_ok {u l : Int} (hl : l ≠ 0) (hv : l.natAbs < 2 ^ 8000) : F_number [.int u, .int l] s = .ok (.im (qD (Rat.divInt u l))) s := by
  have e1 := frac_num (u := u) hl
  have e2 := frac_den (u := u) hl
  have g0 : Nat.gcd u.natAbs l.natAbs ≠ 0 := by
    intro z
    have := Nat.eq_zero_of_gcd_eq_zero_right z
    omega
  have gl : Nat.gcd u.natAbs l.natAbs ≤ l.natAbs := Nat.gcd_le_right _ (by omega)
  unfold F_number b_number
  by_cases h : 0 < l
  · rw [if_pos h, Int.one_mul] at e1 e2
    have d : ∀ i : Int, DivOk i (Nat.gcd u.natAbs l.natAbs : Nat) = true := fun i => divOk (n := 8000) (by omega) (by rw [Int.natAbs_natCast]; omega) (by omega)
    simp [h, oDiv_ii (d _), e1, e2, qD, sizeLine]
  · rw [if_neg h, Int.neg_one_mul] at e1 e2
    have d : ∀ i : Int, DivOk i (-(Nat.gcd u.natAbs l.natAbs : Nat)) = true := fun i => divOk (n := 8000) (by omega) (by rw [Int.natAbs_neg, Int.natAbs_natCast]; omega) (by omega)
    simp [h, oDiv_ii (d _), e1, e2, qD, sizeLine]
theorem L_no_ok {u l : Int} (hl : l ≠ 0) (hv : l.natAbs < 2 ^ 8000) : F_L_no [.int u, .int l] s = .ok (.im (qD (Rat.divInt u l))) s := by
  have e1 := frac_num (u := u) hl
  have e2 := frac_den (u := u) hl
  have g0 : Nat.gcd u.natAbs l.natAbs ≠ 0 := by
    intro z
    have := Nat.eq_zero_of_gcd_eq_zero_right z
    omega
  have gl : Nat.gcd u.natAbs l.natAbs ≤ l.natAbs := Nat.gcd_le_right _ (by omega)
  have gc := @L_common_ok s u l (Nat.lt_trans hv (Nat.pow_lt_pow_right (by omega) (by omega)))
  have gs : (Nat.gcd u.natAbs l.natAbs : Int).natAbs < 2 ^ 8000 := by rw [Int.natAbs_natCast]; omega
  unfold F_L_no b_L_no
  by_cases h : 0 < l
  · rw [if_pos h, Int.one_mul] at e1 e2
    have d : ∀ i : Int, DivOk i (Nat.gcd u.natAbs l.natAbs : Nat) = true := fun i => divOk (n := 8000) (by omega) gs (by omega)
    have m : MulOk (Nat.gcd u.natAbs l.natAbs : Nat) 1 = true := mulOk (n := 8000) (m := 1) gs (by decide) (by omega)
    simp [h, gc, oMul_ii m, oDiv_ii (d _), e1, e2, qD, sizeLine]
  · rw [if_neg h, Int.neg_one_mul] at e1 e2
    have d : ∀ i : Int, DivOk i (-(Nat.gcd u.natAbs l.natAbs : Nat)) = true := fun i => divOk (n := 8000) (by omega) (by rw [Int.natAbs_neg]; exact gs) (by omega)
    have m : MulOk (Nat.gcd u.natAbs l.natAbs : Nat) (-1) = true := mulOk (n := 8000) (m := 1) gs (by decide) (by omega)
    simp [h, gc, oMul_ii m, Int.mul_neg, oDiv_ii (d _), e1, e2, qD, sizeLine]
/-! ### sums, products -/
theorem two_pow_mul {a b n m k : Nat} (ha : a < 2 ^ n) (hb : b < 2 ^ m) (h : n + m ≤ k) : a * b < 2 ^ k := by
  have h1 : a * b < 2 ^ n * 2 ^ m := Nat.mul_lt_mul_of_lt_of_lt ha hb
  rw [← Nat.pow_add] at h1
  exact Nat.lt_of_lt_of_le h1 (Nat.pow_le_pow_right (by omega) h)
theorem den_ne (q : Rat) : (q.den : Int) ≠ 0 := by
  have := q.den_nz
  omega
theorem idx0 (a b : D) : oIdx (.tup [a, b]) (.int 0) = some a := oIdx_t (k := 0) rfl
theorem idx1 (a b : D) : oIdx (.tup [a, b]) (.int 1) = some b := oIdx_t (k := 1) rfl
theorem plus_ok {p q : Rat} (hp : Sz 4000 p) (hq : Sz 4000 q) : F_plus [qD p, qD q] s = .ok (.im (qD (p + q))) s := by
  have m1 : MulOk p.num q.den = true := mulOk hp.1 (by rw [Int.natAbs_natCast]; exact hq.2) (by omega)
  have m2 : MulOk q.num p.den = true := mulOk hq.1 (by rw [Int.natAbs_natCast]; exact hp.2) (by omega)
  have m3 : MulOk p.den q.den = true := mulOk (n := 4000) (m := 4000) (by rw [Int.natAbs_natCast]; exact hp.2) (by rw [Int.natAbs_natCast]; exact hq.2) (by omega)
  have n := @number_ok s (p.num * q.den + q.num * p.den) ((p.den : Int) * q.den) (Int.mul_ne_zero (den_ne p) (den_ne q)) (by rw [Int.natAbs_mul, Int.natAbs_natCast, Int.natAbs_natCast]; exact two_pow_mul hp.2 hq.2 (by omega))
  rw [num_add_eq] at n
  unfold F_plus b_plus
  simp only [qD] at n ⊢
  simp [idx0, idx1, oMul_ii m1, oMul_ii m2, oMul_ii m3, n]
theorem times_ok {p q : Rat} (hp : Sz 4000 p) (hq : Sz 4000 q) : F_times [qD p, qD q] s = .ok (.im (qD (p * q))) s := by
  have m1 : MulOk p.num q.num = true := mulOk hp.1 hq.1 (by omega)
  have m3 : MulOk p.den q.den = true := mulOk (n := 4000) (m := 4000) (by rw [Int.natAbs_natCast]; exact hp.2) (by rw [Int.natAbs_natCast]; exact hq.2) (by omega)
  have n := @number_ok s (p.num * q.num) ((p.den : Int) * q.den) (Int.mul_ne_zero (den_ne p) (den_ne q)) (by rw [Int.natAbs_mul, Int.natAbs_natCast, Int.natAbs_natCast]; exact two_pow_mul hp.2 hq.2 (by omega))
  rw [num_mul_eq] at n
  unfold F_times b_times
  simp only [qD] at n ⊢
  simp [idx0, idx1, oMul_ii m1, oMul_ii m3, n]
theorem L_plus_ok {p q : Rat} (hp : Sz 4000 p) (hq : Sz 4000 q) : F_L_plus [qD p, qD q] s = .ok (.im (qD (p + q))) s := by
  have m1 : MulOk p.num q.den = true := mulOk hp.1 (by rw [Int.natAbs_natCast]; exact hq.2) (by omega)
  have m2 : MulOk q.num p.den = true := mulOk hq.1 (by rw [Int.natAbs_natCast]; exact hp.2) (by omega)
  have m3 : MulOk p.den q.den = true := mulOk (n := 4000) (m := 4000) (by rw [Int.natAbs_natCast]; exact hp.2) (by rw [Int.natAbs_natCast]; exact hq.2) (by omega)
  have n := @L_no_ok s (p.num * q.den + q.num * p.den) ((p.den : Int) * q.den) (Int.mul_ne_zero (den_ne p) (den_ne q)) (by rw [Int.natAbs_mul, Int.natAbs_natCast, Int.natAbs_natCast]; exact two_pow_mul hp.2 hq.2 (by omega))
  rw [num_add_eq] at n
  unfold F_L_plus b_L_plus
  simp only [qD] at n ⊢
  simp [idx0, idx1, oMul_ii m1, oMul_ii m2, oMul_ii m3, n]
theorem L_times_ok {p q : Rat} (hp : Sz 4000 p) (hq : Sz 4000 q) : F_L_times [qD p, qD q] s = .ok (.im (qD (p * q))) s := by
  have m1 : MulOk p.num q.num = true := mulOk hp.1 hq.1 (by omega)
  have m3 : MulOk p.den q.den = true := mulOk (n := 4000) (m := 4000) (by rw [Int.natAbs_natCast]; exact hp.2) (by rw [Int.natAbs_natCast]; exact hq.2) (by omega)
  have n := @L_no_ok s (p.num * q.num) ((p.den : Int) * q.den) (Int.mul_ne_zero (den_ne p) (den_ne q)) (by rw [Int.natAbs_mul, Int.natAbs_natCast, Int.natAbs_natCast]; exact two_pow_mul hp.2 hq.2 (by omega))
  rw [num_mul_eq] at n
  unfold F_L_times b_L_times
  simp only [qD] at n ⊢
  simp [idx0, idx1, oMul_ii m1, oMul_ii m3, n]
end Kit

/-! KitD: the draws: own work. -/
namespace Kit
open PySem Ev
variable {s : DS}
/-- so many draws are left -/
structure St (s : DS) (n : Nat) : Prop where
  t0 : 0 ≤ s.turn
  t1 : s.turn + n < 2 ^ 40
theorem St.less {s : DS} {n m : Nat} (h : St s n) (l : m ≤ n) : St s m := ⟨h.t0, by have := h.t1; omega⟩
theorem oPow5 {i : Int} (h : i.natAbs < 2 ^ 64) : oPow (.int i) (.int 5) = some (.im (.int (i ^ 5))) := by
  have z : PowOk i 5 = true := by
    unfold PowOk
    simp only [Bool.and_eq_true, decide_eq_true_eq]
    exact ⟨⟨by omega, by omega⟩, h⟩
  show (if PowOk i 5 then some (RV.im (.int (i ^ (5 : Int).toNat))) else none) = _
  rw [if_pos z]
  rfl
/-- the inner loop of a mixed number -/
theorem mix_cells (c0 : List Int) (t f p : Int) (hp : 0 < p) (hp1 : p < 2 ^ 32) : ∀ (cs : List Int) (b : Int) (x : Slot) (s : DS), s.cells = c0 → b.natAbs < 2 ^ 64 →
    ∃ (b' : Int) (x' : Slot), b'.natAbs < 2 ^ 64 ∧ forC c0 (.nm 5) (sSet 4 (e2 oMod (pE (e1 oInt (pE (e2 oAdd (pE (e2 oAdd (pE (e2 oMul (pV 4) (pE (eC (.int 48271))))) (pV 5))) (pV 1))))) (pV 3))) (cs.map .int) [.im .st, .im (.int t), .im (.int f), .im (.int p), .im (.int b), x] s =
      .nx [.im .st, .im (.int t), .im (.int f), .im (.int p), .im (.int b'), x'] s
  | [], b, x, s, _, hb => ⟨b, x, hb, rfl⟩
  | c :: cs, b, x, s, hs, hb => by
    have m : MulOk b 48271 = true := mulOk (n := 64) (m := 20) hb (by decide) (by omega)
    have q1 := Int.fmod_nonneg_of_pos (b * 48271 + c + t) hp
    have q2 := Int.fmod_lt_of_pos (b * 48271 + c + t) hp
    obtain ⟨b', x', h1, h2⟩ := mix_cells c0 t f p hp hp1 cs ((b * 48271 + c + t).fmod p) (.im (.int c)) s hs (by omega)
    refine ⟨b', x', h1, ?_⟩
    rw [List.map_cons, forC]
    simp [Tgt.put, oMul_ii m, oMod_ii (show p ≠ 0 by omega), hs, h2]
theorem mix_round (t f p : Int) (hp : 0 < p) (hp1 : p < 2 ^ 32) (ht : 0 ≤ t) (ht1 : t < 2 ^ 41) (n : Nat) (hf : f.natAbs < 2 ^ n) (hn : n < 1000) (x3 x4 x5 : Slot) :
    ∃ (f' b' : Int) (x' : Slot), f'.natAbs < 2 ^ (n + 33) ∧ (sSeq (sSet 4 (e2 oAdd (pE (e2 oMul (pE (eC (.int 69621))) (pV 1))) (pE (e2 oDiv (pV 3) (pE (eC (.int 41))))))) (sSeq (sForC 0 (.nm 5) (sSet 4 (e2 oMod (pE (e1 oInt (pE (e2 oAdd (pE (e2 oAdd (pE (e2 oMul (pV 4) (pE (eC (.int 48271))))) (pV 5))) (pV 1))))) (pV 3)))) (sSet 2 (e2 oAdd (pE (e2 oMul (pV 2) (pE (eC (.int 2147483659))))) (pE (e2 oMod (pE (e1 oInt (pE (e2 oPow (pV 4) (pE (eC (.int 5))))))) (pV 3))))))) [.im .st, .im (.int t), .im (.int f), .im (.int p), x4, x5] s =
      .nx [.im .st, .im (.int t), .im (.int f'), .im (.int p), .im (.int b'), x'] s := by
  have m1 : MulOk 69621 t = true := mulOk (n := 20) (m := 41) (by decide) (by omega) (by omega)
  have d1 : DivOk p 41 = true := divOk (n := 6) (by omega) (by decide) (by omega)
  have e1 : p.fdiv 41 = p / 41 := Int.fdiv_eq_ediv_of_nonneg _ (by omega)
  have m2 : MulOk f 2147483659 = true := mulOk (n := n) (m := 32) hf (by decide) (by omega)
  obtain ⟨b', x', h1, h2⟩ := mix_cells s.cells t f p hp hp1 s.cells (69621 * t + p.fdiv 41) x5 s rfl (by rw [e1]; omega)
  have q1 := Int.fmod_nonneg_of_pos (b' ^ 5) hp
  have q2 := Int.fmod_lt_of_pos (b' ^ 5) hp
  refine ⟨f * 2147483659 + (b' ^ 5).fmod p, b', x', ?_, ?_⟩
  · rw [Nat.pow_add]
    omega
  · simp [oMul_ii m1, oDiv_ii d1, h2, oMul_ii m2, oPow5 h1, oMod_ii (show p ≠ 0 by omega)]
theorem L_mixed_ok {n : Nat} (h : St s (n + 1)) : ∃ k : Int, F_L_mixed [.st] s = .ok (.im (.int k)) { s with turn := s.turn + 1 } := by
  have t0 := h.t0
  have t1 := h.t1
  obtain ⟨f1, b1, x1, u1, e1⟩ := @mix_round { s with turn := s.turn + 1 } (s.turn + 1) 0 2147483629 (by omega) (by omega) (by omega) (by omega) 1 (by decide) (by omega) .un .un .un
  obtain ⟨f2, b2, x2, u2, e2⟩ := @mix_round { s with turn := s.turn + 1 } (s.turn + 1) f1 2147483587 (by omega) (by omega) (by omega) (by omega) _ u1 (by omega) .un (.im (.int b1)) x1
  obtain ⟨f3, b3, x3, u3, e3⟩ := @mix_round { s with turn := s.turn + 1 } (s.turn + 1) f2 2147483579 (by omega) (by omega) (by omega) (by omega) _ u2 (by omega) .un (.im (.int b2)) x2
  obtain ⟨f4, b4, x4, u4, e4⟩ := @mix_round { s with turn := s.turn + 1 } (s.turn + 1) f3 2147483563 (by omega) (by omega) (by omega) (by omega) _ u3 (by omega) .un (.im (.int b3)) x3
  refine ⟨f4, ?_⟩
  unfold F_L_mixed b_L_mixed
  rw [fnOf_def, if_pos (by rfl)]
  generalize hb : sSeq (sSet 4 _) _ = body at e1 e2 e3 e4 ⊢
  simp [Fd.get, Fd.put, forL, Tgt.put, sizeLine, e1, e2, e3, e4]
theorem oEq_i0 (i : Int) : oEq (.int i) (.int 0) = some (decide (i = 0)) := by
  show some (PyData.eqv (.int i) (.int 0)) = _
  unfold PyData.eqv
  rfl
theorem L_draw_ok {n : Nat} {room : Int} (h : St s (n + 1)) (h0 : 0 < room) (h1 : room.natAbs < 2 ^ 8000) : ∃ (k : Nat) (s' : DS), F_L_draw [.st, .int room] s = .ok (.im (.int k)) s' ∧ (k : Int) < room ∧ St s' n := by
  have dv : ∀ i, DivOk i room = true := fun i => divOk (by omega) h1 (by omega)
  have m := fun i => @oMod_ii i room (by omega)
  have fin : ∀ (r : Int) (s1 : DS), s1.rest = r → St s1 n → ∃ (k : Nat) (s' : DS), (match (sSeq (sSet 2 (e2 oMod (pE (e1 oInt (pE (eSt 0 .rest)))) (pV 1))) (sSeq (sStI 0 .rest (e2 oDiv (pE (eSt 0 .rest)) (pV 1))) (sRetV 2))) [.im .st, .im (.int room), .un] s1 with
    | .nx _ s => Res.ok (RV.im .non) s
    | .rt r s => Res.ok r s
    | .exc c p s => .exc c p s
    | _ => .stuck) = .ok (.im (.int k)) s' ∧ (k : Int) < room ∧ St s' n := fun r s1 hr hs => by
    have q1 := Int.fmod_nonneg_of_pos r h0
    have q2 := Int.fmod_lt_of_pos r h0
    refine ⟨(r.fmod room).toNat, { s1 with rest := r.fdiv room }, ?_, by omega, ⟨hs.t0, hs.t1⟩⟩
    simp [Fd.get, Fd.put, m, oDiv_ii (dv _), hr]
    omega
  unfold F_L_draw b_L_draw
  rw [fnOf_def, if_pos (by rfl)]
  rw [sSeq_def]
  simp only [sIf_def, tCmp_def, pE_def, eSt_def, eC_def, List.map_cons, List.map_nil, List.replicate, List.cons_append, List.nil_append, List.getElem?_cons_zero, bind_ok, d_im, oEq_i0, lift_some, out_ok, Fd.get]
  by_cases hr : s.rest = 0
  · simp only [hr, decide_true, if_true]
    cases hg : s.great with
    | cons g gs =>
      obtain ⟨k, s', e, l, st⟩ := fin g { s with great := gs, rest := g } rfl ⟨h.t0, by have := h.t1; show s.turn + n < _; omega⟩
      refine ⟨k, s', ?_, l, st⟩
      simp [hg, Fd.put, -sSeq_def]
      exact e
    | nil =>
      obtain ⟨x, ex⟩ := L_mixed_ok h
      obtain ⟨k, s', e, l, st⟩ := fin x { s with turn := s.turn + 1, rest := x, great := [] } rfl ⟨by have := h.t0; show 0 ≤ s.turn + 1; omega, by have := h.t1; show s.turn + 1 + n < _; omega⟩
      refine ⟨k, s', ?_, l, st⟩
      simp [hg, Fd.put, ex, -sSeq_def]
      exact e
  · simp only [hr, decide_false, Bool.false_eq_true, if_false, sNil_def]
    exact fin _ s rfl (h.less (by omega))
theorem L_pick_ok {n : Nat} {xs : List D} (h : St s (n + 1)) (h0 : xs ≠ []) (h1 : xs.length < 2 ^ 60) : ∃ (d : D) (s' : DS), F_L_pick [.st, .lst xs] s = .ok (.im d) s' ∧ d ∈ xs ∧ St s' n := by
  have hl : 0 < xs.length := List.length_pos_iff.mpr h0
  obtain ⟨k, s', e, l, st⟩ := L_draw_ok (room := xs.length) h (by omega) (by rw [Int.natAbs_natCast]; exact Nat.lt_trans h1 (by decide))
  have lt : k < xs.length := by omega
  refine ⟨xs[k], s', ?_, List.getElem_mem lt, st⟩
  unfold F_L_pick b_L_pick
  simp [e, oIdx_l (List.getElem?_eq_getElem lt)]
end Kit

/-! KitQ: what is compared and shown: own work. -/
namespace Ev
open PySem
mutual
/-- fit to be compared and shown -/
def D.gd : D → Bool
  | .non | .bl _ => true
  | .int i => decide (i.natAbs < 2 ^ 1900)
  | .str x => PyData.strOk x && PyData.strOk (reprText x)
  | .tup xs | .lst xs => gdAll xs
  | .edic | .st | .exc _ _ | .scr _ => false
def gdAll : List D → Bool
  | [] => true
  | x :: xs => x.gd && gdAll xs
end
mutual
/-- at most so long is its text -/
def D.wt : D → Nat
  | .int _ => 2000
  | .str x => (reprText x).length
  | .tup xs | .lst xs => wtAll xs + 3
  | _ => 5
def wtAll : List D → Nat
  | [] => 0
  | x :: xs => x.wt + 2 + wtAll xs
end
theorem gdAll_mem : ∀ {xs : List D}, gdAll xs = true ↔ ∀ x ∈ xs, x.gd = true
  | [] => by simp [gdAll]
  | x :: xs => by simp [gdAll, gdAll_mem]
mutual
theorem gd_ok : ∀ d : D, d.gd = true → d.ok = true
  | .non, _ | .bl _, _ | .int _, _ | .str _, _ => by simp [D.ok]
  | .tup xs, h | .lst xs, h => by
    simp only [D.gd] at h
    simp only [D.ok]
    exact gdAll_ok xs h
  | .edic, h | .st, h | .exc _ _, h | .scr _, h => by simp [D.gd] at h
theorem gdAll_ok : ∀ xs : List D, gdAll xs = true → D.ok.okAll xs = true
  | [], _ => rfl
  | x :: xs, h => by
    simp only [gdAll, Bool.and_eq_true] at h
    simp only [D.ok.okAll, Bool.and_eq_true]
    exact ⟨gd_ok x h.1, gdAll_ok xs h.2⟩
end
mutual
theorem gd_lay : ∀ d : D, d.gd = true → d.py.canLay0 = true
  | .non, _ | .bl _, _ | .int _, _ => by simp [D.py, PyData.canLay0]
  | .str x, h => by
    simp only [D.gd, Bool.and_eq_true] at h
    simp only [D.py, PyData.canLay0]
    exact h.1
  | .tup xs, h | .lst xs, h => by
    simp only [D.gd] at h
    simp only [D.py, PyData.canLay0]
    exact gdAll_lay xs h
  | .edic, h | .st, h | .exc _ _, h | .scr _, h => by simp [D.gd] at h
theorem gdAll_lay : ∀ xs : List D, gdAll xs = true → PyData.canLayAll0 (D.py.pyAll xs) = true
  | [], _ => rfl
  | x :: xs, h => by
    simp only [gdAll, Bool.and_eq_true] at h
    simp only [D.py.pyAll, PyData.canLayAll0, Bool.and_eq_true]
    exact ⟨gd_lay x h.1, gdAll_lay xs h.2⟩
end
mutual
theorem gd_show : ∀ d : D, d.gd = true → d.py.showable = true
  | .non, _ | .bl _, _ | .str _, _ => by simp [D.py, PyData.showable]
  | .int i, h => by
    simp only [D.gd, decide_eq_true_eq] at h
    simp only [D.py, PyData.showable, decide_eq_true_eq]
    have := log2_lt h (by omega)
    omega
  | .tup xs, h | .lst xs, h => by
    simp only [D.gd] at h
    simp only [D.py, PyData.showable]
    exact gdAll_show xs h
  | .edic, h | .st, h | .exc _ _, h | .scr _, h => by simp [D.gd] at h
theorem gdAll_show : ∀ xs : List D, gdAll xs = true → PyData.showableAll (D.py.pyAll xs) = true
  | [], _ => rfl
  | x :: xs, h => by
    simp only [gdAll, Bool.and_eq_true] at h
    simp only [D.py.pyAll, PyData.showableAll, Bool.and_eq_true]
    exact ⟨gd_show x h.1, gdAll_show xs h.2⟩
end
mutual
theorem eqv_self : ∀ d : D, d.gd = true → PyData.eqv d.py d.py = true
  | .non, _ => by simp [D.py, PyData.eqv]
  | .bl _, _ => by simp [D.py, PyData.eqv]
  | .int _, _ => by simp [D.py, PyData.eqv]
  | .str _, _ => by simp [D.py, PyData.eqv]
  | .tup xs, h | .lst xs, h => by
    simp only [D.gd] at h
    simp only [D.py, PyData.eqv]
    exact eqvAll_self xs h
  | .edic, h | .st, h | .exc _ _, h | .scr _, h => by simp [D.gd] at h
theorem eqvAll_self : ∀ xs : List D, gdAll xs = true → PyData.eqvAll (D.py.pyAll xs) (D.py.pyAll xs) = true
  | [], _ => by simp [D.py.pyAll, PyData.eqvAll]
  | x :: xs, h => by
    simp only [gdAll, Bool.and_eq_true] at h
    simp only [D.py.pyAll, PyData.eqvAll, Bool.and_eq_true]
    exact ⟨eqv_self x h.1, eqvAll_self xs h.2⟩
end
/-! ### texts -/
theorem strOk_app {a b : Str} : PyData.strOk (a ++ b) = (PyData.strOk a && PyData.strOk b) := by
  show ((a.cps ++ b.cps).all _) = _
  rw [Array.all_append]
  rfl
theorem strOk_of (s : String) : PyData.strOk (Str.ofString s) = true := by
  rw [Str.ofString_eq_toList]
  unfold PyData.strOk
  rw [List.all_toArray, List.all_map, List.all_eq_true]
  intro c _
  have := c.valid
  simp only [Function.comp, decide_eq_true_eq]
  have v := c.toNat
  rcases c.valid with h | ⟨_, h⟩
  · exact Nat.lt_trans h (by decide)
  · exact h
theorem strOk_textFrom : ∀ (ts : List Str) (k : Nat) (acc : Str), PyData.strOk acc = true → (∀ t ∈ ts, PyData.strOk t = true) → PyData.strOk (textFrom k acc ts) = true
  | [], k, acc, h, _ => h
  | t :: r, k, acc, h, ht => by
    show PyData.strOk (textFrom (k + 1) (acc ++ (if k > 0 then ", " else "" : String) ++ t) r) = true
    refine strOk_textFrom r (k + 1) _ ?_ fun u hu => ht u (List.mem_cons_of_mem _ hu)
    rw [strOk_app, strOk_app, h, ht t List.mem_cons_self, Bool.and_true, Bool.true_and]
    exact strOk_of _
theorem strOk_list {ts : List Str} (ht : ∀ t ∈ ts, PyData.strOk t = true) : PyData.strOk (listText ts) = true := by
  unfold listText
  rw [strOk_app, strOk_textFrom ts 0 _ (strOk_of _) ht, Bool.true_and]
  exact strOk_of _
theorem strOk_join (sep : Str) (hs : PyData.strOk sep = true) : ∀ ts : List Str, (∀ t ∈ ts, PyData.strOk t = true) → PyData.strOk (Str.join sep ts) = true
  | [], _ => by simp [Str.join, PyData.strOk, Str.empty]
  | [x], h => h x List.mem_cons_self
  | x :: y :: r, h => by
    show PyData.strOk (x ++ sep ++ Str.join sep (y :: r)) = true
    rw [strOk_app, strOk_app, h x List.mem_cons_self, hs, strOk_join sep hs (y :: r) fun t ht => h t (List.mem_cons_of_mem _ ht)]
    rfl
theorem strOk_tuple {ts : List Str} (ht : ∀ t ∈ ts, PyData.strOk t = true) : PyData.strOk (tupleText ts) = true := by
  unfold tupleText
  rw [strOk_app, strOk_app, strOk_join _ (strOk_of _) ts ht, Bool.and_true, show PyData.strOk ("(" : Str) = true from strOk_of _, Bool.true_and]
  exact strOk_of _
mutual
theorem gd_strOk : ∀ d : D, d.gd = true → PyData.strOk d.py.shown = true
  | .non, _ => strOk_of _
  | .bl b, _ => by cases b <;> exact strOk_of _
  | .int i, _ => by
    simp only [D.py, PyData.shown]
    exact strOk_of _
  | .str x, h => by
    simp only [D.gd, Bool.and_eq_true] at h
    simp only [D.py, PyData.shown]
    exact h.2
  | .lst xs, h => by
    simp only [D.gd] at h
    simp only [D.py, PyData.shown]
    exact strOk_list (gdAll_strOk xs h)
  | .tup xs, h => by
    simp only [D.gd] at h
    simp only [D.py, PyData.shown]
    exact strOk_tuple (gdAll_strOk xs h)
  | .edic, h | .st, h | .exc _ _, h | .scr _, h => by simp [D.gd] at h
theorem gdAll_strOk : ∀ xs : List D, gdAll xs = true → ∀ t ∈ PyData.shownAll (D.py.pyAll xs), PyData.strOk t = true
  | [], _ => fun t ht => by simp [D.py.pyAll, PyData.shownAll] at ht
  | x :: xs, h => fun t ht => by
    simp only [gdAll, Bool.and_eq_true] at h
    simp only [D.py.pyAll, PyData.shownAll, List.mem_cons] at ht
    rcases ht with rfl | ht
    · exact gd_strOk x h.1
    · exact gdAll_strOk xs h.2 t ht
end
mutual
theorem gd_len : ∀ d : D, d.gd = true → d.py.shown.length ≤ d.wt
  | .non, _ => by decide
  | .bl b, _ => by cases b <;> decide
  | .int i, h => by
    simp only [D.gd, decide_eq_true_eq] at h
    have e := int_text_length_le (a := i) (k := 1900) (by decide) (log2_lt h (by omega))
    simp only [D.py, PyData.shown, D.wt]
    rw [PySem.ofString_length]
    omega
  | .str x, h => by simp only [D.py, PyData.shown, D.wt]; exact Nat.le_refl _
  | .lst xs, h => by
    simp only [D.gd] at h
    simp only [D.py, PyData.shown, D.wt]
    have z := listText_len_le (PyData.shownAll (D.py.pyAll xs))
    have y := gdAll_len xs h
    omega
  | .tup xs, h => by
    simp only [D.gd] at h
    simp only [D.py, PyData.shown, D.wt]
    have z := tupleText_len_le (PyData.shownAll (D.py.pyAll xs))
    have y := gdAll_len xs h
    omega
  | .edic, h | .st, h | .exc _ _, h | .scr _, h => by simp [D.gd] at h
theorem gdAll_len : ∀ xs : List D, gdAll xs = true → ((PyData.shownAll (D.py.pyAll xs)).map (·.length)).sum + 2 * (PyData.shownAll (D.py.pyAll xs)).length ≤ wtAll xs
  | [], _ => by simp [D.py.pyAll, PyData.shownAll]
  | x :: xs, h => by
    simp only [gdAll, Bool.and_eq_true] at h
    simp only [D.py.pyAll, PyData.shownAll, List.map_cons, List.sum_cons, List.length_cons, wtAll]
    have a := gd_len x h.1
    have b := gdAll_len xs h.2
    omega
end
theorem oEq_self {d : D} (h : d.gd = true) (hd : d.py.depth ≤ 64) : oEq d d = some true := by
  have c : d.cmp = true := by
    unfold D.cmp SeqAt.shaped
    rw [gd_ok d h, gd_lay d h, decide_eq_true hd]
    rfl
  unfold oEq
  rw [c, eqv_self d h]
  rfl
theorem oRepr_ok {d : D} (h : d.gd = true) (hd : d.py.depth ≤ 64) (hw : d.wt ≤ sizeLine) : oRepr d = some (.im (.str d.py.shown)) := by
  unfold oRepr D.shw
  rw [gd_ok d h, gd_show d h, decide_eq_true hd, decide_eq_true (Nat.le_trans (gd_len d h) hw)]
  rfl
theorem oEq_str {x : Str} (h : PyData.strOk x = true) : oEq (.str x) (.str x) = some true := by
  have c : (D.str x).cmp = true := by
    unfold D.cmp SeqAt.shaped
    simp [D.ok, D.py, PyData.canLay0, PyData.depth, h]
  unfold oEq
  rw [c]
  simp [D.py, PyData.eqv]
end Ev
namespace Kit
open PySem Ev
variable {s : DS}
theorem depth_mem {xs : List D} {n : Nat} (h : PyData.depthAll (D.py.pyAll xs) ≤ n) : ∀ x ∈ xs, x.py.depth ≤ n := by
  induction xs with
  | nil => intro x hx; cases hx
  | cons y ys ih =>
    simp only [D.py.pyAll, PyData.depthAll] at h
    intro x hx
    rcases List.mem_cons.mp hx with rfl | hx
    · omega
    · exact ih (by omega) x hx
theorem lcL_none {tg : Tgt} {c : Sm Bool} {elt : Sm RV} {env : Lo} {xs : List D} (h : ∀ x ∈ xs, ∃ env', tg.put x env = some env' ∧ c env' s = .ok false s) : lcL tg c elt env xs s = .ok [] s := by
  induction xs with
  | nil => rfl
  | cons x xs ih =>
    obtain ⟨e, h1, h2⟩ := h x List.mem_cons_self
    rw [lcL, h1]
    simp only [h2]
    exact ih fun y hy => h y (List.mem_cons_of_mem _ hy)
theorem oEq_nil : oEq (.lst []) (.lst []) = some true := oEq_self (by simp [D.gd, gdAll]) (by decide)
theorem wtAll_len : ∀ xs : List D, 2 * xs.length ≤ wtAll xs
  | [] => by simp
  | x :: xs => by
    have := wtAll_len xs
    simp only [List.length_cons, wtAll]
    omega
theorem wt_mem {xs : List D} : ∀ x ∈ xs, x.wt ≤ wtAll xs := by
  induction xs with
  | nil => intro x hx; cases hx
  | cons y ys ih =>
    intro x hx
    simp only [wtAll]
    rcases List.mem_cons.mp hx with rfl | hx
    · omega
    · have := ih x hx
      omega
theorem L_plain_ok : ∀ (n : Nat) (d : D) (s : DS), d.gd = true → d.py.depth ≤ n → d.wt ≤ sizeLine → F_L_plain (n + 1) [d] s = .ok (.im (.bl true)) s := by
  intro n
  induction n with
  | zero =>
    intro d s h hd hw
    cases d with
    | tup xs => simp [D.py, PyData.depth] at hd
    | lst xs => simp [D.py, PyData.depth] at hd
    | edic => simp [D.gd] at h
    | st => simp [D.gd] at h
    | exc c p => simp [D.gd] at h
    | scr n => simp [D.gd] at h
    | _ => simp [F_L_plain, b_L_plain]
  | succ n ih =>
    intro d s h hd hw
    have seqs : ∀ xs : List D, gdAll xs = true → PyData.depthAll (D.py.pyAll xs) + 1 ≤ n + 1 → wtAll xs + 3 ≤ sizeLine → xs.length ≤ 16777216 ∧ ∀ (a : Slot) (s : DS), lcL (.nm 1) (tNot (tVal (pE (eCall (F_L_plain (n + 1)) (aCons (eV 1) aNil))))) (eC (.int 1)) [a, .un] xs s = .ok [] s := fun xs h1 h2 h3 => by
      refine ⟨by have := wtAll_len xs; have : sizeLine = 16777216 := rfl; omega, fun a s => lcL_none fun x hx => ⟨[a, .im x], rfl, ?_⟩⟩
      have z := ih x s (gdAll_mem.mp h1 x hx) (depth_mem (by omega) x hx) (by have := wt_mem x hx; omega)
      simp [z]
    cases d with
    | tup xs =>
      simp only [D.gd, D.py, PyData.depth, D.wt] at h hd hw
      obtain ⟨l, q⟩ := seqs xs h hd hw
      rw [F_L_plain]
      simp [b_L_plain, l, wipeOk, wipeE, Tgt.inn, q, sizeLine, oEq_nil]
    | lst xs =>
      simp only [D.gd, D.py, PyData.depth, D.wt] at h hd hw
      obtain ⟨l, q⟩ := seqs xs h hd hw
      rw [F_L_plain]
      simp [b_L_plain, l, wipeOk, wipeE, Tgt.inn, q, sizeLine, oEq_nil]
    | edic => simp [D.gd] at h
    | st => simp [D.gd] at h
    | exc c p => simp [D.gd] at h
    | scr n => simp [D.gd] at h
    | _ => simp [F_L_plain, b_L_plain]
theorem L_plain_any {n : Nat} {d : D} {s : DS} (h : d.gd = true) (hd : d.py.depth ≤ n) (hw : d.wt ≤ sizeLine) : F_L_plain (n + 1) [d] s = .ok (.im (.bl true)) s := L_plain_ok n d s h hd hw
/-- a thing is what is due -/
theorem L_is_ok {d : D} (h : d.gd = true) (hd : d.py.depth ≤ 60) (hw : d.wt ≤ sizeLine) : F_L_is [d, d] s = .ok (.im (.bl true)) s := by
  have z := @L_plain_any 99 d s h (by omega) hw
  have r := oRepr_ok h (by omega) hw
  have q := oEq_self h (by omega)
  have p := oEq_str (gd_strOk d h)
  unfold F_L_is b_L_is
  simp [z, r, q, p]
end Kit

/-! KitR: judgements of anything: own work. -/
namespace Ev
open PySem
@[simp] theorem oEq_ii (i j : Int) : oEq (.int i) (.int j) = some (decide (i = j)) := by
  show some (PyData.eqv (.int i) (.int j)) = _
  unfold PyData.eqv
  rfl
@[simp] theorem oNe_ii (i j : Int) : oNe (.int i) (.int j) = some (!decide (i = j)) := by
  unfold oNe
  rw [oEq_ii]
  rfl
mutual
/-- what a law may hand in: whole numbers not too great, texts of signs -/
def D.kn : D → Bool
  | .non | .bl _ | .edic => true
  | .int i => decide (i.natAbs < 2 ^ 8000)
  | .str x => PyData.strOk x
  | .tup xs | .lst xs => decide (xs.length < 2 ^ 20) && knAll xs
  | .st | .exc _ _ | .scr _ => false
def knAll : List D → Bool
  | [] => true
  | x :: xs => x.kn && knAll xs
end
theorem knAll_mem : ∀ {xs : List D}, knAll xs = true ↔ ∀ x ∈ xs, x.kn = true
  | [] => by simp [knAll]
  | x :: xs => by simp [knAll, knAll_mem]
theorem kn_tup {xs : List D} (h : (D.tup xs).kn = true) : xs.length < 2 ^ 20 ∧ ∀ x ∈ xs, x.kn = true := by
  simp only [D.kn, Bool.and_eq_true, decide_eq_true_eq] at h
  exact ⟨h.1, knAll_mem.mp h.2⟩
def isWh : D → Bool
  | .int _ => true
  | _ => false
def isNum : D → Bool
  | .tup [.int a, .int b] => decide (0 < b) && decide (Nat.gcd a.natAbs b.natAbs = 1)
  | _ => false
def isNums (n : Nat) : D → Bool
  | .tup xs => decide (xs.length ≤ n) && xs.all isNum
  | _ => false
def lenT : D → Nat
  | .tup xs => xs.length
  | _ => 0
def isRow : D → Bool
  | .tup [.str x, a, b] => decide (x = "row") && (isNums 24 a && (isNums 24 b && decide (lenT a = lenT b)))
  | _ => false
theorem lcL_map {s : DS} {tg : Tgt} {elt : Sm RV} {env : Lo} {f : D → D} {xs : List D} (h : ∀ x ∈ xs, ∃ env' r, tg.put x env = some env' ∧ elt env' s = .ok r s ∧ r.d = f x) : lcL tg tYes elt env xs s = .ok (xs.map f) s := by
  induction xs with
  | nil => rfl
  | cons x xs ih =>
    obtain ⟨e, r, h1, h2, h3⟩ := h x List.mem_cons_self
    rw [lcL, h1]
    simp [h2, h3, ih fun y hy => h y (List.mem_cons_of_mem _ hy)]
theorem lcL_filter {s : DS} {tg : Tgt} {c : Sm Bool} {elt : Sm RV} {env : Lo} {p : D → Bool} {f : D → D} {xs : List D} (h : ∀ x ∈ xs, ∃ env', tg.put x env = some env' ∧ c env' s = .ok (p x) s ∧ (p x = true → ∃ r, elt env' s = .ok r s ∧ r.d = f x)) : lcL tg c elt env xs s = .ok ((xs.filter p).map f) s := by
  induction xs with
  | nil => rfl
  | cons x xs ih =>
    obtain ⟨e, h1, h2, h3⟩ := h x List.mem_cons_self
    have i := ih fun y hy => h y (List.mem_cons_of_mem _ hy)
    rw [lcL, h1]
    cases hp : p x with
    | true =>
      rw [hp] at h2
      obtain ⟨r, h4, h5⟩ := h3 hp
      simp [h2, h4, h5, i, hp]
    | false =>
      rw [hp] at h2
      simp [h2, i, hp]
theorem boolsOf_map (p : D → Bool) : ∀ xs : List D, boolsOf (xs.map fun x => .bl (p x)) = some (xs.map p)
  | [] => rfl
  | x :: xs => by
    rw [List.map_cons, boolsOf, boolsOf_map p xs]
    rfl
theorem oAll_map (p : D → Bool) (xs : List D) : oAll (.lst (xs.map fun x => .bl (p x))) = some (.im (.bl (xs.all p))) := by
  show Option.map _ (boolsOf _) = _
  rw [boolsOf_map]
  simp
theorem cmp_gd {d : D} (h : d.gd = true) (hd : d.py.depth ≤ 64) : d.cmp = true := by
  unfold D.cmp SeqAt.shaped
  rw [gd_ok d h, gd_lay d h, decide_eq_true hd]
  rfl
theorem ones_gd : ∀ xs : List D, gdAll (xs.map fun _ => .int 1) = true
  | [] => rfl
  | x :: xs => by
    rw [List.map_cons, gdAll, ones_gd xs]
    simp [D.gd]
theorem ones_depth : ∀ xs : List D, PyData.depthAll (D.py.pyAll (xs.map fun _ => .int 1)) = 0
  | [] => rfl
  | x :: xs => by
    rw [List.map_cons, D.py.pyAll, PyData.depthAll, ones_depth xs]
    rfl
/-- [1 for .. if not p] == [] -/
theorem oEq_ones (p : D → Bool) (xs : List D) : oEq (.lst ((xs.filter fun x => !p x).map fun _ => .int 1)) (.lst []) = some (xs.all p) := by
  have c1 : (D.lst ((xs.filter fun x => !p x).map fun _ => .int 1)).cmp = true := cmp_gd (by simp only [D.gd]; exact ones_gd _) (by
    simp only [D.py, PyData.depth]
    rw [ones_depth]
    omega)
  unfold oEq
  rw [c1, show (D.lst []).cmp = true from rfl]
  simp only [Bool.and_self, if_true, D.py, PyData.eqv]
  congr 1
  induction xs with
  | nil => rfl
  | cons x xs ih =>
    by_cases h : p x = true
    · simp [h] at ih ⊢
      exact ih (cmp_gd (by simp only [D.gd]; exact ones_gd _) (by
        simp only [D.py, PyData.depth]
        rw [ones_depth]
        omega))
    · simp [h, D.py.pyAll, PyData.eqvAll]
theorem strEq {x y : Str} (h : PyData.strOk x = true) (k : PyData.strOk y = true) : oNe (.str x) (.str y) = some (!decide (x = y)) := by
  have c : ∀ {x : Str}, PyData.strOk x = true → (D.str x).cmp = true := fun {x} h => by
    unfold D.cmp SeqAt.shaped
    simp [D.ok, D.py, PyData.canLay0, PyData.depth, h]
  unfold oNe oEq
  rw [c h, c k]
  simp [D.py, PyData.eqv]
  rfl
end Ev
namespace Kit
open PySem Ev
variable {s : DS}
theorem is_whole_ok {d : D} (h : d.kn = true) : F_is_whole [d] s = .ok (.im (.bl (isWh d))) s := by
  cases d <;> first | (simp [D.kn] at h; done) | simp [F_is_whole, b_is_whole, isWh]
theorem L_is_whole_ok {d : D} (h : d.kn = true) : F_L_is_whole [d] s = .ok (.im (.bl (isWh d))) s := by
  cases d <;> first | (simp [D.kn] at h; done) | (simp [F_L_is_whole, b_L_is_whole, isWh]; done) | (rename_i b; cases b <;> simp [F_L_is_whole, b_L_is_whole, isWh])
theorem is_number_ok {d : D} (h : d.kn = true) : F_is_number [d] s = .ok (.im (.bl (isNum d))) s := by
  have nt : ∀ {d : D}, d.kn = true → (∀ xs, d ≠ .tup xs) → F_is_number [d] s = .ok (.im (.bl (isNum d))) s := fun {d} h n => by
    cases d <;> first | (simp [D.kn] at h; done) | exact absurd rfl (n _) | simp [F_is_number, b_is_number, isNum]
  by_cases q : ∀ xs, d ≠ .tup xs
  · exact nt h q
  · obtain ⟨xs, rfl⟩ : ∃ xs, d = .tup xs := by simpa using q
    obtain ⟨hl, hx⟩ := kn_tup h
    have l2 : xs.length ≤ 16777216 := by omega
    have lc : ∀ a, lcL (.nm 1) tYes (eCall F_is_whole (aCons (eV 1) aNil)) [a, .un] xs s = .ok (xs.map fun x => .bl (isWh x)) s := fun a => lcL_map fun x hx' => ⟨[a, .im x], _, rfl, by simp [is_whole_ok (hx x hx')]; rfl, rfl⟩
    by_cases h2 : xs.length = 2
    · obtain ⟨a, b, rfl⟩ : ∃ a b, xs = [a, b] := by
        match xs, h2 with
        | [a, b], _ => exact ⟨a, b, rfl⟩
      have ha := oAll_map isWh [a, b]
      have ka := hx a (by simp)
      have kb := hx b (by simp)
      cases wa : isWh a with
      | false =>
        have e : isNum (.tup [a, b]) = false := by
          cases a <;> first | rfl | (simp [isWh] at wa)
        rw [e]
        simp [F_is_number, b_is_number, l2, wipeOk, wipeE, Tgt.inn, sizeLine, lc]
        simp at ha
        rw [wa] at ha
        simp [wa, ha]
      | true =>
        cases wb : isWh b with
        | false =>
          have e : isNum (.tup [a, b]) = false := by
            cases a <;> cases b <;> first | rfl | (simp [isWh] at wb; done) | (simp [isWh] at wa)
          rw [e]
          simp [F_is_number, b_is_number, l2, wipeOk, wipeE, Tgt.inn, sizeLine, lc]
          simp at ha
          rw [wa, wb] at ha
          simp [wa, wb, ha]
        | true =>
          obtain ⟨i, rfl⟩ : ∃ i, a = .int i := by cases a <;> first | exact ⟨_, rfl⟩ | (simp [isWh] at wa)
          obtain ⟨j, rfl⟩ : ∃ i, b = .int i := by cases b <;> first | exact ⟨_, rfl⟩ | (simp [isWh] at wb)
          simp at ha
          simp only [isWh] at ha
          simp [F_is_number, b_is_number, l2, wipeOk, wipeE, Tgt.inn, sizeLine, lc, isWh, ha, idx0, idx1, isNum]
          by_cases hj : 0 < j
          · simp [hj]
            omega
          · simp [hj]
    · have e : isNum (.tup xs) = false := by
        unfold isNum
        split
        · rename_i z
          cases z
          exact absurd rfl h2
        · rfl
      rw [e]
      have h3 : ¬ (xs.length : Int) = 2 := by omega
      simp [F_is_number, b_is_number, h3]
end Kit

/-! KitR2: judgements of rules and rows: own work. -/
namespace Kit
open PySem Ev
variable {s : DS}
theorem L_is_number_ok {d : D} (h : d.kn = true) : F_L_is_number [d] s = .ok (.im (.bl (isNum d))) s := by
  by_cases q : ∀ xs, d ≠ .tup xs
  · cases d <;> first | (simp [D.kn] at h; done) | exact absurd rfl (q _) | simp [F_L_is_number, b_L_is_number, isNum]
  · obtain ⟨xs, rfl⟩ : ∃ xs, d = .tup xs := by simpa using q
    obtain ⟨hl, hx⟩ := kn_tup h
    by_cases h2 : xs.length = 2
    · obtain ⟨a, b, rfl⟩ : ∃ a b, xs = [a, b] := by
        match xs, h2 with
        | [a, b], _ => exact ⟨a, b, rfl⟩
      have ka := hx a (by simp)
      have kb := hx b (by simp)
      cases wa : isWh a with
      | false =>
        have e : isNum (.tup [a, b]) = false := by
          cases a <;> first | rfl | (simp [isWh] at wa)
        rw [e]
        simp [F_L_is_number, b_L_is_number, idx0, idx1, L_is_whole_ok ka, wa]
      | true =>
        cases wb : isWh b with
        | false =>
          have e : isNum (.tup [a, b]) = false := by
            cases a <;> cases b <;> first | rfl | (simp [isWh] at wb; done) | (simp [isWh] at wa)
          rw [e]
          simp [F_L_is_number, b_L_is_number, idx0, idx1, L_is_whole_ok ka, L_is_whole_ok kb, wa, wb]
        | true =>
          obtain ⟨i, rfl⟩ : ∃ i, a = .int i := by cases a <;> first | exact ⟨_, rfl⟩ | (simp [isWh] at wa)
          obtain ⟨j, rfl⟩ : ∃ i, b = .int i := by cases b <;> first | exact ⟨_, rfl⟩ | (simp [isWh] at wb)
          have bj : j.natAbs < 2 ^ 9000 := by
            simp only [D.kn, decide_eq_true_eq] at kb
            exact Nat.lt_trans kb (Nat.pow_lt_pow_right (by omega) (by omega))
          simp [F_L_is_number, b_L_is_number, idx0, idx1, L_is_whole_ok ka, L_is_whole_ok kb, isWh, isNum]
          by_cases hj : 0 < j
          · simp [hj, L_common_ok bj]
            omega
          · simp [hj]
    · have e : isNum (.tup xs) = false := by
        unfold isNum
        split
        · rename_i z
          cases z
          exact absurd rfl h2
        · rfl
      rw [e]
      have h3 : ¬ (xs.length : Int) = 2 := by omega
      simp [F_L_is_number, b_L_is_number, h3]
theorem are_numbers_ok {d : D} (h : d.kn = true) (n : Nat) : F_are_numbers [d, .int n] s = .ok (.im (.bl (isNums n d))) s := by
  by_cases q : ∀ xs, d ≠ .tup xs
  · cases d <;> first | (simp [D.kn] at h; done) | exact absurd rfl (q _) | simp [F_are_numbers, b_are_numbers, isNums]
  · obtain ⟨xs, rfl⟩ : ∃ xs, d = .tup xs := by simpa using q
    obtain ⟨hl, hx⟩ := kn_tup h
    have l2 : xs.length ≤ 16777216 := by omega
    have lc : ∀ a b, lcL (.nm 2) tYes (eCall F_is_number (aCons (eV 2) aNil)) [a, b, .un] xs s = .ok (xs.map fun x => .bl (isNum x)) s := fun a b => lcL_map fun x hx' => ⟨[a, b, .im x], _, rfl, by simp [is_number_ok (hx x hx')]; rfl, rfl⟩
    by_cases hn : n < xs.length
    · have : ¬ xs.length ≤ n := by omega
      simp [F_are_numbers, b_are_numbers, hn, isNums, this]
    · have : xs.length ≤ n := by omega
      simp [F_are_numbers, b_are_numbers, hn, isNums, this, l2, wipeOk, wipeE, Tgt.inn, sizeLine, lc, oAll_map]
theorem is_rule_ok {d : D} (h : d.kn = true) : F_is_rule [d] s = .ok (.im (.bl (isNums 24 d))) s := by
  have z := @are_numbers_ok s d h 24
  simp [F_is_rule, b_is_rule, c_MOST_ORDER]
  simp at z
  simp [z]
theorem L_is_rule_ok {d : D} (h : d.kn = true) : F_L_is_rule [d] s = .ok (.im (.bl (isNums 24 d))) s := by
  by_cases q : ∀ xs, d ≠ .tup xs
  · cases d <;> first | (simp [D.kn] at h; done) | exact absurd rfl (q _) | simp [F_L_is_rule, b_L_is_rule, isNums]
  · obtain ⟨xs, rfl⟩ : ∃ xs, d = .tup xs := by simpa using q
    obtain ⟨hl, hx⟩ := kn_tup h
    have l2 : xs.length ≤ 16777216 := by omega
    have lc : ∀ a, lcL (.nm 1) (tNot (tVal (pE (eCall F_L_is_number (aCons (eV 1) aNil))))) (eC (.int 1)) [a, .un] xs s = .ok ((xs.filter fun x => !isNum x).map fun _ => .int 1) s := fun a => lcL_filter fun x hx' => ⟨[a, .im x], rfl, by simp [L_is_number_ok (hx x hx')], fun _ => ⟨_, rfl, rfl⟩⟩
    by_cases hn : xs.length ≤ 24
    · have : (xs.length : Int) ≤ 24 := by omega
      simp [F_L_is_rule, b_L_is_rule, hn, isNums, this, l2, wipeOk, wipeE, Tgt.inn, sizeLine, lc, oEq_ones]
    · have : ¬ (xs.length : Int) ≤ 24 := by omega
      simp [F_L_is_rule, b_L_is_rule, hn, isNums, this]
theorem idx3 (a b c : D) : oIdx (.tup [a, b, c]) (.int 0) = some a ∧ oIdx (.tup [a, b, c]) (.int 1) = some b ∧ oIdx (.tup [a, b, c]) (.int 2) = some c := ⟨oIdx_t (k := 0) rfl, oIdx_t (k := 1) rfl, oIdx_t (k := 2) rfl⟩
theorem nums_len {n : Nat} {d : D} (h : isNums n d = true) : ∃ xs, d = .tup xs := by
  cases d <;> first | exact ⟨_, rfl⟩ | (simp [isNums] at h)
theorem is_row_ok {d : D} (h : d.kn = true) : F_is_row [d] s = .ok (.im (.bl (isRow d))) s := by
  by_cases q : ∀ xs, d ≠ .tup xs
  · cases d <;> first | (simp [D.kn] at h; done) | exact absurd rfl (q _) | simp [F_is_row, b_is_row, isRow]
  · obtain ⟨xs, rfl⟩ : ∃ xs, d = .tup xs := by simpa using q
    obtain ⟨hl, hx⟩ := kn_tup h
    by_cases h3 : xs.length = 3
    · obtain ⟨a, b, c, rfl⟩ : ∃ a b c, xs = [a, b, c] := by
        match xs, h3 with
        | [a, b, c], _ => exact ⟨a, b, c, rfl⟩
      obtain ⟨i0, i1, i2⟩ := idx3 a b c
      have ka := hx a (by simp)
      have kb := hx b (by simp)
      have kc := hx c (by simp)
      by_cases qa : ∀ x, a ≠ .str x
      · have e : isRow (.tup [a, b, c]) = false := by
          cases a <;> first | rfl | exact absurd rfl (qa _)
        rw [e]
        cases a <;> first | (simp [D.kn] at ka; done) | exact absurd rfl (qa _) | simp [F_is_row, b_is_row, i0]
      · obtain ⟨x, rfl⟩ : ∃ x, a = .str x := by simpa using qa
        simp only [D.kn] at ka
        have ne := strEq ka (y := "row") (strOk_of _)
        have r1 := @is_rule_ok s b kb
        have r2 := @are_numbers_ok s c kc 24
        by_cases hx : x = "row"
        · simp only [hx] at ne i0 i1 i2
          simp at ne r2
          simp [F_is_row, b_is_row, i0, i1, i2, hx, ne, r1, r2, c_MOST_ORDER, isRow]
          cases v1 : isNums 24 b with
          | false => simp
          | true =>
            cases v2 : isNums 24 c with
            | false => simp
            | true =>
              obtain ⟨ys, rfl⟩ := nums_len v1
              obtain ⟨zs, rfl⟩ := nums_len v2
              simp [lenT]
              exact decide_eq_decide.mpr ⟨fun h => by omega, fun h => by omega⟩
        · simp [hx] at ne
          simp [F_is_row, b_is_row, i0, ne, isRow, hx]
    · have e : isRow (.tup xs) = false := by
        unfold isRow
        split
        · rename_i z
          cases z
          exact absurd rfl h3
        · rfl
      rw [e]
      have h4 : ¬ (xs.length : Int) = 3 := by omega
      simp [F_is_row, b_is_row, h4]
theorem L_is_row_ok {d : D} (h : d.kn = true) : F_L_is_row [d] s = .ok (.im (.bl (isRow d))) s := by
  by_cases q : ∀ xs, d ≠ .tup xs
  · cases d <;> first | (simp [D.kn] at h; done) | exact absurd rfl (q _) | simp [F_L_is_row, b_L_is_row, isRow]
  · obtain ⟨xs, rfl⟩ : ∃ xs, d = .tup xs := by simpa using q
    obtain ⟨hl, hx⟩ := kn_tup h
    by_cases h3 : xs.length = 3
    · obtain ⟨a, b, c, rfl⟩ : ∃ a b c, xs = [a, b, c] := by
        match xs, h3 with
        | [a, b, c], _ => exact ⟨a, b, c, rfl⟩
      obtain ⟨i0, i1, i2⟩ := idx3 a b c
      have ka := hx a (by simp)
      have kb := hx b (by simp)
      have kc := hx c (by simp)
      by_cases qa : ∀ x, a ≠ .str x
      · have e : isRow (.tup [a, b, c]) = false := by
          cases a <;> first | rfl | exact absurd rfl (qa _)
        rw [e]
        cases a <;> first | (simp [D.kn] at ka; done) | exact absurd rfl (qa _) | simp [F_L_is_row, b_L_is_row, i0]
      · obtain ⟨x, rfl⟩ : ∃ x, a = .str x := by simpa using qa
        simp only [D.kn] at ka
        have ne := strEq ka (y := "row") (strOk_of _)
        have r1 := @L_is_rule_ok s b kb
        have r2 := @L_is_rule_ok s c kc
        by_cases hx : x = "row"
        · simp only [hx] at ne i0 i1 i2
          simp at ne
          simp [F_L_is_row, b_L_is_row, i0, i1, i2, hx, ne, r1, r2, isRow]
          cases v1 : isNums 24 b with
          | false => simp
          | true =>
            cases v2 : isNums 24 c with
            | false => simp
            | true =>
              obtain ⟨ys, rfl⟩ := nums_len v1
              obtain ⟨zs, rfl⟩ := nums_len v2
              simp [lenT]
              exact decide_eq_decide.mpr ⟨fun h => by omega, fun h => by omega⟩
        · simp [hx] at ne
          simp [F_L_is_row, b_L_is_row, i0, ne, isRow, hx]
    · have e : isRow (.tup xs) = false := by
        unfold isRow
        split
        · rename_i z
          cases z
          exact absurd rfl h3
        · rfl
      rw [e]
      have h4 : ¬ (xs.length : Int) = 3 := by omega
      simp [F_L_is_row, b_L_is_row, h4]
theorem L_says_ok (a : Bool) : F_L_says [.bl a, .bl a] s = .ok (.im (.bl true)) s := by
  cases a <;> simp [F_L_says, b_L_says]
theorem need_row_ok {d : D} (h : d.kn = true) : F_need_row [d] s = if isRow d then .ok (.im .non) s else .exc "NoRow" .non s := by
  cases v : isRow d <;> simp [F_need_row, b_need_row, is_row_ok h, v]
/-- a place from 0 to m -/
def isPl (m : Int) : D → Bool
  | .int i => decide (0 ≤ i) && decide (i ≤ m)
  | _ => false
theorem is_below_ok {d : D} (h : d.kn = true) (m : Int) : F_is_below [d, .int (m + 1)] s = .ok (.im (.bl (isPl m d))) s := by
  have z := @is_whole_ok s d h
  by_cases q : ∀ i, d ≠ .int i
  · have w : isWh d = false := by cases d <;> first | rfl | exact absurd rfl (q _)
    have e : isPl m d = false := by cases d <;> first | rfl | exact absurd rfl (q _)
    simp [F_is_below, b_is_below, z, w, e]
  · obtain ⟨i, rfl⟩ : ∃ i, d = .int i := by simpa using q
    simp [F_is_below, b_is_below, z, isWh, isPl]
    by_cases h0 : 0 ≤ i
    · simp [h0]
      omega
    · simp [h0]
theorem need_many_ok {d : D} (h : d.kn = true) (m : Int) : F_need_many [d, .int m] s = if isPl m d then .ok (.im .non) s else .exc "NoPlace" .non s := by
  have z := @is_below_ok s d h m
  cases v : isPl m d <;> simp [F_need_many, b_need_many, z, v]
theorem L_is_place_ok {d : D} (h : d.kn = true) : F_L_is_place [d] s = .ok (.im (.bl (isPl 400 d))) s := by
  have z := @L_is_whole_ok s d h
  by_cases q : ∀ i, d ≠ .int i
  · have w : isWh d = false := by cases d <;> first | rfl | exact absurd rfl (q _)
    have e : isPl 400 d = false := by cases d <;> first | rfl | exact absurd rfl (q _)
    simp [F_L_is_place, b_L_is_place, z, w, e]
  · obtain ⟨i, rfl⟩ : ∃ i, d = .int i := by simpa using q
    simp [F_L_is_place, b_L_is_place, z, isWh, isPl]
    by_cases h0 : 0 ≤ i
    · simp [h0]
    · simp [h0]
end Kit

/-! KitE: rows by rules: own work. -/
namespace Ev
open PySem
/-! ### how great fractions become -/
/-- 6 ^ k times q is a whole number of at most M -/
def HB (k M : Nat) (q : Rat) : Prop := ∃ n : Int, q.num * (6 ^ k : Nat) = n * q.den ∧ n.natAbs ≤ M
theorem HB.rat {k M : Nat} {q : Rat} : HB k M q ↔ ∃ n : Int, q * ((6 ^ k : Nat) : Rat) = (n : Rat) ∧ n.natAbs ≤ M := by
  have e : ∀ n : Int, q.num * (6 ^ k : Nat) = n * q.den ↔ q * ((6 ^ k : Nat) : Rat) = (n : Rat) := fun n => by
    have h1 : q * ((6 ^ k : Nat) : Rat) = Rat.divInt (q.num * (6 ^ k : Nat)) q.den := by
      have h : Rat.divInt q.num q.den * Rat.divInt ((6 ^ k : Nat) : Int) 1 = Rat.divInt (q.num * (6 ^ k : Nat)) ((q.den : Int) * 1) := Rat.divInt_mul_divInt _ _
      rw [Rat.num_divInt_den, Int.mul_one] at h
      rw [← h]
      congr 1
      rw [Rat.divInt_eq_div, Rat.intCast_natCast]
      grind
    have h2 : (n : Rat) = Rat.divInt n 1 := by
      rw [Rat.divInt_eq_div]
      grind
    rw [h1, h2, Rat.divInt_eq_divInt_iff (Kit.den_ne q) (by decide), Int.mul_one]
  constructor
  · rintro ⟨n, h, l⟩
    exact ⟨n, (e n).mp h, l⟩
  · rintro ⟨n, h, l⟩
    exact ⟨n, (e n).mpr h, l⟩
theorem HB.mono {k M N : Nat} {q : Rat} (h : HB k M q) (l : M ≤ N) : HB k N q := let ⟨n, a, b⟩ := h; ⟨n, a, by omega⟩
theorem HB.zero {k M : Nat} : HB k M 0 := ⟨0, by simp, by simp⟩
theorem HB.add {k M N : Nat} {p q : Rat} (h : HB k M p) (g : HB k N q) : HB k (M + N) (p + q) := by
  obtain ⟨n, a, b⟩ := HB.rat.mp h
  obtain ⟨m, c, d⟩ := HB.rat.mp g
  refine HB.rat.mpr ⟨n + m, ?_, by omega⟩
  rw [Rat.intCast_add, ← a, ← c]
  grind
theorem HB.lift {k M : Nat} {q : Rat} (h : HB k M q) : HB (k + 1) (6 * M) q := by
  obtain ⟨n, a, b⟩ := HB.rat.mp h
  refine HB.rat.mpr ⟨6 * n, ?_, by omega⟩
  rw [Rat.intCast_mul, ← a, Nat.pow_succ, Rat.natCast_mul]
  grind
theorem HB.mul {k M A : Nat} {c q : Rat} (h : HB 1 A c) (g : HB k M q) : HB (k + 1) (A * M) (c * q) := by
  obtain ⟨n, a, b⟩ := HB.rat.mp h
  obtain ⟨m, c, d⟩ := HB.rat.mp g
  refine HB.rat.mpr ⟨n * m, ?_, ?_⟩
  · rw [Rat.intCast_mul, ← a, ← c, Nat.pow_succ, Rat.natCast_mul]
    grind
  · rw [Int.natAbs_mul]
    exact Nat.mul_le_mul b d
theorem HB.sz {k M n : Nat} {q : Rat} (h : HB k M q) (h1 : M < 2 ^ n) (h2 : 6 ^ k < 2 ^ n) : Sz n q := by
  obtain ⟨m, a, b⟩ := h
  have p6 : 0 < 6 ^ k := Nat.pow_pos (by omega)
  have e : q.num.natAbs * 6 ^ k = m.natAbs * q.den := by
    have z := congrArg Int.natAbs a
    rw [Int.natAbs_mul, Int.natAbs_mul, Int.natAbs_natCast, Int.natAbs_natCast] at z
    exact z
  have c : Nat.Coprime q.num.natAbs q.den := q.reduced
  have d : q.den ∣ 6 ^ k := by
    have d1 : q.den ∣ q.num.natAbs * 6 ^ k := ⟨m.natAbs, by rw [e, Nat.mul_comm]⟩
    exact Nat.Coprime.dvd_of_dvd_mul_left c.symm d1
  have dl : q.den ≤ 6 ^ k := Nat.le_of_dvd p6 d
  refine ⟨?_, by omega⟩
  have l : q.num.natAbs ≤ m.natAbs := by
    refine Nat.le_of_mul_le_mul_right (c := 6 ^ k) ?_ p6
    rw [e]
    exact Nat.mul_le_mul_left _ dl
  omega
/-! ### the step of a rule -/
def dot : List Rat → List Rat → Rat → Rat
  | c :: cs, x :: xs, acc => dot cs xs (acc + c * x)
  | _, _, acc => acc
def stepR (rule found : List Rat) : Rat := dot rule found.reverse 0
def extR (rule : List Rat) : List Rat → Nat → List Rat
  | found, 0 => found
  | found, k + 1 => extR rule (found ++ [stepR rule found]) k
theorem dot_hb {k A M : Nat} : ∀ (cs xs : List Rat) (B : Nat) (acc : Rat), (∀ c ∈ cs, HB 1 A c) → (∀ x ∈ xs, HB k M x) → HB (k + 1) B acc → HB (k + 1) (B + A * M * cs.length) (dot cs xs acc)
  | [], xs, B, acc, _, _, h => by
    unfold dot
    exact h.mono (by simp)
  | c :: cs, [], B, acc, _, _, h => by
    unfold dot
    exact h.mono (Nat.le_add_right _ _)
  | c :: cs, x :: xs, B, acc, hc, hx, h => by
    unfold dot
    have z := dot_hb cs xs (B + A * M) (acc + c * x) (fun d hd => hc d (List.mem_cons_of_mem _ hd)) (fun d hd => hx d (List.mem_cons_of_mem _ hd)) (h.add (HB.mul (hc c List.mem_cons_self) (hx x List.mem_cons_self)))
    refine z.mono ?_
    rw [List.length_cons, Nat.mul_add, Nat.mul_one]
    omega
/-- each is 6 ^ (p + 1) parts of W p at most -/
def W (p : Nat) : Nat := 18 * 2000 ^ p
def Lv (p : Nat) (found : List Rat) : Prop := found.length = p ∧ ∀ x ∈ found, HB (p + 1) (W p) x
theorem Lv.step {p : Nat} {rule found : List Rat} (h : Lv p found) (hr : ∀ c ∈ rule, HB 1 12 c) (hl : rule.length ≤ 24) : Lv (p + 1) (found ++ [stepR rule found]) := by
  have e : W (p + 1) = 2000 * W p := by
    unfold W
    rw [Nat.pow_succ]
    omega
  refine ⟨by rw [List.length_append, h.1]; rfl, fun x hx => ?_⟩
  rcases List.mem_append.mp hx with hx | hx
  · exact (h.2 x hx).lift.mono (by omega)
  · rw [List.mem_singleton.mp hx]
    have z := dot_hb (k := p + 1) (A := 12) (M := W p) rule found.reverse 0 0 hr (fun y hy => h.2 y (List.mem_reverse.mp hy)) HB.zero
    refine z.mono ?_
    have : 12 * W p * rule.length ≤ 12 * W p * 24 := Nat.mul_le_mul_left _ hl
    omega
end Ev

/-! KitE2: rows by rules, as the program and the laws work them out: own work. -/
namespace Ev
open PySem
theorem cmp_lay {d : D} (h1 : d.ok = true) (h2 : d.py.canLay0 = true) (h3 : d.py.depth ≤ 64) : d.cmp = true := by
  unfold D.cmp SeqAt.shaped
  rw [h1, h2, decide_eq_true h3]
  rfl
theorem qD_cmp (q : Rat) : (qD q).cmp = true := cmp_lay rfl rfl (by show 1 ≤ 64; decide)
theorem qD_zero : qD 0 = .tup [.int 0, .int 1] := rfl
theorem oNe_zero (q : Rat) : oNe (qD q) (.tup [.int 0, .int 1]) = some (!decide (q = 0)) := by
  unfold oNe oEq
  rw [qD_cmp, ← qD_zero, qD_cmp]
  show some (!(PyData.eqv (qD q).py (qD 0).py)) = _
  congr 2
  simp only [qD, D.py, D.py.pyAll, PyData.eqv, PyData.eqvAll, Bool.and_true]
  have e : q = 0 ↔ q.num = (0 : Rat).num ∧ (q.den : Int) = ((0 : Rat).den : Int) := by
    constructor
    · intro h
      rw [h]
      exact ⟨rfl, rfl⟩
    · rintro ⟨h, g⟩
      exact Rat.ext h (by omega)
  show (decide (q.num = 0) && decide ((q.den : Int) = 1)) = decide (q = 0)
  rw [← Bool.decide_and]
  exact (decide_eq_decide.mpr e).symm
theorem enum_cons (i : Nat) (x : D) (xs : List D) : ((x :: xs).zipIdx i).map (fun p => D.tup [.int p.2, p.1]) = .tup [.int i, x] :: (xs.zipIdx (i + 1)).map (fun p => D.tup [.int p.2, p.1]) := rfl
end Ev
namespace Kit
open PySem Ev
variable {s : DS}
/-- the bounds under which a step is worked out -/
structure Bd (k A M B : Nat) (n : Nat) : Prop where
  a : A < 2 ^ 4000
  m : M < 2 ^ 4000
  b : B + A * M * n < 2 ^ 4000
  k : 6 ^ (k + 1) < 2 ^ 4000
theorem Bd.next {k A M B n : Nat} (h : Bd k A M B (n + 1)) : Bd k A M (B + A * M) n := ⟨h.a, h.m, by
  have := h.b
  rw [Nat.mul_add, Nat.mul_one] at this
  omega, h.k⟩
theorem Bd.six {k A M B n : Nat} (h : Bd k A M B n) : 6 ^ k < 2 ^ 4000 := Nat.lt_of_le_of_lt (Nat.pow_le_pow_right (by omega) (by omega)) h.k
theorem Bd.sizes {k A M B n : Nat} {c x acc : Rat} (h : Bd k A M B (n + 1)) (hc : HB 1 A c) (hx : HB k M x) (ha : HB (k + 1) B acc) : Sz 4000 c ∧ Sz 4000 x ∧ Sz 4000 acc ∧ Sz 4000 (c * x) := by
  have e := h.b
  rw [Nat.mul_add, Nat.mul_one] at e
  refine ⟨hc.sz h.a (by decide), hx.sz h.m h.six, ha.sz (by omega) h.k, (HB.mul hc hx).sz (by omega) h.k⟩
/-- the loop of a step -/
theorem step_loop {found : List Rat} {k A M : Nat} (hx : ∀ x ∈ found, HB k M x) (r : Slot) : ∀ (cs : List Rat) (i B : Nat) (acc : Rat) (x3 x4 : Slot), i + cs.length ≤ found.length → (∀ c ∈ cs, HB 1 A c) → HB (k + 1) B acc → Bd k A M B cs.length →
    ∃ y3 y4 : Slot, forL (.tp [(.nm 3), (.nm 4)]) (sIf (tCmp oNe (pV 4) (pE (eC c_ZERO))) (sSet 2 (eCall F_plus (aCons (eV 2) (aCons (eCall F_times (aCons (eV 4) (aCons (eIdx (pV 1) (pE (e2 oSub (pE (e2 oSub (pE (e1 oLenR (pV 1))) (pE (eC (.int 1))))) (pV 3)))) aNil))) aNil)))) sNil) (((cs.map qD).zipIdx i).map (fun p => D.tup [.int p.2, p.1]))
      [r, .im (.lst (found.map qD)), .im (qD acc), x3, x4] s = .nx [r, .im (.lst (found.map qD)), .im (qD (dot cs (found.reverse.drop i) acc)), y3, y4] s
  | [], i, B, acc, x3, x4, _, _, _, _ => ⟨x3, x4, by simp [forL, dot]⟩
  | c :: cs, i, B, acc, x3, x4, hl, hc, ha, hb => by
    rw [List.length_cons] at hl
    have li : i < found.length := by omega
    obtain ⟨x, hd, hm, ix⟩ : ∃ x, found.reverse.drop i = x :: found.reverse.drop (i + 1) ∧ x ∈ found ∧ oIdx (.lst (found.map qD)) (.int ((found.length : Int) - 1 - i)) = some (qD x) := by
      refine ⟨found.reverse[i]'(by rw [List.length_reverse]; exact li), List.drop_eq_getElem_cons _, List.mem_reverse.mp (List.getElem_mem _), ?_⟩
      have e : ((found.length : Int) - 1 - i) = ((found.length - 1 - i : Nat) : Int) := by omega
      rw [e]
      refine oIdx_l ?_
      rw [List.getElem_reverse, List.getElem?_map, List.getElem?_eq_getElem (by omega)]
      rfl
    obtain ⟨s1, s2, s3, s4⟩ := hb.sizes (hc c List.mem_cons_self) (hx _ hm) ha
    obtain ⟨y3, y4, e⟩ := step_loop hx r cs (i + 1) (B + A * M) (acc + c * x) (.im (.int i)) (.im (qD c)) (by omega) (fun d hd => hc d (List.mem_cons_of_mem _ hd)) (ha.add (HB.mul (hc c List.mem_cons_self) (hx _ hm))) hb.next
    refine ⟨y3, y4, ?_⟩
    rw [List.map_cons, enum_cons, forL]
    have t := @times_ok s _ _ s1 s2
    have p := @plus_ok s _ _ s3 s4
    have q0 : oNe (qD c) c_ZERO = some (!decide (c = 0)) := @oNe_zero c
    rw [hd, dot]
    by_cases z : c = 0
    · simp [z] at q0
      simp [z, Rat.add_zero] at e
      simp [Tgt.put, Tgt.puts, z, q0, Rat.add_zero, e]
    · simp [z] at q0
      simp [Tgt.put, Tgt.puts, q0, ix, t, p, e]
theorem stepped_ok {rule found : List Rat} {k A M : Nat} (hx : ∀ x ∈ found, HB k M x) (hc : ∀ c ∈ rule, HB 1 A c) (hl : rule.length ≤ found.length) (hb : Bd k A M 0 rule.length) : F_stepped [.tup (rule.map qD), .lst (found.map qD)] s = .ok (.im (qD (stepR rule found))) s := by
  obtain ⟨y3, y4, e⟩ := @step_loop s found k A M hx (.im (.tup (rule.map qD))) rule 0 0 0 .un .un (by omega) hc HB.zero hb
  rw [List.drop_zero] at e
  unfold F_stepped b_stepped
  rw [fnOf_def, if_pos (by rfl)]
  have e' : forL (.tp [(.nm 3), (.nm 4)]) (sIf (tCmp oNe (pV 4) (pE (eC c_ZERO))) (sSet 2 (eCall F_plus (aCons (eV 2) (aCons (eCall F_times (aCons (eV 4) (aCons (eIdx (pV 1) (pE (e2 oSub (pE (e2 oSub (pE (e1 oLenR (pV 1))) (pE (eC (.int 1))))) (pV 3)))) aNil))) aNil)))) sNil) (enumD (rule.map qD)) [.im (.tup (rule.map qD)), .im (.lst (found.map qD)), .im c_ZERO, .un, .un] s = .nx [.im (.tup (rule.map qD)), .im (.lst (found.map qD)), .im (qD (dot rule found.reverse 0)), y3, y4] s := e
  simp [e', stepR]
/-! ### rows, place by place -/
theorem W_lt {p : Nat} (h : p ≤ 100) : W p < 2 ^ 1200 := by
  unfold W
  have : 2000 ^ p ≤ 2000 ^ 100 := Nat.pow_le_pow_right (by omega) h
  have z : 18 * 2000 ^ 100 < 2 ^ 1200 := by decide
  omega
theorem six_lt {p : Nat} (h : p ≤ 110) : 6 ^ p < 2 ^ 1200 := by
  have : 6 ^ p ≤ 6 ^ 110 := Nat.pow_le_pow_right (by omega) h
  have z : 6 ^ 110 < 2 ^ 1200 := by decide
  omega
theorem bd_of {p n : Nat} (hp : p ≤ 100) (hn : n ≤ 24) : Bd (p + 1) 12 (W p) 0 n := by
  have w := W_lt hp
  have x := six_lt (p := p + 1 + 1) (by omega)
  have up : (2 : Nat) ^ 1200 * 300 < 2 ^ 4000 := by decide
  have m : 12 * W p * n ≤ 12 * W p * 24 := Nat.mul_le_mul_left _ hn
  exact ⟨by decide, by omega, by omega, by omega⟩
structure Rule (rule : List Rat) : Prop where
  num : ∀ c ∈ rule, HB 1 12 c
  len : rule.length ≤ 24
theorem step_of {rule found : List Rat} {p : Nat} (r : Rule rule) (h : Lv p found) (hl : rule.length ≤ p) (hp : p ≤ 100) : F_stepped [.tup (rule.map qD), .lst (found.map qD)] s = .ok (.im (qD (stepR rule found))) s :=
  stepped_ok h.2 r.num (by rw [h.1]; exact hl) (bd_of hp r.len)
theorem extR_len {rule : List Rat} : ∀ (k : Nat) (found : List Rat), (extR rule found k).length = found.length + k
  | 0, found => rfl
  | k + 1, found => by
    rw [extR, extR_len k, List.length_append]
    simp
    omega
theorem Lv.ext {rule : List Rat} (r : Rule rule) : ∀ (k p : Nat) (found : List Rat), Lv p found → Lv (p + k) (extR rule found k)
  | 0, p, found, h => h
  | k + 1, p, found, h => by
    rw [extR, show p + (k + 1) = p + 1 + k by omega]
    exact Lv.ext r k (p + 1) _ (h.step r.num r.len)
theorem ext_loop {rule : List Rat} (r : Rule rule) (f1 : Slot) (m : Slot) : ∀ (ps : List D) (found : List Rat) (p : Nat) (x4 : Slot), Lv p found → rule.length ≤ p → p + ps.length ≤ 100 →
    ∃ y4, forL (.nm 4) (sApp 3 (eCallB F_stepped (bCons (pV 0) (bCons (pV 3) aNil)))) ps [.im (.tup (rule.map qD)), f1, m, .mu (found.map qD), x4] s = .nx [.im (.tup (rule.map qD)), f1, m, .mu ((extR rule found ps.length).map qD), y4] s
  | [], found, p, x4, _, _, _ => ⟨x4, rfl⟩
  | q :: ps, found, p, x4, h, hl, hp => by
    rw [List.length_cons] at hp
    obtain ⟨y4, e⟩ := ext_loop r f1 m ps (found ++ [stepR rule found]) (p + 1) (.im q) (h.step r.num r.len) (by omega) (by omega)
    refine ⟨y4, ?_⟩
    have st := @step_of s rule found p r h hl (by omega)
    have l : found.length < 16777216 := by rw [h.1]; omega
    have fl : (RV.im (qD (stepR rule found))).flat = true := rfl
    rw [forL, List.length_cons, extR]
    rw [List.map_append, List.map_singleton] at e
    simp [Tgt.put, st, fl, sizeLine, l, e]
theorem cut_take {α : Type} (xs : List α) (m : Nat) : cutD xs none (some (m : Int)) = xs.take m := by
  unfold Ev.cutD
  rw [HT.sIx_none, HT.sIx_nat, List.drop_zero]
  by_cases h : m ≤ xs.length
  · rw [Nat.min_eq_left h, Nat.sub_zero]
  · rw [Nat.min_eq_right (by omega), Nat.sub_zero, List.take_of_length_le (by omega), List.take_of_length_le (by omega)]
/-- the first many of a row -/
def lineR (rule first : List Rat) (many : Nat) : List Rat := extR rule (first.take many) (many - first.length)
theorem lineR_len {rule first : List Rat} {many : Nat} : (lineR rule first many).length = many := by
  unfold lineR
  rw [extR_len, List.length_take]
  omega
theorem Lv.start {rule first : List Rat} {p : Nat} (h : Lv p first) (m : Nat) : (first.take m).length = min m p := by rw [List.length_take, h.1]
theorem extended_ok {rule first : List Rat} (r : Rule rule) {p many : Nat} (h : Lv p first) (hl : rule.length = p) (hm : many ≤ 100) : F_extended [.tup (rule.map qD), .tup (first.map qD), .int many] s = .ok (.mu ((lineR rule first many).map qD)) s := by
  unfold F_extended b_extended
  rw [fnOf_def, if_pos (by rfl)]
  have ct : cutD (first.map qD) none (some (many : Int)) = (first.take many).map qD := by rw [cut_take, List.map_take]
  by_cases hp : p ≤ many
  · have t : first.take many = first := List.take_of_length_le (by rw [h.1]; exact hp)
    obtain ⟨y4, e⟩ := @ext_loop s rule r (.im (.tup (first.map qD))) (.im (.int many)) (rangeD p (many - p)) first p .un h (by omega) (by unfold rangeD; rw [List.length_map, List.length_range]; omega)
    rw [show (rangeD p (many - p)).length = many - p by unfold rangeD; rw [List.length_map, List.length_range]] at e
    have hr : ((many : Int) - p).toNat = many - p := by omega
    have c1 : (many : Int) - p ≤ 16777216 := by omega
    have c2 : (p : Int) < 4611686018427387904 := by omega
    have c3 : (many : Int) < 4611686018427387904 := by omega
    have c4 : -4611686018427387904 ≤ (p : Int) := by omega
    have c5 : -4611686018427387904 ≤ (many : Int) := by omega
    simp [oSlice, ct, t, iRange2, h.1, hr, sizeLine, c1, c2, c3, c4, c5, e, lineR]
  · have t : (first.take many).length = many := by rw [List.length_take, h.1]; omega
    have tm : min many first.length = many := by rw [h.1]; omega
    have c3 : (many : Int) < 4611686018427387904 := by omega
    have c5 : -4611686018427387904 ≤ (many : Int) := by omega
    have z : many - first.length = 0 := by rw [h.1]; omega
    simp [oSlice, ct, iRange2, tm, sizeLine, c3, c5, rangeD, forL, lineR, z, extR]
end Kit

/-! KitF: the laws' own rows, drawn numbers: own work. -/
namespace Kit
open PySem Ev
variable {s : DS}
theorem ruled_loop {found : List Rat} {k A M : Nat} (hx : ∀ x ∈ found, HB k M x) (r f m : Slot) : ∀ (cs : List Rat) (i B : Nat) (acc : Rat) (x3 x4 : Slot), i + cs.length ≤ found.length → (∀ c ∈ cs, HB 1 A c) → HB (k + 1) B acc → Bd k A M B cs.length →
    ∃ y3 y4 : Slot, forL (.tp [(.nm 5), (.nm 6)]) (sSet 4 (eCall F_L_plus (aCons (eV 4) (aCons (eCall F_L_times (aCons (eV 6) (aCons (eIdx (pV 3) (pE (e2 oSub (pE (e2 oSub (pE (e1 oLenR (pV 3))) (pE (eC (.int 1))))) (pV 5)))) aNil))) aNil)))) (((cs.map qD).zipIdx i).map (fun p => D.tup [.int p.2, p.1]))
      [r, f, m, .mu (found.map qD), .im (qD acc), x3, x4] s = .nx [r, f, m, .mu (found.map qD), .im (qD (dot cs (found.reverse.drop i) acc)), y3, y4] s
  | [], i, B, acc, x3, x4, _, _, _, _ => ⟨x3, x4, by simp [forL, dot]⟩
  | c :: cs, i, B, acc, x3, x4, hl, hc, ha, hb => by
    rw [List.length_cons] at hl
    have li : i < found.length := by omega
    obtain ⟨x, hd, hm, ix⟩ : ∃ x, found.reverse.drop i = x :: found.reverse.drop (i + 1) ∧ x ∈ found ∧ oIdx (.lst (found.map qD)) (.int ((found.length : Int) - 1 - i)) = some (qD x) := by
      refine ⟨found.reverse[i]'(by rw [List.length_reverse]; exact li), List.drop_eq_getElem_cons _, List.mem_reverse.mp (List.getElem_mem _), ?_⟩
      have e : ((found.length : Int) - 1 - i) = ((found.length - 1 - i : Nat) : Int) := by omega
      rw [e]
      refine oIdx_l ?_
      rw [List.getElem_reverse, List.getElem?_map, List.getElem?_eq_getElem (by omega)]
      rfl
    obtain ⟨s1, s2, s3, s4⟩ := hb.sizes (hc c List.mem_cons_self) (hx _ hm) ha
    obtain ⟨y3, y4, e⟩ := ruled_loop hx r f m cs (i + 1) (B + A * M) (acc + c * x) (.im (.int i)) (.im (qD c)) (by omega) (fun d hd => hc d (List.mem_cons_of_mem _ hd)) (ha.add (HB.mul (hc c List.mem_cons_self) (hx _ hm))) hb.next
    refine ⟨y3, y4, ?_⟩
    rw [List.map_cons, enum_cons, forL]
    have t := @L_times_ok s _ _ s1 s2
    have p := @L_plus_ok s _ _ s3 s4
    rw [hd, dot]
    simp [Tgt.put, Tgt.puts, ix, t, p, e]
theorem ruled_step {rule found : List Rat} {p : Nat} (r : Rule rule) (h : Lv p found) (hl : rule.length ≤ p) (hp : p ≤ 100) (a f m x3 x4 : Slot) : ∃ y3 y4 : Slot, forL (.tp [(.nm 5), (.nm 6)]) (sSet 4 (eCall F_L_plus (aCons (eV 4) (aCons (eCall F_L_times (aCons (eV 6) (aCons (eIdx (pV 3) (pE (e2 oSub (pE (e2 oSub (pE (e1 oLenR (pV 3))) (pE (eC (.int 1))))) (pV 5)))) aNil))) aNil)))) (enumD (rule.map qD))
      [a, f, m, .mu (found.map qD), .im (.tup [.int 0, .int 1]), x3, x4] s = .nx [a, f, m, .mu (found.map qD), .im (qD (stepR rule found)), y3, y4] s := by
  obtain ⟨y3, y4, e⟩ := @ruled_loop s found (p + 1) 12 (W p) h.2 a f m rule 0 0 0 x3 x4 (by rw [h.1]; omega) r.num HB.zero (bd_of hp r.len)
  rw [List.drop_zero] at e
  exact ⟨y3, y4, e⟩
theorem ruled_while {rule : List Rat} (r : Rule rule) (f : Slot) (many : Nat) : ∀ (k : Nat) (found : List Rat) (p fuel : Nat) (x4 x5 x6 : Slot), Lv p found → rule.length ≤ p → p + k = many → many ≤ 100 → k + 1 ≤ fuel →
    ∃ y4 y5 y6, whileN (tCmp oLt (pE (e1 oLenR (pV 3))) (pV 2)) (sSeq (sSet 4 (eTup (aCons (eC (.int 0)) (aCons (eC (.int 1)) aNil)))) (sSeq (sFor (iEnum (eV 0)) (.tp [(.nm 5), (.nm 6)]) (sSet 4 (eCall F_L_plus (aCons (eV 4) (aCons (eCall F_L_times (aCons (eV 6) (aCons (eIdx (pV 3) (pE (e2 oSub (pE (e2 oSub (pE (e1 oLenR (pV 3))) (pE (eC (.int 1))))) (pV 5)))) aNil))) aNil))))) (sApp 3 (eV 4)))) fuel
      [.im (.tup (rule.map qD)), f, .im (.int many), .mu (found.map qD), x4, x5, x6] s = .nx [.im (.tup (rule.map qD)), f, .im (.int many), .mu ((extR rule found k).map qD), y4, y5, y6] s
  | 0, found, p, fuel, x4, x5, x6, h, hl, hk, hm, hf => by
    obtain ⟨fuel, rfl⟩ : ∃ q, fuel = q + 1 := ⟨fuel - 1, by omega⟩
    refine ⟨x4, x5, x6, ?_⟩
    have : ¬ (found.length : Int) < many := by rw [h.1]; omega
    have : ¬ found.length < many := by rw [h.1]; omega
    rw [whileN]
    simp [extR, this]
  | k + 1, found, p, fuel, x4, x5, x6, h, hl, hk, hm, hf => by
    obtain ⟨fuel, rfl⟩ : ∃ q, fuel = q + 1 := ⟨fuel - 1, by omega⟩
    have lt : found.length < many := by rw [h.1]; omega
    have l2 : found.length < 16777216 := by rw [h.1]; omega
    obtain ⟨y3, y4, e⟩ := @ruled_step s rule found p r h hl (by omega) (.im (.tup (rule.map qD))) f (.im (.int many)) x5 x6
    obtain ⟨z4, z5, z6, e2⟩ := ruled_while r f many k (found ++ [stepR rule found]) (p + 1) fuel (.im (qD (stepR rule found))) y3 y4 (h.step r.num r.len) (by omega) (by omega) hm (by omega)
    refine ⟨z4, z5, z6, ?_⟩
    rw [List.map_append, List.map_singleton] at e2
    rw [whileN, extR]
    simp [lt, sizeLine, e, l2, e2]
theorem L_ruled_ok {rule first : List Rat} (r : Rule rule) {p many : Nat} (h : Lv p first) (hl : rule.length = p) (hm : many ≤ 100) : F_L_ruled [.tup (rule.map qD), .tup (first.map qD), .int many] s = .ok (.mu ((lineR rule first many).map qD)) s := by
  unfold F_L_ruled b_L_ruled
  rw [fnOf_def, if_pos (by rfl)]
  have ct : cutD (first.map qD) none (some (many : Int)) = (first.take many).map qD := by rw [cut_take, List.map_take]
  by_cases hp : p ≤ many
  · have t : first.take many = first := List.take_of_length_le (by rw [h.1]; exact hp)
    obtain ⟨y4, y5, y6, e⟩ := @ruled_while s rule r (.im (.tup (first.map qD))) many (many - p) first p 20000 .un .un .un h (by omega) (by omega) hm (by omega)


    simp [oSlice, ct, t, h.1, e, lineR]
  · have t : (first.take many).length = many := by rw [List.length_take, h.1]; omega
    have tm : min many first.length = many := by rw [h.1]; omega
    have z : many - first.length = 0 := by rw [h.1]; omega
    have w : ∀ fuel, whileN (tCmp oLt (pE (e1 oLenR (pV 3))) (pV 2)) (sSeq (sSet 4 (eTup (aCons (eC (.int 0)) (aCons (eC (.int 1)) aNil)))) (sSeq (sFor (iEnum (eV 0)) (.tp [(.nm 5), (.nm 6)]) (sSet 4 (eCall F_L_plus (aCons (eV 4) (aCons (eCall F_L_times (aCons (eV 6) (aCons (eIdx (pV 3) (pE (e2 oSub (pE (e2 oSub (pE (e1 oLenR (pV 3))) (pE (eC (.int 1))))) (pV 5)))) aNil))) aNil))))) (sApp 3 (eV 4)))) (fuel + 1)
      [.im (.tup (rule.map qD)), .im (.tup (first.map qD)), .im (.int many), .mu ((first.take many).map qD), .un, .un, .un] s = .nx [.im (.tup (rule.map qD)), .im (.tup (first.map qD)), .im (.int many), .mu ((first.take many).map qD), .un, .un, .un] s := fun fuel => by
      rw [whileN]
      simp [tm]
    have w0 := w 19999
    simp only [List.map_take, Nat.reduceAdd] at w0
    simp [oSlice, ct, w0, lineR, z, extR]
end Kit

/-! KitG: told rows, drawn rules: own work. -/
namespace Kit
open PySem Ev
variable {s : DS}
def rowD (rule first : List Rat) : D := .tup [.str "row", .tup (rule.map qD), .tup (first.map qD)]
theorem qD_kn {q : Rat} (h : Sz 8000 q) : (qD q).kn = true := by
  have h1 : q.num.natAbs < 2 ^ 8000 := h.1
  have h2 : q.den < 2 ^ 8000 := h.2
  simp only [qD, D.kn, knAll, Bool.and_eq_true, decide_eq_true_eq, List.length_cons, List.length_nil, Bool.and_true]
  exact ⟨by decide, h1, by rw [Int.natAbs_natCast]; exact h2⟩
theorem qD_num (q : Rat) : isNum (qD q) = true := by
  have h := q.den_pos
  have r : Nat.gcd q.num.natAbs q.den = 1 := q.reduced
  simp only [qD, isNum, Bool.and_eq_true, decide_eq_true_eq, Int.natAbs_natCast]
  exact ⟨by omega, r⟩
theorem nums_kn {qs : List Rat} (h : ∀ q ∈ qs, Sz 8000 q) (l : qs.length < 2 ^ 20) : (D.tup (qs.map qD)).kn = true := by
  simp only [D.kn, Bool.and_eq_true, decide_eq_true_eq, List.length_map]
  refine ⟨l, knAll_mem.mpr fun x hx => ?_⟩
  obtain ⟨q, hq, rfl⟩ := List.mem_map.mp hx
  exact qD_kn (h q hq)
theorem nums_ok {qs : List Rat} {n : Nat} (l : qs.length ≤ n) : isNums n (.tup (qs.map qD)) = true := by
  simp only [isNums, Bool.and_eq_true, decide_eq_true_eq, List.length_map, List.all_eq_true]
  refine ⟨l, fun x hx => ?_⟩
  obtain ⟨q, hq, rfl⟩ := List.mem_map.mp hx
  exact qD_num q
/-- rows that are told -/
structure Told (rule first : List Rat) : Prop where
  r : Rule rule
  f : Lv rule.length first
theorem Told.sz {rule first : List Rat} (h : Told rule first) : (∀ q ∈ rule, Sz 8000 q) ∧ ∀ q ∈ first, Sz 8000 q := by
  have l := h.r.len
  refine ⟨fun q hq => (h.r.num q hq).sz (n := 8000) (by decide) (by decide), fun q hq => (h.f.2 q hq).sz (n := 8000) ?_ ?_⟩
  · have w := W_lt (p := rule.length) (by omega)
    have : (2 : Nat) ^ 1200 < 2 ^ 8000 := by decide
    omega
  · have w := six_lt (p := rule.length + 1) (by omega)
    have : (2 : Nat) ^ 1200 < 2 ^ 8000 := by decide
    omega
theorem Told.kn {rule first : List Rat} (h : Told rule first) : (rowD rule first).kn = true := by
  have l := h.r.len
  have f := h.f.1
  have a := nums_kn h.sz.1 (by omega)
  have b := nums_kn h.sz.2 (by omega)
  unfold rowD
  rw [D.kn, knAll, knAll, knAll, a, b]
  simp [D.kn, knAll]
  exact strOk_of _
theorem Told.row {rule first : List Rat} (h : Told rule first) : isRow (rowD rule first) = true := by
  have l := h.r.len
  have f := h.f.1
  have a := nums_ok l
  have b := nums_ok (qs := first) (n := 24) (by omega)
  simp [rowD, isRow, a, b, lenT, f]
theorem entries_norow {d m : D} (h : d.kn = true) (k : isRow d = false) : F_entries [d, m] s = .exc "NoRow" .non s := by
  have z := @need_row_ok s d h
  simp [k] at z
  simp [F_entries, b_entries, z]
theorem entry_norow {d m : D} (h : d.kn = true) (k : isRow d = false) : F_entry [d, m] s = .exc "NoRow" .non s := by
  have z := @need_row_ok s d h
  simp [k] at z
  simp [F_entry, b_entry, z]
theorem entries_noplace {d m : D} (h : d.kn = true) (k : isRow d = true) (hm : m.kn = true) (km : isPl 400 m = false) : F_entries [d, m] s = .exc "NoPlace" .non s := by
  have z := @need_row_ok s d h
  simp [k] at z
  have y := @need_many_ok s m hm 400
  simp [km] at y
  simp [F_entries, b_entries, z, c_MOST_PLACE, y]
theorem entry_noplace {d m : D} (h : d.kn = true) (k : isRow d = true) (hm : m.kn = true) (km : isPl 400 m = false) : F_entry [d, m] s = .exc "NoPlace" .non s := by
  have z := @need_row_ok s d h
  simp [k] at z
  have y := @need_many_ok s m hm 400
  simp [km] at y
  simp [F_entry, b_entry, z, c_MOST_PLACE, y]
theorem int_kn {n : Nat} (h : n ≤ 1000) : (D.int n).kn = true := by
  simp only [D.kn, decide_eq_true_eq, Int.natAbs_natCast]
  have : (1000 : Nat) < 2 ^ 8000 := by decide
  omega
theorem entries_ok {rule first : List Rat} (h : Told rule first) {many : Nat} (hm : many ≤ 100) : F_entries [rowD rule first, .int many] s = .ok (.im (.tup ((lineR rule first many).map qD))) s := by
  have z := @need_row_ok s _ h.kn
  simp [h.row] at z
  have p : isPl 400 (.int many) = true := by
    simp [isPl]
    omega
  have y := @need_many_ok s _ (int_kn (n := many) (by omega)) 400
  simp [p] at y
  have x := @extended_ok s rule first h.r _ many h.f rfl hm
  obtain ⟨i0, i1, i2⟩ := idx3 (.str "row") (.tup (rule.map qD)) (.tup (first.map qD))
  unfold rowD at *
  simp [F_entries, b_entries, z, c_MOST_PLACE, y, i1, i2, x]
theorem entry_ok {rule first : List Rat} (h : Told rule first) {many : Nat} (hm : many ≤ 99) {q : Rat} (hq : (lineR rule first (many + 1))[many]? = some q) : F_entry [rowD rule first, .int many] s = .ok (.im (qD q)) s := by
  have z := @need_row_ok s _ h.kn
  simp [h.row] at z
  have p : isPl 400 (.int many) = true := by
    simp [isPl]
    omega
  have y := @need_many_ok s _ (int_kn (n := many) (by omega)) 400
  simp [p] at y
  have x := @extended_ok s rule first h.r _ (many + 1) h.f rfl (by omega)
  simp at x
  obtain ⟨i0, i1, i2⟩ := idx3 (.str "row") (.tup (rule.map qD)) (.tup (first.map qD))
  have ix : oIdx (.lst ((lineR rule first (many + 1)).map qD)) (.int many) = some (qD q) := oIdx_l (by rw [List.getElem?_map, hq]; rfl)
  unfold rowD at *
  simp [F_entry, b_entry, z, c_MOST_PLACE, y, i1, i2, x, ix]
theorem extR_snoc {rule : List Rat} : ∀ (k : Nat) (found : List Rat), extR rule found (k + 1) = extR rule found k ++ [stepR rule (extR rule found k)]
  | 0, found => rfl
  | k + 1, found => by
    rw [extR, extR_snoc k, extR]
theorem lineR_take {rule first : List Rat} {many : Nat} : (lineR rule first (many + 1)).take many = lineR rule first many := by
  unfold lineR
  by_cases h : many < first.length
  · rw [show many + 1 - first.length = 0 by omega, show many - first.length = 0 by omega, extR, extR, List.take_take]
    congr 1
    omega
  · rw [show many + 1 - first.length = (many - first.length) + 1 by omega, extR_snoc, List.take_of_length_le (show first.length ≤ many + 1 by omega), List.take_of_length_le (show first.length ≤ many by omega)]
    have l := @extR_len rule (many - first.length) first
    rw [List.take_append_of_le_length (by omega), List.take_of_length_le (by omega)]
theorem lineR_lv {rule first : List Rat} (h : Told rule first) {many : Nat} : ∃ p, p ≤ max many rule.length ∧ ∀ q ∈ lineR rule first many, HB (p + 1) (W p) q := by
  by_cases hp : rule.length ≤ many
  · have t : first.take many = first := List.take_of_length_le (by rw [h.f.1]; exact hp)
    have z := Lv.ext h.r (many - rule.length) rule.length first h.f
    refine ⟨rule.length + (many - rule.length), by omega, fun q hq => z.2 q ?_⟩
    unfold lineR at hq
    rw [t, h.f.1] at hq
    exact hq
  · refine ⟨rule.length, by omega, fun q hq => ?_⟩
    unfold lineR at hq
    rw [h.f.1, show many - rule.length = 0 by omega, extR] at hq
    exact h.f.2 q (List.mem_of_mem_take hq)
/-! ### drawn numbers -/
theorem divInt_hb {u : Int} {l A : Nat} (hl : l = 1 ∨ l = 2 ∨ l = 3) (hu : u.natAbs ≤ A) : HB 1 (6 * A) (Rat.divInt u l) := by
  refine HB.rat.mpr ⟨u * ((6 / l : Nat) : Int), ?_, ?_⟩
  · rw [Rat.divInt_eq_div, Rat.intCast_mul, Rat.intCast_natCast, Rat.intCast_natCast]
    rcases hl with rfl | rfl | rfl
    · simp
      grind
    · simp
      grind
    · simp
      grind
  · rw [Int.natAbs_mul, Int.natAbs_natCast, Nat.mul_comm 6 A]
    exact Nat.mul_le_mul hu (by rcases hl with rfl | rfl | rfl <;> decide)
theorem L_some_number_ok {n : Nat} {wide : Nat} (hw : wide < 100) (h : St s (n + 2)) : ∃ (q : Rat) (s' : DS), F_L_some_number [.st, .int wide] s = .ok (.im (qD q)) s' ∧ HB 1 (6 * wide) q ∧ St s' n := by
  obtain ⟨k, s1, e1, l1, st1⟩ := L_draw_ok (room := 2 * (wide : Int) + 1) h (by omega) (by
    have : (2 * (wide : Int) + 1).natAbs = 2 * wide + 1 := by omega
    have z : 200 < 2 ^ 8000 := by decide
    omega)
  obtain ⟨d, s2, e2, m2, st2⟩ := L_pick_ok (xs := [.int 1, .int 1, .int 1, .int 1, .int 2, .int 3]) st1 (by simp) (by decide)
  obtain ⟨l, hl, rfl⟩ : ∃ l : Nat, (l = 1 ∨ l = 2 ∨ l = 3) ∧ d = .int l := by
    simp only [List.mem_cons, List.not_mem_nil, or_false] at m2
    rcases m2 with rfl | rfl | rfl | rfl | rfl | rfl
    · exact ⟨1, by omega, rfl⟩
    · exact ⟨1, by omega, rfl⟩
    · exact ⟨1, by omega, rfl⟩
    · exact ⟨1, by omega, rfl⟩
    · exact ⟨2, by omega, rfl⟩
    · exact ⟨3, by omega, rfl⟩
  have no := @L_no_ok s2 ((k : Int) - wide) l (by omega) (by
    have z : 3 < 2 ^ 8000 := by decide
    omega)
  refine ⟨Rat.divInt ((k : Int) - wide) l, s2, ?_, divInt_hb hl (by omega), st2⟩
  have m : MulOk 2 (wide : Int) = true := mulOk (n := 2) (m := 7) (by decide) (by rw [Int.natAbs_natCast]; omega) (by omega)
  simp [F_L_some_number, b_L_some_number, oMul_ii m, e1, sizeLine, e2, no]
theorem some_list {A wide : Nat} (hw : wide < 100) (c : Int) (hc : c = wide) : ∀ (xs : List D) (n : Nat) (a1 : Slot) (s : DS), St s (n + 2 * xs.length) →
    ∃ (qs : List Rat) (s' : DS), lcL (.nm 2) tYes (eCall F_L_some_number (aCons (eV 0) (aCons (eC (.int c)) aNil))) [.im .st, a1, .un] xs s = .ok (qs.map qD) s' ∧ qs.length = xs.length ∧ (∀ q ∈ qs, HB 1 (6 * wide) q) ∧ St s' n
  | [], n, a1, s, h => ⟨[], s, rfl, rfl, (fun q hq => by cases hq), h.less (by omega)⟩
  | x :: xs, n, a1, s, h => by
    subst hc
    obtain ⟨q, s1, e1, b1, st1⟩ := L_some_number_ok hw (n := n + 2 * xs.length) (h.less (by rw [List.length_cons]; omega))
    obtain ⟨qs, s2, e2, l2, b2, st2⟩ := some_list (A := A) hw (wide : Int) rfl xs n a1 s1 st1
    refine ⟨q :: qs, s2, ?_, by rw [List.length_cons, List.length_cons, l2], fun y hy => ?_, st2⟩
    · rw [lcL]
      simp [Tgt.put, e1, e2]
    · rcases List.mem_cons.mp hy with rfl | hy
      · exact b1
      · exact b2 y hy
theorem L_some_rule_ok {n order : Nat} (ho : order ≤ 100) (h : St s (n + 2 * order)) : ∃ (qs : List Rat) (s' : DS), F_L_some_rule [.st, .int order] s = .ok (.im (.tup (qs.map qD))) s' ∧ qs.length = order ∧ (∀ q ∈ qs, HB 1 12 q) ∧ St s' n := by
  obtain ⟨qs, s', e, l, b, st⟩ := some_list (A := 0) (wide := 2) (by omega) 2 rfl (rangeD 0 order) n (.im (.int order)) s (by
    rw [show (rangeD 0 order).length = order by unfold rangeD; rw [List.length_map, List.length_range]]
    exact h)
  have lr : (rangeD 0 order).length = order := by unfold rangeD; rw [List.length_map, List.length_range]
  refine ⟨qs, s', ?_, by omega, b, st⟩
  have c1 : (order : Int) ≤ 16777216 := by omega
  have c3 : order ≤ 16777216 := by omega
  have c2 : -4611686018427387904 ≤ (order : Int) := by omega
  simp [F_L_some_rule, b_L_some_rule, iRange1, sizeLine, c1, c2, c3, lr, wipeOk, wipeE, Tgt.inn, e]
theorem L_some_first_ok {n : Nat} {xs : List D} (ho : xs.length ≤ 100) (h : St s (n + 2 * xs.length)) : ∃ (qs : List Rat) (s' : DS), F_L_some_first [.st, .tup xs] s = .ok (.im (.tup (qs.map qD))) s' ∧ qs.length = xs.length ∧ (∀ q ∈ qs, HB 1 18 q) ∧ St s' n := by
  obtain ⟨qs, s', e, l, b, st⟩ := some_list (A := 0) (wide := 3) (by omega) 3 rfl xs n (.im (.tup xs)) s h
  refine ⟨qs, s', ?_, by omega, b, st⟩
  have c1 : xs.length ≤ 16777216 := by omega
  simp [F_L_some_first, b_L_some_first, sizeLine, c1, wipeOk, wipeE, Tgt.inn, e]
theorem hb_up {q : Rat} : ∀ p : Nat, HB 1 18 q → HB (p + 1) (W p) q
  | 0, h => h
  | p + 1, h => ((hb_up p h).lift).mono (by
    unfold W
    rw [Nat.pow_succ]
    omega)
end Kit

/-! KitN: values with something within them exchanged: own work. -/
namespace Ev
open PySem
mutual
/-- .. with tuples and lists of at most m things -/
def D.kl (m : Nat) : D → Bool
  | .non | .bl _ | .edic => true
  | .int i => decide (i.natAbs < 2 ^ 8000)
  | .str x => PyData.strOk x
  | .tup xs | .lst xs => decide (xs.length ≤ m) && klAll m xs
  | .st | .exc _ _ | .scr _ => false
def klAll (m : Nat) : List D → Bool
  | [] => true
  | x :: xs => x.kl m && klAll m xs
end
theorem klAll_mem {m : Nat} : ∀ {xs : List D}, klAll m xs = true ↔ ∀ x ∈ xs, x.kl m = true
  | [] => by simp [klAll]
  | x :: xs => by simp [klAll, klAll_mem]
mutual
theorem kl_mono {m n : Nat} (h : m ≤ n) : ∀ d : D, d.kl m = true → d.kl n = true
  | .non, _ | .bl _, _ | .edic, _ => by simp [D.kl]
  | .int i, q => by simpa [D.kl] using q
  | .str x, q => by simpa [D.kl] using q
  | .tup xs, q | .lst xs, q => by
    simp only [D.kl, Bool.and_eq_true, decide_eq_true_eq] at q ⊢
    exact ⟨by omega, klAll_mono h xs q.2⟩
  | .st, q | .exc _ _, q | .scr _, q => by simp [D.kl] at q
theorem klAll_mono {m n : Nat} (h : m ≤ n) : ∀ xs : List D, klAll m xs = true → klAll n xs = true
  | [], _ => rfl
  | x :: xs, q => by
    simp only [klAll, Bool.and_eq_true] at q ⊢
    exact ⟨kl_mono h x q.1, klAll_mono h xs q.2⟩
end
mutual
theorem kl_kn {m : Nat} (h : m < 2 ^ 20) : ∀ d : D, d.kl m = true → d.kn = true
  | .non, _ | .bl _, _ | .edic, _ => by simp [D.kn]
  | .int i, q => by simpa [D.kl, D.kn] using q
  | .str x, q => by simpa [D.kl, D.kn] using q
  | .tup xs, q | .lst xs, q => by
    simp only [D.kl, D.kn, Bool.and_eq_true, decide_eq_true_eq] at q ⊢
    exact ⟨by omega, klAll_kn h xs q.2⟩
  | .st, q | .exc _ _, q | .scr _, q => by simp [D.kl] at q
theorem klAll_kn {m : Nat} (h : m < 2 ^ 20) : ∀ xs : List D, klAll m xs = true → knAll xs = true
  | [], _ => rfl
  | x :: xs, q => by
    simp only [klAll, knAll, Bool.and_eq_true] at q ⊢
    exact ⟨kl_kn h x q.1, klAll_kn h xs q.2⟩
end
theorem kl_tup {m : Nat} {xs : List D} : (D.tup xs).kl m = true ↔ xs.length ≤ m ∧ ∀ x ∈ xs, x.kl m = true := by
  simp only [D.kl, Bool.and_eq_true, decide_eq_true_eq, klAll_mem]
theorem kl_lst {m : Nat} {xs : List D} : (D.lst xs).kl m = true ↔ xs.length ≤ m ∧ ∀ x ∈ xs, x.kl m = true := by
  simp only [D.kl, Bool.and_eq_true, decide_eq_true_eq, klAll_mem]
theorem cut_drop {α : Type} (xs : List α) (m : Nat) : cutD xs (some (m : Int)) none = xs.drop m := by
  unfold Ev.cutD
  rw [HT.sIx_none, HT.sIx_nat]
  by_cases h : m ≤ xs.length
  · rw [Nat.min_eq_left h, List.take_of_length_le]
    rw [List.length_drop]
    omega
  · rw [Nat.min_eq_right (by omega), Nat.sub_self, List.take_zero, List.drop_of_length_le (by omega)]
theorem cut_mid {α : Type} (xs : List α) (m n : Nat) (hm : m ≤ n) : cutD xs (some (m : Int)) (some (n : Int)) = (xs.drop m).take (n - m) := by
  unfold Ev.cutD
  rw [HT.sIx_nat, HT.sIx_nat]
  by_cases h : n ≤ xs.length
  · rw [Nat.min_eq_left h, Nat.min_eq_left (by omega)]
  · by_cases h2 : m ≤ xs.length
    · rw [Nat.min_eq_right (by omega), Nat.min_eq_left h2, List.take_of_length_le (by rw [List.length_drop]; omega), List.take_of_length_le (by rw [List.length_drop]; omega)]
    · rw [Nat.min_eq_right (by omega), Nat.min_eq_right (by omega), List.drop_of_length_le (by omega), List.drop_of_length_le (by omega)]
      simp
theorem oNe_nil {xs : List D} (h : (D.tup xs).cmp = true) : oNe (.tup xs) (.tup []) = some (!decide (xs = [])) := by
  unfold oNe oEq
  rw [h, show (D.tup []).cmp = true from rfl]
  simp only [Bool.and_self, if_true, D.py, PyData.eqv]
  cases xs with
  | nil => rfl
  | cons x xs => rfl
end Ev

/-! Ps: power series over the fractions: own work. -/
namespace Ps
/-- power series: the entries -/
structure PS where
  at_ : Nat → Rat
theorem PS.ext {f g : PS} (h : ∀ n, f.at_ n = g.at_ n) : f = g := by
  cases f
  cases g
  congr 1
  funext n
  exact h n
def PS.tl (f : PS) : PS := ⟨fun n => f.at_ (n + 1)⟩
def mulA (f g : PS) : Nat → Rat
  | 0 => f.at_ 0 * g.at_ 0
  | n + 1 => mulA f.tl g n + f.at_ 0 * g.at_ (n + 1)
instance : Add PS := ⟨fun f g => ⟨fun n => f.at_ n + g.at_ n⟩⟩
instance : Mul PS := ⟨fun f g => ⟨mulA f g⟩⟩
instance : Neg PS := ⟨fun f => ⟨fun n => - f.at_ n⟩⟩
instance : Sub PS := ⟨fun f g => ⟨fun n => f.at_ n - g.at_ n⟩⟩
def con (c : Rat) : PS := ⟨fun n => if n = 0 then c else 0⟩
instance (n : Nat) : OfNat PS n := ⟨con (OfNat.ofNat n)⟩
instance : NatCast PS := ⟨fun n => con (n : Rat)⟩
instance : IntCast PS := ⟨fun n => con (n : Rat)⟩
@[simp] theorem add_at (f g : PS) (n : Nat) : (f + g).at_ n = f.at_ n + g.at_ n := rfl
@[simp] theorem neg_at (f : PS) (n : Nat) : (-f).at_ n = - f.at_ n := rfl
@[simp] theorem sub_at (f g : PS) (n : Nat) : (f - g).at_ n = f.at_ n - g.at_ n := rfl
theorem mul_at (f g : PS) (n : Nat) : (f * g).at_ n = mulA f g n := rfl
@[simp] theorem con_0 (c : Rat) : (con c).at_ 0 = c := rfl
@[simp] theorem con_s (c : Rat) (n : Nat) : (con c).at_ (n + 1) = 0 := rfl
theorem zero_eq : (0 : PS) = con 0 := rfl
theorem one_eq : (1 : PS) = con 1 := rfl
@[simp] theorem zero_at (n : Nat) : (0 : PS).at_ n = 0 := by
  rw [zero_eq]
  cases n <;> rfl
@[simp] theorem tl_at (f : PS) (n : Nat) : f.tl.at_ n = f.at_ (n + 1) := rfl
theorem tl_add (f g : PS) : (f + g).tl = f.tl + g.tl := rfl
theorem tl_con (c : Rat) : (con c).tl = 0 := PS.ext fun n => by simp
theorem mulA_zero_l (g : PS) : ∀ n, mulA 0 g n = 0
  | 0 => by simp [mulA]
  | n + 1 => by
    have e : (0 : PS).tl = 0 := PS.ext fun n => by simp
    rw [mulA, e, mulA_zero_l g n]
    simp [Rat.add_zero]
theorem mulA_con (c : Rat) (g : PS) : ∀ n, mulA (con c) g n = c * g.at_ n
  | 0 => by simp [mulA]
  | n + 1 => by
    rw [mulA, tl_con, mulA_zero_l]
    simp [Rat.zero_add]
theorem mulA_add_l (g : PS) : ∀ (n : Nat) (f f' : PS), mulA (f + f') g n = mulA f g n + mulA f' g n
  | 0, f, f' => by
    simp [mulA]
    grind
  | n + 1, f, f' => by
    rw [mulA, mulA, mulA, tl_add, mulA_add_l g n]
    simp
    grind
theorem mulA_add_r : ∀ (n : Nat) (f g g' : PS), mulA f (g + g') n = mulA f g n + mulA f g' n
  | 0, f, g, g' => by
    simp [mulA]
    grind
  | n + 1, f, g, g' => by
    rw [mulA, mulA, mulA, mulA_add_r n]
    simp
    grind
theorem mulA_smul (c : Rat) : ∀ (n : Nat) (f g : PS), mulA ⟨fun n => c * f.at_ n⟩ g n = c * mulA f g n
  | 0, f, g => by
    simp [mulA]
    grind
  | n + 1, f, g => by
    rw [mulA, mulA]
    have e : PS.tl ⟨fun n => c * f.at_ n⟩ = ⟨fun n => c * f.tl.at_ n⟩ := rfl
    rw [e, mulA_smul c n]
    simp
    grind
theorem mulA_tl_r : ∀ (n : Nat) (f g : PS), mulA f g (n + 1) = mulA f g.tl n + f.at_ (n + 1) * g.at_ 0
  | 0, f, g => by
    simp [mulA]
    grind
  | n + 1, f, g => by
    rw [mulA, mulA_tl_r n, mulA]
    simp
    grind
theorem mulA_comm : ∀ (n : Nat) (f g : PS), mulA f g n = mulA g f n
  | 0, f, g => by
    simp [mulA]
    grind
  | n + 1, f, g => by
    rw [mulA_tl_r, mulA, mulA_comm n]
    grind
theorem tl_mul (f g : PS) : (f * g).tl = f.tl * g + ⟨fun n => f.at_ 0 * g.tl.at_ n⟩ := PS.ext fun n => by
  simp [mul_at, mulA]
theorem mulA_assoc : ∀ (n : Nat) (f g h : PS), mulA (f * g) h n = mulA f (g * h) n
  | 0, f, g, h => by
    simp [mulA, mul_at]
    grind
  | n + 1, f, g, h => by
    rw [mulA, tl_mul, mulA_add_l, mulA_smul, mulA_assoc n, mulA]
    simp [mul_at, mulA]
    grind
theorem zero_add (f : PS) : 0 + f = f := PS.ext fun n => by simp [Rat.zero_add]
theorem mul_comm' (f g : PS) : f * g = g * f := PS.ext fun n => mulA_comm n f g
theorem one_mul' (f : PS) : 1 * f = f := PS.ext fun n => by
  rw [one_eq, mul_at, mulA_con, Rat.one_mul]
def npw (f : PS) : Nat → PS
  | 0 => 1
  | n + 1 => npw f n * f
instance : Pow PS Nat := ⟨npw⟩
instance : SMul Nat PS := ⟨fun n f => (n : PS) * f⟩
instance : SMul Int PS := ⟨fun n f => (n : PS) * f⟩
theorem con_add (a b : Rat) : con (a + b) = con a + con b := PS.ext fun n => by
  cases n <;> simp [Rat.add_zero]
theorem con_neg (a : Rat) : con (-a) = - con a := PS.ext fun n => by
  cases n <;> simp
theorem con_mul (a b : Rat) : con (a * b) = con a * con b := PS.ext fun n => by
  rw [mul_at, mulA_con]
  cases n <;> simp
instance : Lean.Grind.CommRing PS where
  natCast := inferInstance
  ofNat := inferInstance
  nsmul := inferInstance
  npow := inferInstance
  intCast := inferInstance
  zsmul := inferInstance
  add_zero f := PS.ext fun n => by simp [Rat.add_zero]
  add_comm f g := PS.ext fun n => Rat.add_comm _ _
  add_assoc f g h := PS.ext fun n => Rat.add_assoc _ _ _
  mul_assoc f g h := PS.ext fun n => mulA_assoc n f g h
  mul_one f := by rw [mul_comm', one_mul']
  one_mul f := one_mul' f
  left_distrib f g h := PS.ext fun n => mulA_add_r n f g h
  right_distrib f g h := PS.ext fun n => mulA_add_l h n f g
  zero_mul f := PS.ext fun n => by rw [mul_at, mulA_zero_l, zero_at]
  mul_zero f := PS.ext fun n => by rw [mul_comm', mul_at, mulA_zero_l, zero_at]
  mul_comm := mul_comm'
  pow_zero f := rfl
  pow_succ f n := rfl
  ofNat_succ n := by
    show con (OfNat.ofNat (n + 1)) = con (OfNat.ofNat n) + con 1
    rw [← con_add]
    congr 1
    exact Lean.Grind.Semiring.ofNat_succ n
  ofNat_eq_natCast n := by
    show con (OfNat.ofNat n) = con (n : Rat)
    congr 1
  nsmul_eq_natCast_mul n f := rfl
  neg_add_cancel f := PS.ext fun n => by simp [Rat.neg_add_cancel]
  sub_eq_add_neg f g := PS.ext fun n => Rat.sub_eq_add_neg _ _
  neg_zsmul i f := by
    show con ((-i : Int) : Rat) * f = -(con (i : Rat) * f)
    rw [Rat.intCast_neg, con_neg]
    refine PS.ext fun n => ?_
    rw [mul_at, ← con_neg, mulA_con, neg_at, mul_at, mulA_con]
    grind
  zsmul_natCast_eq_nsmul n f := by
    show con ((n : Int) : Rat) * f = con (n : Rat) * f
    rw [Rat.intCast_natCast]
  intCast_ofNat n := by
    show con (((OfNat.ofNat n : Int)) : Rat) = con (OfNat.ofNat n)
    congr 1
  intCast_neg i := by
    show con ((-i : Int) : Rat) = - con (i : Rat)
    rw [Rat.intCast_neg, con_neg]
example (a b c d q : PS) : (a - q * c) * b + (a - q * d) = a * b + a - q * (c * b + d) := by grind
/-- c x ^ k -/
def mono (k : Nat) (c : Rat) : PS := ⟨fun n => if n = k then c else 0⟩
theorem mono_at (k : Nat) (c : Rat) (n : Nat) : (mono k c).at_ n = if n = k then c else 0 := rfl
theorem mono_zero (c : Rat) : mono 0 c = con c := rfl
theorem mono_mul_at (c : Rat) : ∀ (k : Nat) (f : PS) (n : Nat), (mono k c * f).at_ n = if k ≤ n then c * f.at_ (n - k) else 0
  | 0, f, n => by
    rw [mono_zero, mul_at, mulA_con]
    simp
  | k + 1, f, 0 => by
    simp [mul_at, mulA, mono_at, Rat.zero_mul]
  | k + 1, f, n + 1 => by
    rw [mul_at, mulA]
    have e : (mono (k + 1) c).tl = mono k c := PS.ext fun n => by simp [mono_at]
    rw [e, ← mul_at, mono_mul_at c k f n]
    simp [mono_at, Rat.zero_mul, Rat.add_zero]
end Ps

/-! Ps2: polynomials as lists: own work. -/
namespace Ps
def po (p : List Rat) : PS := ⟨fun n => p.getD n 0⟩
theorem po_at (p : List Rat) (n : Nat) : (po p).at_ n = p.getD n 0 := rfl
theorem po_nil : po [] = 0 := PS.ext fun n => by simp [po_at]
theorem po_out {p : List Rat} {n : Nat} (h : p.length ≤ n) : (po p).at_ n = 0 := by
  rw [po_at, List.getD_eq_getElem?_getD, List.getElem?_eq_none h]
  rfl
theorem po_get {p : List Rat} {n : Nat} {c : Rat} (h : p[n]? = some c) : (po p).at_ n = c := by
  rw [po_at, List.getD_eq_getElem?_getD, h]
  rfl
theorem po_set {p : List Rat} {k : Nat} {c d : Rat} (h : p[k]? = some c) : po (p.set k d) = po p + mono k (d - c) := PS.ext fun n => by
  have lt := (List.getElem?_eq_some_iff.mp h).1
  rw [add_at, po_at, po_at, mono_at, List.getD_eq_getElem?_getD, List.getD_eq_getElem?_getD]
  by_cases e : n = k
  · subst e
    rw [List.getElem?_set_self lt, h]
    simp
    grind
  · rw [List.getElem?_set_ne (Ne.symm e), if_neg e, Rat.add_zero]
theorem po_zeros (n : Nat) : po (List.replicate n 0) = 0 := PS.ext fun k => by
  rw [po_at, List.getD_eq_getElem?_getD, zero_at, List.getElem?_replicate]
  split <;> rfl
theorem po_app_zeros (p : List Rat) (n : Nat) : po (p ++ List.replicate n 0) = po p := PS.ext fun k => by
  rw [po_at, po_at, List.getD_eq_getElem?_getD, List.getD_eq_getElem?_getD]
  by_cases h : k < p.length
  · rw [List.getElem?_append_left h]
  · rw [List.getElem?_append_right (by omega), List.getElem?_replicate, List.getElem?_eq_none (by omega)]
    split <;> rfl
theorem po_cons (c : Rat) (p : List Rat) : po (c :: p) = con c + mono 1 1 * po p := PS.ext fun n => by
  rw [add_at, mono_mul_at]
  cases n with
  | zero => simp [po_at, Rat.add_zero]
  | succ n => simp [po_at, Rat.zero_add, Rat.one_mul]
theorem mono_mul (j k : Nat) (c d : Rat) : mono j c * mono k d = mono (j + k) (c * d) := PS.ext fun n => by
  rw [mono_mul_at, mono_at, mono_at]
  by_cases h : j ≤ n
  · rw [if_pos h]
    by_cases e : n - j = k
    · rw [if_pos e, if_pos (by omega)]
    · rw [if_neg e, if_neg (by omega), Rat.mul_zero]
  · rw [if_neg h, if_neg (by omega)]
theorem mono_add (k : Nat) (c d : Rat) : mono k (c + d) = mono k c + mono k d := PS.ext fun n => by
  rw [add_at, mono_at, mono_at, mono_at]
  split <;> simp [Rat.add_zero]
theorem mono_zero' (k : Nat) : mono k 0 = 0 := PS.ext fun n => by
  rw [mono_at, zero_at]
  split <;> rfl
theorem mono_neg (k : Nat) (c : Rat) : mono k (-c) = - mono k c := PS.ext fun n => by
  rw [neg_at, mono_at, mono_at]
  split <;> simp
/-- no nought at the end -/
def Tr (p : List Rat) : Prop := p.getLast? ≠ some 0
theorem Tr.nil : Tr [] := by simp [Tr]
theorem Tr.last {p : List Rat} (h : Tr p) (hp : p ≠ []) : (po p).at_ (p.length - 1) ≠ 0 := by
  intro z
  refine h ?_
  have l : 0 < p.length := List.length_pos_iff.mpr hp
  rw [List.getLast?_eq_getElem?]
  rw [po_at, List.getD_eq_getElem?_getD, List.getElem?_eq_getElem (by omega)] at z
  rw [List.getElem?_eq_getElem (by omega)]
  simpa using z
/-- trimmed lists are told by their entries -/
theorem Tr.ext {p q : List Rat} (hp : Tr p) (hq : Tr q) (h : po p = po q) : p = q := by
  have key : ∀ {p q : List Rat}, Tr p → po p = po q → p.length ≤ q.length := fun {p q} hp h => by
    by_cases e : p = []
    · subst e
      exact Nat.zero_le _
    · have z := hp.last e
      rw [h] at z
      have l : 0 < p.length := List.length_pos_iff.mpr e
      by_cases g : p.length ≤ q.length
      · exact g
      · exact absurd (po_out (by omega)) z
  have l : p.length = q.length := Nat.le_antisymm (key hp h) (key hq h.symm)
  refine List.ext_getElem l fun n h1 h2 => ?_
  have z : (po p).at_ n = (po q).at_ n := by rw [h]
  rw [po_at, po_at, List.getD_eq_getElem?_getD, List.getD_eq_getElem?_getD, List.getElem?_eq_getElem h1, List.getElem?_eq_getElem h2] at z
  simpa using z
theorem Tr.zero {p : List Rat} (hp : Tr p) (h : po p = 0) : p = [] := Tr.ext hp Tr.nil (by rw [h, po_nil])
/-- without the noughts at the end -/
def trim (p : List Rat) : List Rat := if h : p.getLast? = some 0 then trim p.dropLast else p
termination_by p.length
decreasing_by
  have : p ≠ [] := by
    intro e
    subst e
    simp at h
  have := List.length_pos_iff.mpr this
  rw [List.length_dropLast]
  omega
theorem trim_eq (p : List Rat) : trim p = if p.getLast? = some 0 then trim p.dropLast else p := by
  rw [trim]
  split <;> rfl
theorem trim_spec : ∀ (n : Nat) (p : List Rat), p.length ≤ n → Tr (trim p) ∧ po (trim p) = po p ∧ (trim p).length ≤ p.length ∧ ∀ x ∈ trim p, x ∈ p := by
  intro n
  induction n with
  | zero =>
    intro p h
    obtain rfl : p = [] := List.eq_nil_of_length_eq_zero (by omega)
    rw [trim_eq]
    simp [Tr]
  | succ n ih =>
    intro p h
    rw [trim_eq]
    by_cases e : p.getLast? = some 0
    · rw [if_pos e]
      have hp : p ≠ [] := by
        intro e
        subst e
        simp at e
      have l := List.length_pos_iff.mpr hp
      obtain ⟨h1, h2, h3, h4⟩ := ih p.dropLast (by rw [List.length_dropLast]; omega)
      rw [List.length_dropLast] at h3
      refine ⟨h1, ?_, by omega, fun x hx => List.dropLast_subset p (h4 x hx)⟩
      rw [h2]
      have z : p = p.dropLast ++ List.replicate 1 0 := by
        have q := List.dropLast_concat_getLast hp
        rw [List.getLast?_eq_some_getLast hp] at e
        rw [Option.some.inj e] at q
        exact q.symm
      rw [z]
      simp [po_app_zeros p.dropLast 1]
      exact (po_app_zeros p.dropLast 1).symm
    · rw [if_neg e]
      exact ⟨e, rfl, Nat.le_refl _, fun x hx => hx⟩
theorem trim_tr (p : List Rat) : Tr (trim p) := (trim_spec _ p (Nat.le_refl _)).1
theorem trim_po (p : List Rat) : po (trim p) = po p := (trim_spec _ p (Nat.le_refl _)).2.1
theorem trim_len (p : List Rat) : (trim p).length ≤ p.length := (trim_spec _ p (Nat.le_refl _)).2.2.1
theorem trim_mem {p : List Rat} : ∀ x ∈ trim p, x ∈ p := (trim_spec _ p (Nat.le_refl _)).2.2.2
end Ps

set_option maxHeartbeats 0
namespace KP
open PySem Ev
def c_ZERO : Ev.D := (.tup [(.int 0), (.int 1)])
def c_ONE : Ev.D := (.tup [(.int 1), (.int 1)])
def b_is_whole : Stm := (sRet (eT (tAnd (tIsa [.int] (pV 0)) (tNot (tIsa [.bool] (pV 0))))))
def F_is_whole : Fn := fnOf 1 0 b_is_whole
def b_number : Stm := (sSeq (sSet 2 (eIf (tCmp oGt (pV 1) (pE (eC (.int 0)))) (e2 oGcd (pV 0) (pV 1)) (e2 oSub (pE (eC (.int 0))) (pE (e2 oGcd (pV 0) (pV 1)))))) (sRet (eTup (aCons (e2 oDiv (pV 0) (pV 2)) (aCons (e2 oDiv (pV 1) (pV 2)) aNil)))))
def F_number : Fn := fnOf 2 1 b_number
def b_minus : Stm := (sRet (eTup (aCons (e2 oSub (pE (eC (.int 0))) (pE (eIdx (pV 0) (pE (eC (.int 0)))))) (aCons (eIdx (pV 0) (pE (eC (.int 1)))) aNil))))
def F_minus : Fn := fnOf 1 0 b_minus
def b_trimmed : Stm := (sSeq (sSet 1 (e1 oList (pV 0))) (sSeq (sWhile 20000 (tAnd (tCmp oNe (pV 1) (pE (eLst aNil))) (tCmp oEq (pE (eIdx (pV 1) (pE (e1 oNeg (pE (eC (.int 1))))))) (pE (eC c_ZERO)))) (sPop 1)) (sRet (e1 oTuple (pV 1)))))
def F_trimmed : Fn := fnOf 1 1 b_trimmed
def b_L_common : Stm := (sSeq (sWhile 20000 (tCmp oNe (pV 1) (pE (eC (.int 0)))) (sPar 0 1 (eV 1) (e2 oMod (pE (e1 oInt (pV 0))) (pV 1)))) (sRet (e1 oAbs (pV 0))))
def F_L_common : Fn := fnOf 2 0 b_L_common
def b_L_minus : Stm := (sRet (eTup (aCons (e2 oSub (pE (eC (.int 0))) (pE (eIdx (pV 0) (pE (eC (.int 0)))))) (aCons (eIdx (pV 0) (pE (eC (.int 1)))) aNil))))
def F_L_minus : Fn := fnOf 1 0 b_L_minus
def b_L_trim : Stm := (sSeq (sSet 1 (e1 oList (pV 0))) (sSeq (sWhile 20000 (tAnd (tCmp oNe (pV 1) (pE (eLst aNil))) (tCmp oEq (pE (eIdx (pE (eIdx (pV 1) (pE (e1 oNeg (pE (eC (.int 1))))))) (pE (eC (.int 0))))) (pE (eC (.int 0))))) (sPop 1)) (sRet (e1 oTuple (pV 1)))))
def F_L_trim : Fn := fnOf 1 1 b_L_trim
def b_is_number : Stm := (sSeq (sIf (tOr (tNot (tIsa [.tuple] (pV 0))) (tOr (tCmp oNe (pE (e1 oLenR (pV 0))) (pE (eC (.int 2)))) (tNot (tVal (pE (e1 oAll (pE (eLc (iP (eV 0)) (.nm 1) tYes (eCall F_is_whole (aCons (eV 1) aNil)) [1])))))))) (sRet (eC (.bl false))) sNil) (sRet (eT (tAnd (tCmp oGt (pE (eIdx (pV 0) (pE (eC (.int 1))))) (pE (eC (.int 0)))) (tCmp oEq (pE (e2 oGcd (pE (eIdx (pV 0) (pE (eC (.int 0))))) (pE (eIdx (pV 0) (pE (eC (.int 1))))))) (pE (eC (.int 1))))))))
def F_is_number : Fn := fnOf 1 1 b_is_number
def b_plus : Stm := (sRet (eCall F_number (aCons (e2 oAdd (pE (e2 oMul (pE (eIdx (pV 0) (pE (eC (.int 0))))) (pE (eIdx (pV 1) (pE (eC (.int 1))))))) (pE (e2 oMul (pE (eIdx (pV 1) (pE (eC (.int 0))))) (pE (eIdx (pV 0) (pE (eC (.int 1)))))))) (aCons (e2 oMul (pE (eIdx (pV 0) (pE (eC (.int 1))))) (pE (eIdx (pV 1) (pE (eC (.int 1)))))) aNil))))
def F_plus : Fn := fnOf 2 0 b_plus
def b_times : Stm := (sRet (eCall F_number (aCons (e2 oMul (pE (eIdx (pV 0) (pE (eC (.int 0))))) (pE (eIdx (pV 1) (pE (eC (.int 0)))))) (aCons (e2 oMul (pE (eIdx (pV 0) (pE (eC (.int 1))))) (pE (eIdx (pV 1) (pE (eC (.int 1)))))) aNil))))
def F_times : Fn := fnOf 2 0 b_times
def b_over : Stm := (sRet (eCall F_number (aCons (e2 oMul (pE (eIdx (pV 0) (pE (eC (.int 0))))) (pE (eIdx (pV 1) (pE (eC (.int 1)))))) (aCons (e2 oMul (pE (eIdx (pV 0) (pE (eC (.int 1))))) (pE (eIdx (pV 1) (pE (eC (.int 0)))))) aNil))))
def F_over : Fn := fnOf 2 0 b_over
def b_L_no : Stm := (sSeq (sSet 2 (e2 oMul (pE (eCall F_L_common (aCons (eV 0) (aCons (eV 1) aNil)))) (pE (eIf (tCmp oGt (pV 1) (pE (eC (.int 0)))) (eC (.int 1)) (e2 oSub (pE (eC (.int 0))) (pE (eC (.int 1)))))))) (sRet (eTup (aCons (e2 oDiv (pV 0) (pV 2)) (aCons (e2 oDiv (pV 1) (pV 2)) aNil)))))
def F_L_no : Fn := fnOf 2 1 b_L_no
def b_is_polynomial : Stm := (sSeq (sIf (tOr (tNot (tIsa [.tuple] (pV 0))) (tNot (tVal (pE (e1 oAll (pE (eLc (iP (eV 0)) (.nm 1) tYes (eCall F_is_number (aCons (eV 1) aNil)) [1]))))))) (sRet (eC (.bl false))) sNil) (sRet (eT (tOr (tCmp oEq (pV 0) (pE (eTup aNil))) (tCmp oNe (pE (eIdx (pV 0) (pE (e1 oNeg (pE (eC (.int 1))))))) (pE (eC c_ZERO)))))))
def F_is_polynomial : Fn := fnOf 1 1 b_is_polynomial
def b_summed : Stm := (sSeq (sSet 2 (e2 oMax (pE (e1 oLenR (pV 0))) (pE (e1 oLenR (pV 1))))) (sSeq (sSet 3 (e2 oAdd (pE (e1 oList (pV 0))) (pE (e2 oMul (pE (eLst (aCons (eC c_ZERO) aNil))) (pE (e2 oSub (pV 2) (pE (e1 oLenR (pV 0))))))))) (sSeq (sFrz 3) (sSeq (sSet 4 (e2 oAdd (pE (e1 oList (pV 1))) (pE (e2 oMul (pE (eLst (aCons (eC c_ZERO) aNil))) (pE (e2 oSub (pV 2) (pE (e1 oLenR (pV 1))))))))) (sSeq (sFrz 4) (sRet (eCall F_trimmed (aCons (eLc (iZip (eV 3) (eV 4)) (.tp [(.nm 5), (.nm 6)]) tYes (eCall F_plus (aCons (eV 5) (aCons (eV 6) aNil))) [5, 6]) aNil))))))))
def F_summed : Fn := fnOf 2 5 b_summed
def b_scaled : Stm := (sRet (eCall F_trimmed (aCons (eLc (iP (eV 1)) (.nm 2) tYes (eCall F_times (aCons (eV 0) (aCons (eV 2) aNil))) [2]) aNil)))
def F_scaled : Fn := fnOf 2 1 b_scaled
def b_multiplied : Stm := (sSeq (sSet 2 (e2 oMul (pE (eLst (aCons (eC c_ZERO) aNil))) (pE (e2 oMax (pE (eC (.int 0))) (pE (e2 oSub (pE (e2 oAdd (pE (e1 oLenR (pV 0))) (pE (e1 oLenR (pV 1))))) (pE (eC (.int 1))))))))) (sSeq (sFor (iEnum (eV 0)) (.tp [(.nm 3), (.nm 4)]) (sFor (iEnum (eV 1)) (.tp [(.nm 5), (.nm 6)]) (sPutAt 2 (pE (e2 oAdd (pV 3) (pV 5))) (eCall F_plus (aCons (eIdx (pV 2) (pE (e2 oAdd (pV 3) (pV 5)))) (aCons (eCall F_times (aCons (eV 4) (aCons (eV 6) aNil))) aNil)))))) (sRet (eCallB F_trimmed (bCons (pV 2) aNil)))))
def F_multiplied : Fn := fnOf 2 5 b_multiplied
def b_divided : Stm := (sSeq (sPar 2 3 (e1 oList (pV 0)) (e2 oMul (pE (eLst (aCons (eC c_ZERO) aNil))) (pE (e2 oMax (pE (eC (.int 0))) (pE (e2 oAdd (pE (e2 oSub (pE (e1 oLenR (pV 0))) (pE (e1 oLenR (pV 1))))) (pE (eC (.int 1))))))))) (sSeq (sFor (iRangeD (pE (e2 oSub (pE (e1 oLenR (pV 3))) (pE (eC (.int 1))))) (pE (e1 oNeg (pE (eC (.int 1)))))) (.nm 4) (sSeq (sSet 5 (eCall F_over (aCons (eIdx (pV 2) (pE (e2 oSub (pE (e2 oAdd (pV 4) (pE (e1 oLenR (pV 1))))) (pE (eC (.int 1)))))) (aCons (eIdx (pV 1) (pE (e1 oNeg (pE (eC (.int 1)))))) aNil)))) (sSeq (sPutAt 3 (pV 4) (eV 5)) (sFor (iEnum (eV 1)) (.tp [(.nm 6), (.nm 7)]) (sPutAt 2 (pE (e2 oAdd (pV 4) (pV 6))) (eCall F_plus (aCons (eIdx (pV 2) (pE (e2 oAdd (pV 4) (pV 6)))) (aCons (eCall F_minus (aCons (eCall F_times (aCons (eV 5) (aCons (eV 7) aNil))) aNil)) aNil)))))))) (sRet (eTup (aCons (eCallB F_trimmed (bCons (pV 3) aNil)) (aCons (eCallB F_trimmed (bCons (pV 2) aNil)) aNil))))))
def F_divided : Fn := fnOf 2 6 b_divided
def b_L_plus : Stm := (sRet (eCall F_L_no (aCons (e2 oAdd (pE (e2 oMul (pE (eIdx (pV 0) (pE (eC (.int 0))))) (pE (eIdx (pV 1) (pE (eC (.int 1))))))) (pE (e2 oMul (pE (eIdx (pV 1) (pE (eC (.int 0))))) (pE (eIdx (pV 0) (pE (eC (.int 1)))))))) (aCons (e2 oMul (pE (eIdx (pV 0) (pE (eC (.int 1))))) (pE (eIdx (pV 1) (pE (eC (.int 1)))))) aNil))))
def F_L_plus : Fn := fnOf 2 0 b_L_plus
def b_L_times : Stm := (sRet (eCall F_L_no (aCons (e2 oMul (pE (eIdx (pV 0) (pE (eC (.int 0))))) (pE (eIdx (pV 1) (pE (eC (.int 0)))))) (aCons (e2 oMul (pE (eIdx (pV 0) (pE (eC (.int 1))))) (pE (eIdx (pV 1) (pE (eC (.int 1)))))) aNil))))
def F_L_times : Fn := fnOf 2 0 b_L_times
def b_L_over : Stm := (sRet (eCall F_L_no (aCons (e2 oMul (pE (eIdx (pV 0) (pE (eC (.int 0))))) (pE (eIdx (pV 1) (pE (eC (.int 1)))))) (aCons (e2 oMul (pE (eIdx (pV 0) (pE (eC (.int 1))))) (pE (eIdx (pV 1) (pE (eC (.int 0)))))) aNil))))
def F_L_over : Fn := fnOf 2 0 b_L_over
def b_with_cofactors : Stm := (sSeq (sPar 2 3 (eTup (aCons (eV 0) (aCons (eTup (aCons (eC c_ONE) aNil)) (aCons (eTup aNil) aNil)))) (eTup (aCons (eV 1) (aCons (eTup aNil) (aCons (eTup (aCons (eC c_ONE) aNil)) aNil))))) (sSeq (sWhile 20000 (tCmp oNe (pE (eIdx (pV 3) (pE (eC (.int 0))))) (pE (eTup aNil))) (sSeq (sSet 4 (eCall F_scaled (aCons (eCall F_minus (aCons (eC c_ONE) aNil)) (aCons (eIdx (pE (eCall F_divided (aCons (eIdx (pV 2) (pE (eC (.int 0)))) (aCons (eIdx (pV 3) (pE (eC (.int 0)))) aNil)))) (pE (eC (.int 0)))) aNil)))) (sSeq (sSet 5 (e1 oTuple (pE (eLc (iZip (eV 2) (eV 3)) (.tp [(.nm 7), (.nm 8)]) tYes (eCall F_summed (aCons (eV 7) (aCons (eCall F_multiplied (aCons (eV 4) (aCons (eV 8) aNil))) aNil))) [7, 8])))) (sPar 2 3 (eV 3) (eV 5))))) (sSeq (sSet 6 (eCall F_over (aCons (eC c_ONE) (aCons (eIdx (pE (eIdx (pV 2) (pE (eC (.int 0))))) (pE (e1 oNeg (pE (eC (.int 1)))))) aNil)))) (sRet (e1 oTuple (pE (eLc (iP (eV 2)) (.nm 7) tYes (eCall F_scaled (aCons (eV 6) (aCons (eV 7) aNil))) [7])))))))
def F_with_cofactors : Fn := fnOf 2 7 b_with_cofactors
def b_L_poly_plus : Stm := (sSeq (sSet 3 (e2 oMax (pE (e1 oLenR (pV 0))) (pE (e1 oLenR (pV 1))))) (sSeq (sPar 4 5 (e2 oAdd (pE (e1 oList (pV 0))) (pE (e2 oMul (pE (eLst (aCons (eTup (aCons (eC (.int 0)) (aCons (eC (.int 1)) aNil))) aNil))) (pE (e2 oSub (pV 3) (pE (e1 oLenR (pV 0)))))))) (e2 oAdd (pE (e1 oList (pV 1))) (pE (e2 oMul (pE (eLst (aCons (eTup (aCons (eC (.int 0)) (aCons (eC (.int 1)) aNil))) aNil))) (pE (e2 oSub (pV 3) (pE (e1 oLenR (pV 1))))))))) (sSeq (sFrz 4) (sSeq (sFrz 5) (sRet (eCall F_L_trim (aCons (eLc (iZip (eV 4) (eV 5)) (.tp [(.nm 6), (.nm 7)]) tYes (eCall F_L_plus (aCons (eV 6) (aCons (eCall F_L_times (aCons (eV 2) (aCons (eV 7) aNil))) aNil))) [6, 7]) aNil)))))))
def F_L_poly_plus : Fn := fnOf 3 5 b_L_poly_plus
def b_L_poly_times : Stm := (sSeq (sSet 2 (e2 oMul (pE (eLst (aCons (eTup (aCons (eC (.int 0)) (aCons (eC (.int 1)) aNil))) aNil))) (pE (e2 oMax (pE (eC (.int 0))) (pE (e2 oSub (pE (e2 oAdd (pE (e1 oLenR (pV 0))) (pE (e1 oLenR (pV 1))))) (pE (eC (.int 1))))))))) (sSeq (sFor (iEnum (eV 0)) (.tp [(.nm 3), (.nm 4)]) (sFor (iEnum (eV 1)) (.tp [(.nm 5), (.nm 6)]) (sPutAt 2 (pE (e2 oAdd (pV 3) (pV 5))) (eCall F_L_plus (aCons (eIdx (pV 2) (pE (e2 oAdd (pV 3) (pV 5)))) (aCons (eCall F_L_times (aCons (eV 4) (aCons (eV 6) aNil))) aNil)))))) (sRet (eCallB F_L_trim (bCons (pV 2) aNil)))))
def F_L_poly_times : Fn := fnOf 2 5 b_L_poly_times
def b_L_poly_parted : Stm := (sSeq (sPar 2 3 (e1 oList (pV 0)) (e2 oMul (pE (eLst (aCons (eTup (aCons (eC (.int 0)) (aCons (eC (.int 1)) aNil))) aNil))) (pE (e2 oMax (pE (eC (.int 0))) (pE (e2 oAdd (pE (e2 oSub (pE (e1 oLenR (pV 0))) (pE (e1 oLenR (pV 1))))) (pE (eC (.int 1))))))))) (sSeq (sWhile 20000 (tCmp oGe (pE (e1 oLenR (pV 2))) (pE (e1 oLenR (pV 1)))) (sSeq (sPar 4 5 (eCall F_L_over (aCons (eIdx (pV 2) (pE (e1 oNeg (pE (eC (.int 1)))))) (aCons (eIdx (pV 1) (pE (e1 oNeg (pE (eC (.int 1)))))) aNil))) (e2 oSub (pE (e1 oLenR (pV 2))) (pE (e1 oLenR (pV 1))))) (sSeq (sPutAt 3 (pV 5) (eV 4)) (sSeq (sFor (iRange1 (pE (e1 oLenR (pV 1)))) (.nm 6) (sPutAt 2 (pE (e2 oAdd (pV 5) (pV 6))) (eCall F_L_plus (aCons (eIdx (pV 2) (pE (e2 oAdd (pV 5) (pV 6)))) (aCons (eCall F_L_minus (aCons (eCall F_L_times (aCons (eV 4) (aCons (eIdx (pV 1) (pV 6)) aNil))) aNil)) aNil))))) (sPop 2))))) (sRet (eTup (aCons (eCallB F_L_trim (bCons (pV 3) aNil)) (aCons (eCallB F_L_trim (bCons (pV 2) aNil)) aNil))))))
def F_L_poly_parted : Fn := fnOf 2 5 b_L_poly_parted
def b_L_poly_common : Stm := (sSeq (sWhile 20000 (tCmp oNe (pV 1) (pE (eTup aNil))) (sPut (.tp [(.nm 0), (.nm 1)]) (eTup (aCons (eV 1) (aCons (eIdx (pE (eCall F_L_poly_parted (aCons (eV 0) (aCons (eV 1) aNil)))) (pE (eC (.int 1)))) aNil))))) (sRet (e1 oTuple (pE (eLc (iP (eV 0)) (.nm 2) tYes (eCall F_L_over (aCons (eV 2) (aCons (eIdx (pV 0) (pE (e1 oNeg (pE (eC (.int 1)))))) aNil))) [2])))))
def F_L_poly_common : Fn := fnOf 2 1 b_L_poly_common
end KP

/-! KPA: polynomials: trimmed, sums, multiples: own work. -/
namespace Ev
open PySem
/-- d q is a whole number of at most N -/
def CD (d N : Nat) (q : Rat) : Prop := 0 < d ∧ ∃ n : Int, q * (d : Rat) = (n : Rat) ∧ n.natAbs ≤ N
theorem CD.mono {d N M : Nat} {q : Rat} (h : CD d N q) (l : N ≤ M) : CD d M q := ⟨h.1, let ⟨n, a, b⟩ := h.2; ⟨n, a, by omega⟩⟩
theorem CD.zero {d N : Nat} (h : 0 < d) : CD d N 0 := ⟨h, 0, by simp, by simp⟩
theorem CD.add {d N M : Nat} {p q : Rat} (h : CD d N p) (g : CD d M q) : CD d (N + M) (p + q) := by
  obtain ⟨h0, n, a, b⟩ := h
  obtain ⟨_, m, c, e⟩ := g
  refine ⟨h0, n + m, ?_, by omega⟩
  rw [Rat.intCast_add, ← a, ← c]
  grind
theorem CD.neg {d N : Nat} {p : Rat} (h : CD d N p) : CD d N (-p) := by
  obtain ⟨h0, n, a, b⟩ := h
  refine ⟨h0, -n, ?_, by omega⟩
  rw [Rat.intCast_neg, ← a]
  grind
theorem CD.mul {d e N M : Nat} {p q : Rat} (h : CD d N p) (g : CD e M q) : CD (d * e) (N * M) (p * q) := by
  obtain ⟨h0, n, a, b⟩ := h
  obtain ⟨g0, m, c, f⟩ := g
  refine ⟨Nat.mul_pos h0 g0, n * m, ?_, ?_⟩
  · rw [Rat.intCast_mul, ← a, ← c, Rat.natCast_mul]
    grind
  · rw [Int.natAbs_mul]
    exact Nat.mul_le_mul b f
theorem CD.up {d N : Nat} {q : Rat} (h : CD d N q) {e : Nat} (he : 0 < e) : CD (d * e) (N * e) q := by
  obtain ⟨h0, n, a, b⟩ := h
  refine ⟨Nat.mul_pos h0 he, n * e, ?_, ?_⟩
  · rw [Rat.intCast_mul, ← a, Rat.natCast_mul, Rat.intCast_natCast]
    grind
  · rw [Int.natAbs_mul, Int.natAbs_natCast]
    exact Nat.mul_le_mul_right _ b
theorem CD.sz {d N n : Nat} {q : Rat} (h : CD d N q) (h1 : N < 2 ^ n) (h2 : d < 2 ^ n) : Sz n q := by
  obtain ⟨h0, m, a, b⟩ := h
  have e0 : q.num * (d : Int) = m * q.den := by
    have h1 : q * (d : Rat) = Rat.divInt (q.num * (d : Int)) q.den := by
      have h : Rat.divInt q.num q.den * Rat.divInt (d : Int) 1 = Rat.divInt (q.num * (d : Int)) ((q.den : Int) * 1) := Rat.divInt_mul_divInt _ _
      rw [Rat.num_divInt_den, Int.mul_one] at h
      rw [← h]
      congr 1
      rw [Rat.divInt_eq_div, Rat.intCast_natCast]
      grind
    have h2 : (m : Rat) = Rat.divInt m 1 := by
      rw [Rat.divInt_eq_div]
      grind
    rw [h1, h2, Rat.divInt_eq_divInt_iff (Kit.den_ne q) (by decide), Int.mul_one] at a
    exact a
  have e : q.num.natAbs * d = m.natAbs * q.den := by
    have z := congrArg Int.natAbs e0
    rw [Int.natAbs_mul, Int.natAbs_mul, Int.natAbs_natCast, Int.natAbs_natCast] at z
    exact z
  have c : Nat.Coprime q.num.natAbs q.den := q.reduced
  have dd : q.den ∣ d := by
    have d1 : q.den ∣ q.num.natAbs * d := ⟨m.natAbs, by rw [e, Nat.mul_comm]⟩
    exact Nat.Coprime.dvd_of_dvd_mul_left c.symm d1
  have dl : q.den ≤ d := Nat.le_of_dvd h0 dd
  refine ⟨?_, by omega⟩
  have l : q.num.natAbs ≤ m.natAbs := by
    refine Nat.le_of_mul_le_mul_right (c := d) ?_ h0
    rw [e]
    exact Nat.mul_le_mul_left _ dl
  omega
/-- lists of fractions, compared -/
theorem qs_cmp (p : List Rat) : (D.lst (p.map qD)).cmp = true ∧ (D.tup (p.map qD)).cmp = true := by
  have z : ∀ p : List Rat, D.ok.okAll (p.map qD) = true ∧ PyData.canLayAll0 (D.py.pyAll (p.map qD)) = true ∧ PyData.depthAll (D.py.pyAll (p.map qD)) ≤ 1 := fun p => by
    induction p with
    | nil => exact ⟨rfl, rfl, by decide⟩
    | cons x p ih =>
      refine ⟨?_, ?_, ?_⟩
      · simp only [List.map_cons, D.ok.okAll, ih.1]
        rfl
      · simp only [List.map_cons, D.py.pyAll, PyData.canLayAll0, ih.2.1]
        rfl
      · have := ih.2.2
        simp only [List.map_cons, D.py.pyAll, PyData.depthAll, qD, D.py, PyData.depth]
        omega
  obtain ⟨a, b, c⟩ := z p
  refine ⟨cmp_lay ?_ ?_ ?_, cmp_lay ?_ ?_ ?_⟩
  · simpa only [D.ok] using a
  · simpa only [D.py, PyData.canLay0] using b
  · simp only [D.py, PyData.depth]
    omega
  · simpa only [D.ok] using a
  · simpa only [D.py, PyData.canLay0] using b
  · simp only [D.py, PyData.depth]
    omega
theorem oNe_lnil (p : List Rat) : oNe (.lst (p.map qD)) (.lst []) = some (!decide (p = [])) := by
  unfold oNe oEq
  rw [(qs_cmp p).1, show (D.lst []).cmp = true from rfl]
  simp only [Bool.and_self, if_true, D.py, PyData.eqv]
  cases p <;> rfl
theorem oNe_tnil (p : List Rat) : oNe (.tup (p.map qD)) (.tup []) = some (!decide (p = [])) := by
  unfold oNe oEq
  rw [(qs_cmp p).2, show (D.tup []).cmp = true from rfl]
  simp only [Bool.and_self, if_true, D.py, PyData.eqv]
  cases p <;> rfl
theorem oEq_zero (q : Rat) : oEq (qD q) (.tup [.int 0, .int 1]) = some (decide (q = 0)) := by
  have z := oNe_zero q
  unfold oNe at z
  cases h : oEq (qD q) (.tup [.int 0, .int 1]) with
  | none => rw [h] at z; simp at z
  | some b =>
    rw [h] at z
    simp at z
    rw [z]
theorem oIdx_last {xs : List D} {d : D} (h : xs.getLast? = some d) : oIdx (.lst xs) (.int (-1)) = some d ∧ oIdx (.tup xs) (.int (-1)) = some d := by
  have e : xs ≠ [] := by
    intro e
    subst e
    simp at h
  have l := List.length_pos_iff.mpr e
  rw [List.getLast?_eq_getElem?] at h
  have i : L2.ixN xs.length (-1) = some (xs.length - 1) := by
    unfold L2.ixN
    rw [if_neg (by decide), if_pos (by omega)]
    congr 1
    omega
  constructor
  · unfold oIdx
    simp only [i, Option.bind_some, h]
  · unfold oIdx
    simp only [i, Option.bind_some, h]
end Ev
namespace KP
open PySem Ev Ps
variable {s : DS}
theorem trim_while : ∀ (n f : Nat) (a : Slot) (p : List Rat), p.length ≤ n → n < f → whileN (tAnd (tCmp oNe (pV 1) (pE (eLst aNil))) (tCmp oEq (pE (eIdx (pV 1) (pE (e1 oNeg (pE (eC (.int 1))))))) (pE (eC c_ZERO)))) (sPop 1) f [a, .mu (p.map qD)] s = .nx [a, .mu ((trim p).map qD)] s := by
  intro n
  induction n with
  | zero =>
    intro f a p hp hf
    obtain ⟨f, rfl⟩ : ∃ k, f = k + 1 := ⟨f - 1, by omega⟩
    obtain rfl : p = [] := List.eq_nil_of_length_eq_zero (by omega)
    have z := oNe_lnil []
    rw [whileN, trim_eq]
    simp at z
    simp [z]
  | succ n ih =>
    intro f a p hp hf
    obtain ⟨f, rfl⟩ : ∃ k, f = k + 1 := ⟨f - 1, by omega⟩
    have z := oNe_lnil p
    by_cases e : p = []
    · subst e
      rw [whileN, trim_eq]
      simp at z
      simp [z]
    · simp [e] at z
      obtain ⟨c, hc⟩ : ∃ c, p.getLast? = some c := ⟨_, List.getLast?_eq_some_getLast e⟩
      have ix := (oIdx_last (xs := p.map qD) (d := qD c) (by rw [List.getLast?_map, hc]; rfl)).1
      have q : oEq (qD c) c_ZERO = some (decide (c = 0)) := oEq_zero c
      rw [whileN, trim_eq]
      by_cases h0 : c = 0
      · subst h0
        rw [if_pos hc]
        simp at q
        have r := ih f a p.dropLast (by rw [List.length_dropLast]; omega) (by omega)
        rw [List.map_dropLast] at r
        simp [z, ix, q, sPop, e, r]
      · have n0 : ¬ p.getLast? = some 0 := by
          rw [hc]
          simpa using h0
        rw [if_neg n0]
        simp [h0] at q
        simp [z, ix, q]
theorem trimmed_ok {p : List Rat} (h : p.length ≤ 10000) {d : D} (hd : d = .tup (p.map qD) ∨ d = .lst (p.map qD)) : F_trimmed [d] s = .ok (.im (.tup ((trim p).map qD))) s := by
  have w := @trim_while s 10000 20000 (.im d) p h (by omega)
  rcases hd with rfl | rfl
  · simp [F_trimmed, b_trimmed, w]
  · simp [F_trimmed, b_trimmed, w]
end KP

namespace KP
open PySem Ev
def p_summed_1 : Stm := (sSet 2 (e2 oMax (pE (e1 oLenR (pV 0))) (pE (e1 oLenR (pV 1)))))
def p_summed_2 : Stm := (sSet 3 (e2 oAdd (pE (e1 oList (pV 0))) (pE (e2 oMul (pE (eLst (aCons (eC c_ZERO) aNil))) (pE (e2 oSub (pV 2) (pE (e1 oLenR (pV 0)))))))))
def p_summed_4 : Stm := (sSet 4 (e2 oAdd (pE (e1 oList (pV 1))) (pE (e2 oMul (pE (eLst (aCons (eC c_ZERO) aNil))) (pE (e2 oSub (pV 2) (pE (e1 oLenR (pV 1)))))))))
def p_summed_6 : Stm := (sRet (eCall F_trimmed (aCons (eLc (iZip (eV 3) (eV 4)) (.tp [(.nm 5), (.nm 6)]) tYes (eCall F_plus (aCons (eV 5) (aCons (eV 6) aNil))) [5, 6]) aNil)))
def p_summed : Stm := (sSeq p_summed_1 (sSeq p_summed_2 (sSeq (sFrz 3) (sSeq p_summed_4 (sSeq (sFrz 4) p_summed_6)))))
theorem b_summed_p : b_summed = p_summed := rfl
def p_scaled_1 : Stm := (sRet (eCall F_trimmed (aCons (eLc (iP (eV 1)) (.nm 2) tYes (eCall F_times (aCons (eV 0) (aCons (eV 2) aNil))) [2]) aNil)))
def p_scaled : Stm := p_scaled_1
theorem b_scaled_p : b_scaled = p_scaled := rfl
def p_multiplied_1 : Stm := (sSet 2 (e2 oMul (pE (eLst (aCons (eC c_ZERO) aNil))) (pE (e2 oMax (pE (eC (.int 0))) (pE (e2 oSub (pE (e2 oAdd (pE (e1 oLenR (pV 0))) (pE (e1 oLenR (pV 1))))) (pE (eC (.int 1)))))))))
def p_multiplied_2b_1b_1 : Stm := (sPutAt 2 (pE (e2 oAdd (pV 3) (pV 5))) (eCall F_plus (aCons (eIdx (pV 2) (pE (e2 oAdd (pV 3) (pV 5)))) (aCons (eCall F_times (aCons (eV 4) (aCons (eV 6) aNil))) aNil))))
def p_multiplied_2b_1 : Stm := (sFor (iEnum (eV 1)) (.tp [(.nm 5), (.nm 6)]) p_multiplied_2b_1b_1)
def p_multiplied_2 : Stm := (sFor (iEnum (eV 0)) (.tp [(.nm 3), (.nm 4)]) p_multiplied_2b_1)
def p_multiplied : Stm := (sSeq p_multiplied_1 (sSeq p_multiplied_2 (sRet (eCallB F_trimmed (bCons (pV 2) aNil)))))
theorem b_multiplied_p : b_multiplied = p_multiplied := rfl
def p_divided_1 : Stm := (sPar 2 3 (e1 oList (pV 0)) (e2 oMul (pE (eLst (aCons (eC c_ZERO) aNil))) (pE (e2 oMax (pE (eC (.int 0))) (pE (e2 oAdd (pE (e2 oSub (pE (e1 oLenR (pV 0))) (pE (e1 oLenR (pV 1))))) (pE (eC (.int 1)))))))))
def p_divided_2b_1 : Stm := (sSet 5 (eCall F_over (aCons (eIdx (pV 2) (pE (e2 oSub (pE (e2 oAdd (pV 4) (pE (e1 oLenR (pV 1))))) (pE (eC (.int 1)))))) (aCons (eIdx (pV 1) (pE (e1 oNeg (pE (eC (.int 1)))))) aNil))))
def p_divided_2b_3b_1 : Stm := (sPutAt 2 (pE (e2 oAdd (pV 4) (pV 6))) (eCall F_plus (aCons (eIdx (pV 2) (pE (e2 oAdd (pV 4) (pV 6)))) (aCons (eCall F_minus (aCons (eCall F_times (aCons (eV 5) (aCons (eV 7) aNil))) aNil)) aNil))))
def p_divided_2b_3 : Stm := (sFor (iEnum (eV 1)) (.tp [(.nm 6), (.nm 7)]) p_divided_2b_3b_1)
def p_divided_2 : Stm := (sFor (iRangeD (pE (e2 oSub (pE (e1 oLenR (pV 3))) (pE (eC (.int 1))))) (pE (e1 oNeg (pE (eC (.int 1)))))) (.nm 4) (sSeq p_divided_2b_1 (sSeq (sPutAt 3 (pV 4) (eV 5)) p_divided_2b_3)))
def p_divided_3 : Stm := (sRet (eTup (aCons (eCallB F_trimmed (bCons (pV 3) aNil)) (aCons (eCallB F_trimmed (bCons (pV 2) aNil)) aNil))))
def p_divided : Stm := (sSeq p_divided_1 (sSeq p_divided_2 p_divided_3))
theorem b_divided_p : b_divided = p_divided := rfl
def p_with_cofactors_1 : Stm := (sPar 2 3 (eTup (aCons (eV 0) (aCons (eTup (aCons (eC c_ONE) aNil)) (aCons (eTup aNil) aNil)))) (eTup (aCons (eV 1) (aCons (eTup aNil) (aCons (eTup (aCons (eC c_ONE) aNil)) aNil)))))
def p_with_cofactors_2b_1 : Stm := (sSet 4 (eCall F_scaled (aCons (eCall F_minus (aCons (eC c_ONE) aNil)) (aCons (eIdx (pE (eCall F_divided (aCons (eIdx (pV 2) (pE (eC (.int 0)))) (aCons (eIdx (pV 3) (pE (eC (.int 0)))) aNil)))) (pE (eC (.int 0)))) aNil))))
def p_with_cofactors_2b_2 : Stm := (sSet 5 (e1 oTuple (pE (eLc (iZip (eV 2) (eV 3)) (.tp [(.nm 7), (.nm 8)]) tYes (eCall F_summed (aCons (eV 7) (aCons (eCall F_multiplied (aCons (eV 4) (aCons (eV 8) aNil))) aNil))) [7, 8]))))
def p_with_cofactors_2 : Stm := (sWhile 20000 (tCmp oNe (pE (eIdx (pV 3) (pE (eC (.int 0))))) (pE (eTup aNil))) (sSeq p_with_cofactors_2b_1 (sSeq p_with_cofactors_2b_2 (sPar 2 3 (eV 3) (eV 5)))))
def p_with_cofactors_3 : Stm := (sSet 6 (eCall F_over (aCons (eC c_ONE) (aCons (eIdx (pE (eIdx (pV 2) (pE (eC (.int 0))))) (pE (e1 oNeg (pE (eC (.int 1)))))) aNil))))
def p_with_cofactors_4 : Stm := (sRet (e1 oTuple (pE (eLc (iP (eV 2)) (.nm 7) tYes (eCall F_scaled (aCons (eV 6) (aCons (eV 7) aNil))) [7]))))
def p_with_cofactors : Stm := (sSeq p_with_cofactors_1 (sSeq p_with_cofactors_2 (sSeq p_with_cofactors_3 p_with_cofactors_4)))
theorem b_with_cofactors_p : b_with_cofactors = p_with_cofactors := rfl
def p_L_poly_plus_1 : Stm := (sSet 3 (e2 oMax (pE (e1 oLenR (pV 0))) (pE (e1 oLenR (pV 1)))))
def p_L_poly_plus_2 : Stm := (sPar 4 5 (e2 oAdd (pE (e1 oList (pV 0))) (pE (e2 oMul (pE (eLst (aCons (eTup (aCons (eC (.int 0)) (aCons (eC (.int 1)) aNil))) aNil))) (pE (e2 oSub (pV 3) (pE (e1 oLenR (pV 0)))))))) (e2 oAdd (pE (e1 oList (pV 1))) (pE (e2 oMul (pE (eLst (aCons (eTup (aCons (eC (.int 0)) (aCons (eC (.int 1)) aNil))) aNil))) (pE (e2 oSub (pV 3) (pE (e1 oLenR (pV 1)))))))))
def p_L_poly_plus_5 : Stm := (sRet (eCall F_L_trim (aCons (eLc (iZip (eV 4) (eV 5)) (.tp [(.nm 6), (.nm 7)]) tYes (eCall F_L_plus (aCons (eV 6) (aCons (eCall F_L_times (aCons (eV 2) (aCons (eV 7) aNil))) aNil))) [6, 7]) aNil)))
def p_L_poly_plus : Stm := (sSeq p_L_poly_plus_1 (sSeq p_L_poly_plus_2 (sSeq (sFrz 4) (sSeq (sFrz 5) p_L_poly_plus_5))))
theorem b_L_poly_plus_p : b_L_poly_plus = p_L_poly_plus := rfl
def p_L_poly_times_1 : Stm := (sSet 2 (e2 oMul (pE (eLst (aCons (eTup (aCons (eC (.int 0)) (aCons (eC (.int 1)) aNil))) aNil))) (pE (e2 oMax (pE (eC (.int 0))) (pE (e2 oSub (pE (e2 oAdd (pE (e1 oLenR (pV 0))) (pE (e1 oLenR (pV 1))))) (pE (eC (.int 1)))))))))
def p_L_poly_times_2b_1b_1 : Stm := (sPutAt 2 (pE (e2 oAdd (pV 3) (pV 5))) (eCall F_L_plus (aCons (eIdx (pV 2) (pE (e2 oAdd (pV 3) (pV 5)))) (aCons (eCall F_L_times (aCons (eV 4) (aCons (eV 6) aNil))) aNil))))
def p_L_poly_times_2b_1 : Stm := (sFor (iEnum (eV 1)) (.tp [(.nm 5), (.nm 6)]) p_L_poly_times_2b_1b_1)
def p_L_poly_times_2 : Stm := (sFor (iEnum (eV 0)) (.tp [(.nm 3), (.nm 4)]) p_L_poly_times_2b_1)
def p_L_poly_times : Stm := (sSeq p_L_poly_times_1 (sSeq p_L_poly_times_2 (sRet (eCallB F_L_trim (bCons (pV 2) aNil)))))
theorem b_L_poly_times_p : b_L_poly_times = p_L_poly_times := rfl
def p_L_poly_parted_1 : Stm := (sPar 2 3 (e1 oList (pV 0)) (e2 oMul (pE (eLst (aCons (eTup (aCons (eC (.int 0)) (aCons (eC (.int 1)) aNil))) aNil))) (pE (e2 oMax (pE (eC (.int 0))) (pE (e2 oAdd (pE (e2 oSub (pE (e1 oLenR (pV 0))) (pE (e1 oLenR (pV 1))))) (pE (eC (.int 1)))))))))
def p_L_poly_parted_2b_1 : Stm := (sPar 4 5 (eCall F_L_over (aCons (eIdx (pV 2) (pE (e1 oNeg (pE (eC (.int 1)))))) (aCons (eIdx (pV 1) (pE (e1 oNeg (pE (eC (.int 1)))))) aNil))) (e2 oSub (pE (e1 oLenR (pV 2))) (pE (e1 oLenR (pV 1)))))
def p_L_poly_parted_2b_3b_1 : Stm := (sPutAt 2 (pE (e2 oAdd (pV 5) (pV 6))) (eCall F_L_plus (aCons (eIdx (pV 2) (pE (e2 oAdd (pV 5) (pV 6)))) (aCons (eCall F_L_minus (aCons (eCall F_L_times (aCons (eV 4) (aCons (eIdx (pV 1) (pV 6)) aNil))) aNil)) aNil))))
def p_L_poly_parted_2b_3 : Stm := (sFor (iRange1 (pE (e1 oLenR (pV 1)))) (.nm 6) p_L_poly_parted_2b_3b_1)
def p_L_poly_parted_2 : Stm := (sWhile 20000 (tCmp oGe (pE (e1 oLenR (pV 2))) (pE (e1 oLenR (pV 1)))) (sSeq p_L_poly_parted_2b_1 (sSeq (sPutAt 3 (pV 5) (eV 4)) (sSeq p_L_poly_parted_2b_3 (sPop 2)))))
def p_L_poly_parted_3 : Stm := (sRet (eTup (aCons (eCallB F_L_trim (bCons (pV 3) aNil)) (aCons (eCallB F_L_trim (bCons (pV 2) aNil)) aNil))))
def p_L_poly_parted : Stm := (sSeq p_L_poly_parted_1 (sSeq p_L_poly_parted_2 p_L_poly_parted_3))
theorem b_L_poly_parted_p : b_L_poly_parted = p_L_poly_parted := rfl
def p_L_poly_common_1b_1 : Stm := (sPut (.tp [(.nm 0), (.nm 1)]) (eTup (aCons (eV 1) (aCons (eIdx (pE (eCall F_L_poly_parted (aCons (eV 0) (aCons (eV 1) aNil)))) (pE (eC (.int 1)))) aNil))))
def p_L_poly_common_1 : Stm := (sWhile 20000 (tCmp oNe (pV 1) (pE (eTup aNil))) p_L_poly_common_1b_1)
def p_L_poly_common_2 : Stm := (sRet (e1 oTuple (pE (eLc (iP (eV 0)) (.nm 2) tYes (eCall F_L_over (aCons (eV 2) (aCons (eIdx (pV 0) (pE (e1 oNeg (pE (eC (.int 1)))))) aNil))) [2]))))
def p_L_poly_common : Stm := (sSeq p_L_poly_common_1 p_L_poly_common_2)
theorem b_L_poly_common_p : b_L_poly_common = p_L_poly_common := rfl
end KP

/-! KPQ: fractions of great upper parts: own work. -/
namespace Ev
open PySem
/-- bounds of upper and lower parts -/
def BN : Nat := 2 ^ 100000
def BD : Nat := 2 ^ 4400
def Sq (q : Rat) : Prop := q.num.natAbs < BN ∧ q.den < BD
theorem BN_of {n k : Nat} (h : n < 2 ^ k) (l : k ≤ 100000) : n < BN := Nat.lt_of_lt_of_le h (Nat.pow_le_pow_right (by decide) l)
theorem BD_of {n k : Nat} (h : n < 2 ^ k) (l : k ≤ 4400) : n < BD := Nat.lt_of_lt_of_le h (Nat.pow_le_pow_right (by decide) l)
theorem Sq.of {q : Rat} {n : Nat} (h : Sz n q) (l : n ≤ 4400) : Sq q := ⟨BN_of h.1 (by omega), BD_of h.2 l⟩
theorem CD.sq {d N : Nat} {q : Rat} (h : CD d N q) (h1 : N < BN) (h2 : d < BD) : Sq q := by
  obtain ⟨h0, m, a, b⟩ := h
  have e0 : q.num * (d : Int) = m * q.den := by
    have h1 : q * (d : Rat) = Rat.divInt (q.num * (d : Int)) q.den := by
      have h : Rat.divInt q.num q.den * Rat.divInt (d : Int) 1 = Rat.divInt (q.num * (d : Int)) ((q.den : Int) * 1) := Rat.divInt_mul_divInt _ _
      rw [Rat.num_divInt_den, Int.mul_one] at h
      rw [← h]
      congr 1
      rw [Rat.divInt_eq_div, Rat.intCast_natCast]
      grind
    have h2 : (m : Rat) = Rat.divInt m 1 := by
      rw [Rat.divInt_eq_div]
      grind
    rw [h1, h2, Rat.divInt_eq_divInt_iff (Kit.den_ne q) (by decide), Int.mul_one] at a
    exact a
  have e : q.num.natAbs * d = m.natAbs * q.den := by
    have z := congrArg Int.natAbs e0
    rw [Int.natAbs_mul, Int.natAbs_mul, Int.natAbs_natCast, Int.natAbs_natCast] at z
    exact z
  have c : Nat.Coprime q.num.natAbs q.den := q.reduced
  have dd : q.den ∣ d := by
    have d1 : q.den ∣ q.num.natAbs * d := ⟨m.natAbs, by rw [e, Nat.mul_comm]⟩
    exact Nat.Coprime.dvd_of_dvd_mul_left c.symm d1
  have dl : q.den ≤ d := Nat.le_of_dvd h0 dd
  refine ⟨?_, by omega⟩
  have l : q.num.natAbs ≤ m.natAbs := by
    refine Nat.le_of_mul_le_mul_right (c := d) ?_ h0
    rw [e]
    exact Nat.mul_le_mul_left _ dl
  omega
theorem mulNN {i j : Int} (hi : i.natAbs < BN) (hj : j.natAbs < BN) : MulOk i j = true := mulOk (n := 100000) (m := 100000) hi hj (by omega)
theorem BD_BN {n : Nat} (h : n < BD) : n < BN := BN_of (k := 4400) h (by omega)
theorem two_BD {a b : Nat} (ha : a < BD) (hb : b < BD) : a * b < 2 ^ 8900 := Kit.two_pow_mul (n := 4400) (m := 4400) ha hb (by omega)
end Ev
namespace KP
open PySem Ev
variable {s : DS}
theorem number_q {u l : Int} (hl : l ≠ 0) (hv : l.natAbs < 2 ^ 8900) : Kit.F_number [.int u, .int l] s = .ok (.im (qD (Rat.divInt u l))) s := by
  have e1 := frac_num (u := u) hl
  have e2 := frac_den (u := u) hl
  have g0 : Nat.gcd u.natAbs l.natAbs ≠ 0 := by
    intro z
    have := Nat.eq_zero_of_gcd_eq_zero_right z
    omega
  have gl : Nat.gcd u.natAbs l.natAbs ≤ l.natAbs := Nat.gcd_le_right _ (by omega)
  unfold Kit.F_number Kit.b_number
  by_cases h : 0 < l
  · rw [if_pos h, Int.one_mul] at e1 e2
    have d : ∀ i : Int, DivOk i (Nat.gcd u.natAbs l.natAbs : Nat) = true := fun i => divOk (n := 8900) (by omega) (by rw [Int.natAbs_natCast]; omega) (by omega)
    simp [h, oDiv_ii (d _), e1, e2, qD, sizeLine]
  · rw [if_neg h, Int.neg_one_mul] at e1 e2
    have d : ∀ i : Int, DivOk i (-(Nat.gcd u.natAbs l.natAbs : Nat)) = true := fun i => divOk (n := 8900) (by omega) (by rw [Int.natAbs_neg, Int.natAbs_natCast]; omega) (by omega)
    simp [h, oDiv_ii (d _), e1, e2, qD, sizeLine]
theorem L_no_q {u l : Int} (hl : l ≠ 0) (hv : l.natAbs < 2 ^ 8900) : Kit.F_L_no [.int u, .int l] s = .ok (.im (qD (Rat.divInt u l))) s := by
  have e1 := frac_num (u := u) hl
  have e2 := frac_den (u := u) hl
  have g0 : Nat.gcd u.natAbs l.natAbs ≠ 0 := by
    intro z
    have := Nat.eq_zero_of_gcd_eq_zero_right z
    omega
  have gl : Nat.gcd u.natAbs l.natAbs ≤ l.natAbs := Nat.gcd_le_right _ (by omega)
  have gc := @Kit.L_common_ok s u l (Nat.lt_trans hv (Nat.pow_lt_pow_right (by omega) (by omega)))
  have gs : (Nat.gcd u.natAbs l.natAbs : Int).natAbs < 2 ^ 8900 := by rw [Int.natAbs_natCast]; omega
  unfold Kit.F_L_no Kit.b_L_no
  by_cases h : 0 < l
  · rw [if_pos h, Int.one_mul] at e1 e2
    have d : ∀ i : Int, DivOk i (Nat.gcd u.natAbs l.natAbs : Nat) = true := fun i => divOk (n := 8900) (by omega) gs (by omega)
    have m : MulOk (Nat.gcd u.natAbs l.natAbs : Nat) 1 = true := mulOk (n := 8900) (m := 1) gs (by decide) (by omega)
    simp [h, gc, oMul_ii m, oDiv_ii (d _), e1, e2, qD, sizeLine]
  · rw [if_neg h, Int.neg_one_mul] at e1 e2
    have d : ∀ i : Int, DivOk i (-(Nat.gcd u.natAbs l.natAbs : Nat)) = true := fun i => divOk (n := 8900) (by omega) (by rw [Int.natAbs_neg]; exact gs) (by omega)
    have m : MulOk (Nat.gcd u.natAbs l.natAbs : Nat) (-1) = true := mulOk (n := 8900) (m := 1) gs (by decide) (by omega)
    simp [h, gc, oMul_ii m, Int.mul_neg, oDiv_ii (d _), e1, e2, qD, sizeLine]
theorem q_number : KP.F_number = Kit.F_number := rfl
theorem q_L_no : KP.F_L_no = Kit.F_L_no := rfl
theorem plus_q {p q : Rat} (hp : Sq p) (hq : Sq q) : F_plus [qD p, qD q] s = .ok (.im (qD (p + q))) s := by
  have m1 : MulOk p.num q.den = true := mulNN hp.1 (by rw [Int.natAbs_natCast]; exact BD_BN hq.2)
  have m2 : MulOk q.num p.den = true := mulNN hq.1 (by rw [Int.natAbs_natCast]; exact BD_BN hp.2)
  have m3 : MulOk p.den q.den = true := mulNN (by rw [Int.natAbs_natCast]; exact BD_BN hp.2) (by rw [Int.natAbs_natCast]; exact BD_BN hq.2)
  have n := @number_q s (p.num * q.den + q.num * p.den) ((p.den : Int) * q.den) (Int.mul_ne_zero (Kit.den_ne p) (Kit.den_ne q)) (by rw [Int.natAbs_mul, Int.natAbs_natCast, Int.natAbs_natCast]; exact two_BD hp.2 hq.2)
  rw [num_add_eq, ← q_number] at n
  unfold F_plus b_plus
  simp only [qD] at n ⊢
  simp [Kit.idx0, Kit.idx1, oMul_ii m1, oMul_ii m2, oMul_ii m3, n]
theorem times_q {p q : Rat} (hp : Sq p) (hq : Sq q) : F_times [qD p, qD q] s = .ok (.im (qD (p * q))) s := by
  have m1 : MulOk p.num q.num = true := mulNN hp.1 hq.1
  have m3 : MulOk p.den q.den = true := mulNN (by rw [Int.natAbs_natCast]; exact BD_BN hp.2) (by rw [Int.natAbs_natCast]; exact BD_BN hq.2)
  have n := @number_q s (p.num * q.num) ((p.den : Int) * q.den) (Int.mul_ne_zero (Kit.den_ne p) (Kit.den_ne q)) (by rw [Int.natAbs_mul, Int.natAbs_natCast, Int.natAbs_natCast]; exact two_BD hp.2 hq.2)
  rw [num_mul_eq, ← q_number] at n
  unfold F_times b_times
  simp only [qD] at n ⊢
  simp [Kit.idx0, Kit.idx1, oMul_ii m1, oMul_ii m3, n]
theorem L_plus_q {p q : Rat} (hp : Sq p) (hq : Sq q) : F_L_plus [qD p, qD q] s = .ok (.im (qD (p + q))) s := by
  have m1 : MulOk p.num q.den = true := mulNN hp.1 (by rw [Int.natAbs_natCast]; exact BD_BN hq.2)
  have m2 : MulOk q.num p.den = true := mulNN hq.1 (by rw [Int.natAbs_natCast]; exact BD_BN hp.2)
  have m3 : MulOk p.den q.den = true := mulNN (by rw [Int.natAbs_natCast]; exact BD_BN hp.2) (by rw [Int.natAbs_natCast]; exact BD_BN hq.2)
  have n := @L_no_q s (p.num * q.den + q.num * p.den) ((p.den : Int) * q.den) (Int.mul_ne_zero (Kit.den_ne p) (Kit.den_ne q)) (by rw [Int.natAbs_mul, Int.natAbs_natCast, Int.natAbs_natCast]; exact two_BD hp.2 hq.2)
  rw [num_add_eq, ← q_L_no] at n
  unfold F_L_plus b_L_plus
  simp only [qD] at n ⊢
  simp [Kit.idx0, Kit.idx1, oMul_ii m1, oMul_ii m2, oMul_ii m3, n]
theorem L_times_q {p q : Rat} (hp : Sq p) (hq : Sq q) : F_L_times [qD p, qD q] s = .ok (.im (qD (p * q))) s := by
  have m1 : MulOk p.num q.num = true := mulNN hp.1 hq.1
  have m3 : MulOk p.den q.den = true := mulNN (by rw [Int.natAbs_natCast]; exact BD_BN hp.2) (by rw [Int.natAbs_natCast]; exact BD_BN hq.2)
  have n := @L_no_q s (p.num * q.num) ((p.den : Int) * q.den) (Int.mul_ne_zero (Kit.den_ne p) (Kit.den_ne q)) (by rw [Int.natAbs_mul, Int.natAbs_natCast, Int.natAbs_natCast]; exact two_BD hp.2 hq.2)
  rw [num_mul_eq, ← q_L_no] at n
  unfold F_L_times b_L_times
  simp only [qD] at n ⊢
  simp [Kit.idx0, Kit.idx1, oMul_ii m1, oMul_ii m3, n]
theorem over_eq {p q : Rat} (h : q ≠ 0) : Rat.divInt (p.num * q.den) ((p.den : Int) * q.num) = p / q := by
  have e : Rat.divInt p.num p.den * Rat.divInt q.den q.num = Rat.divInt (p.num * q.den) ((p.den : Int) * q.num) := Rat.divInt_mul_divInt _ _
  rw [← e, Rat.num_divInt_den, Rat.div_def, Rat.inv_def]
theorem over_q {p q : Rat} (hp : Sq p) (hq : Sq q) (hn : q.num.natAbs < BD) (h0 : q ≠ 0) : F_over [qD p, qD q] s = .ok (.im (qD (p / q))) s := by
  have m1 : MulOk p.num q.den = true := mulNN hp.1 (by rw [Int.natAbs_natCast]; exact BD_BN hq.2)
  have m2 : MulOk p.den q.num = true := mulNN (by rw [Int.natAbs_natCast]; exact BD_BN hp.2) hq.1
  have qn : q.num ≠ 0 := fun z => h0 (Rat.num_eq_zero.mp z)
  have n := @number_q s (p.num * q.den) ((p.den : Int) * q.num) (Int.mul_ne_zero (Kit.den_ne p) qn) (by rw [Int.natAbs_mul, Int.natAbs_natCast]; exact two_BD hp.2 hn)
  rw [over_eq h0, ← q_number] at n
  unfold F_over b_over
  rw [fnOf_def, if_pos (by rfl)]
  simp only [qD] at n ⊢
  simp [Kit.idx0, Kit.idx1, oMul_ii m1, oMul_ii m2, n]
theorem L_over_q {p q : Rat} (hp : Sq p) (hq : Sq q) (hn : q.num.natAbs < BD) (h0 : q ≠ 0) : F_L_over [qD p, qD q] s = .ok (.im (qD (p / q))) s := by
  have m1 : MulOk p.num q.den = true := mulNN hp.1 (by rw [Int.natAbs_natCast]; exact BD_BN hq.2)
  have m2 : MulOk p.den q.num = true := mulNN (by rw [Int.natAbs_natCast]; exact BD_BN hp.2) hq.1
  have qn : q.num ≠ 0 := fun z => h0 (Rat.num_eq_zero.mp z)
  have n := @L_no_q s (p.num * q.den) ((p.den : Int) * q.num) (Int.mul_ne_zero (Kit.den_ne p) qn) (by rw [Int.natAbs_mul, Int.natAbs_natCast]; exact two_BD hp.2 hn)
  rw [over_eq h0, ← q_L_no] at n
  unfold F_L_over b_L_over
  rw [fnOf_def, if_pos (by rfl)]
  simp only [qD] at n ⊢
  simp [Kit.idx0, Kit.idx1, oMul_ii m1, oMul_ii m2, n]
end KP

/-! KPB: sums, multiples, products of polynomials: own work. -/
namespace Ps
theorem Tr.len {r : List Rat} {n : Nat} (h : Tr r) (z : ∀ i, n ≤ i → (po r).at_ i = 0) : r.length ≤ n := by
  by_cases e : r = []
  · subst e
    exact Nat.zero_le _
  · by_cases g : r.length ≤ n
    · exact g
    · exact absurd (z _ (by omega)) (h.last e)
theorem all_at {r : List Rat} {P : Rat → Prop} (h : ∀ i, P ((po r).at_ i)) : ∀ x ∈ r, P x := fun x hx => by
  obtain ⟨i, hi⟩ := List.mem_iff_getElem?.mp hx
  have z := h i
  rw [po_get hi] at z
  exact z
theorem at_all {r : List Rat} {P : Rat → Prop} (h : ∀ x ∈ r, P x) (h0 : P 0) (i : Nat) : P ((po r).at_ i) := by
  rw [po_at, List.getD_eq_getElem?_getD]
  cases e : r[i]? with
  | none => exact h0
  | some c => exact h c (List.mem_of_getElem? e)
theorem po_zip {a b : List Rat} (h : a.length = b.length) : po (List.zipWith (· + ·) a b) = po a + po b := PS.ext fun n => by
  rw [add_at, po_at, po_at, po_at, List.getD_eq_getElem?_getD, List.getD_eq_getElem?_getD, List.getD_eq_getElem?_getD]
  by_cases l : n < a.length
  · rw [List.getElem?_zipWith, List.getElem?_eq_getElem l, List.getElem?_eq_getElem (by omega)]
    rfl
  · rw [List.getElem?_zipWith, List.getElem?_eq_none (by omega), List.getElem?_eq_none (by omega)]
    simp [Rat.add_zero]
theorem po_map (c : Rat) (p : List Rat) : po (p.map (c * ·)) = con c * po p := PS.ext fun n => by
  rw [mul_at, mulA_con, po_at, po_at, List.getD_eq_getElem?_getD, List.getD_eq_getElem?_getD, List.getElem?_map]
  cases p[n]? with
  | none => simp [Rat.mul_zero]
  | some x => rfl
end Ps
namespace Ev
open PySem Ps
theorem zeros_mul {k : Nat} (h : k ≤ 1000) : oMul (.lst [.tup [.int 0, .int 1]]) (.int k) = some (.mu ((List.replicate k (0 : Rat)).map qD)) := by
  have e : (List.replicate (k : Int).toNat [D.tup [.int 0, .int 1]]).flatten = (List.replicate k (0 : Rat)).map qD := by
    rw [Int.toNat_natCast, List.map_replicate]
    induction k with
    | zero => rfl
    | succ k ih =>
      rw [List.replicate_succ, List.flatten_cons, ih (by omega), List.replicate_succ]
      rfl
  have c : -(2 ^ 63) ≤ (k : Int) ∧ (k : Int) < 2 ^ 63 ∧ ([D.tup [.int 0, .int 1]]).length * (k : Int).toNat ≤ sizeLine := by
    refine ⟨by omega, by omega, ?_⟩
    rw [Int.toNat_natCast, List.length_singleton, Nat.one_mul]
    exact Nat.le_trans h (by decide)
  unfold oMul
  simp only
  rw [if_pos c, e]
theorem big {n : Nat} (h : n ≤ 100000) : n ≤ sizeLine := Nat.le_trans h (by decide)
theorem bigL {n : Nat} (h : n ≤ 100000) : n < sizeLine := Nat.lt_of_le_of_lt h (by decide)
end Ev
namespace KP
open PySem Ev Ps
variable {s : DS}
theorem L_trim_while : ∀ (n f : Nat) (a : Slot) (p : List Rat), p.length ≤ n → n < f → whileN (tAnd (tCmp oNe (pV 1) (pE (eLst aNil))) (tCmp oEq (pE (eIdx (pE (eIdx (pV 1) (pE (e1 oNeg (pE (eC (.int 1))))))) (pE (eC (.int 0))))) (pE (eC (.int 0))))) (sPop 1) f [a, .mu (p.map qD)] s = .nx [a, .mu ((trim p).map qD)] s := by
  intro n
  induction n with
  | zero =>
    intro f a p hp hf
    obtain ⟨f, rfl⟩ : ∃ k, f = k + 1 := ⟨f - 1, by omega⟩
    obtain rfl : p = [] := List.eq_nil_of_length_eq_zero (by omega)
    have z := oNe_lnil []
    rw [whileN, trim_eq]
    simp at z
    simp [z]
  | succ n ih =>
    intro f a p hp hf
    obtain ⟨f, rfl⟩ : ∃ k, f = k + 1 := ⟨f - 1, by omega⟩
    have z := oNe_lnil p
    by_cases e : p = []
    · subst e
      rw [whileN, trim_eq]
      simp at z
      simp [z]
    · simp [e] at z
      obtain ⟨c, hc⟩ : ∃ c, p.getLast? = some c := ⟨_, List.getLast?_eq_some_getLast e⟩
      have ix := (oIdx_last (xs := p.map qD) (d := qD c) (by rw [List.getLast?_map, hc]; rfl)).1
      have q : oIdx (qD c) (.int 0) = some (.int c.num) := Kit.idx0 _ _
      rw [whileN, trim_eq]
      by_cases h0 : c = 0
      · subst h0
        rw [if_pos hc]
        have r := ih f a p.dropLast (by rw [List.length_dropLast]; omega) (by omega)
        rw [List.map_dropLast] at r
        simp [z, ix, q, sPop, e, r]
      · have n0 : ¬ p.getLast? = some 0 := by
          rw [hc]
          simpa using h0
        rw [if_neg n0]
        have nn : ¬ c.num = 0 := fun w => h0 (Rat.num_eq_zero.mp w)
        simp [z, ix, q, nn]
theorem L_trim_ok {p : List Rat} (h : p.length ≤ 10000) {d : D} (hd : d = .tup (p.map qD) ∨ d = .lst (p.map qD)) : F_L_trim [d] s = .ok (.im (.tup ((trim p).map qD))) s := by
  have w := @L_trim_while s 10000 20000 (.im d) p h (by omega)
  rcases hd with rfl | rfl
  · simp [F_L_trim, b_L_trim, w]
  · simp [F_L_trim, b_L_trim, w]
theorem lc_zip (env : Lo) (h5 : 5 < env.length) (h6 : 6 < env.length) : ∀ a b : List Rat, (∀ x ∈ a, Sq x) → (∀ x ∈ b, Sq x) →
    lcL (.tp [(.nm 5), (.nm 6)]) tYes (eCall F_plus (aCons (eV 5) (aCons (eV 6) aNil))) env (zipD (a.map qD) (b.map qD)) s = .ok ((List.zipWith (· + ·) a b).map qD) s
  | [], b, _, _ => by simp [zipD, lcL]
  | x :: a, [], _, _ => by simp [zipD, lcL]
  | x :: a, y :: b, ha, hb => by
    have e : zipD ((x :: a).map qD) ((y :: b).map qD) = .tup [qD x, qD y] :: zipD (a.map qD) (b.map qD) := rfl
    have p := @plus_q s x y (ha x List.mem_cons_self) (hb y List.mem_cons_self)
    have i := lc_zip env h5 h6 a b (fun z hz => ha z (List.mem_cons_of_mem _ hz)) (fun z hz => hb z (List.mem_cons_of_mem _ hz))
    have g5 : ((env.set 5 (.im (qD x))).set 6 (.im (qD y)))[5]? = some (.im (qD x)) := by
      rw [List.getElem?_set_ne (by decide), List.getElem?_set_self h5]
    have g6 : ((env.set 5 (.im (qD x))).set 6 (.im (qD y)))[6]? = some (.im (qD y)) := List.getElem?_set_self (by rw [List.length_set]; exact h6)
    rw [e, lcL]
    simp [Tgt.put, Tgt.puts, g5, g6, p]
    simp [i]
theorem z0 : Sq (0 : Rat) := ⟨Nat.pow_pos (by decide), Nat.one_lt_two_pow (by decide)⟩
theorem summed_ok {p q : List Rat} (hp : ∀ x ∈ p, Sq x) (hq : ∀ x ∈ q, Sq x) (lp : p.length ≤ 500) (lq : q.length ≤ 500) : ∃ r, F_summed [.tup (p.map qD), .tup (q.map qD)] s = .ok (.im (.tup (r.map qD))) s ∧ Tr r ∧ po r = po p + po q := by
  obtain ⟨a, b, ea, eb, wd⟩ : ∃ a b : Nat, p.length + a = q.length + b ∧ p.length + a ≤ 500 ∧ (if (q.length : Int) > p.length then (q.length : Int) else p.length) = ((p.length + a : Nat) : Int) := by
    by_cases h : p.length < q.length
    · exact ⟨q.length - p.length, 0, by omega, by omega, by rw [if_pos (by omega)]; omega⟩
    · exact ⟨0, p.length - q.length, by omega, by omega, by rw [if_neg (by omega)]; omega⟩
  have m1 := zeros_mul (k := a) (by omega)
  have m2 := zeros_mul (k := b) (by omega)
  have A : ∀ x ∈ p ++ List.replicate a 0, Sq x := fun x hx => by
    rcases List.mem_append.mp hx with h | h
    · exact hp x h
    · rw [(List.mem_replicate.mp h).2]
      exact z0
  have B : ∀ x ∈ q ++ List.replicate b 0, Sq x := fun x hx => by
    rcases List.mem_append.mp hx with h | h
    · exact hq x h
    · rw [(List.mem_replicate.mp h).2]
      exact z0
  have le : (p ++ List.replicate a 0).length = (q ++ List.replicate b 0).length := by
    rw [List.length_append, List.length_append, List.length_replicate, List.length_replicate]
    exact ea
  have lz : (List.zipWith (· + ·) (p ++ List.replicate a 0) (q ++ List.replicate b 0)).length ≤ 10000 := by
    rw [List.length_zipWith, List.length_append, List.length_replicate]
    omega
  have t := @trimmed_ok s _ lz _ (.inr rfl)
  refine ⟨trim (List.zipWith (· + ·) (p ++ List.replicate a 0) (q ++ List.replicate b 0)), ?_, trim_tr _, ?_⟩
  · generalize hW : p.length + a = W at *
    have s1 : (W : Int) - p.length = a := by omega
    have s2 : (W : Int) - q.length = b := by omega
    have k1 : p.length + a ≤ sizeLine := big (by omega)
    have k2 : q.length + b ≤ sizeLine := big (by omega)
    have r1 : p.map qD ++ (List.replicate a (0 : Rat)).map qD = (p ++ List.replicate a 0).map qD := by rw [List.map_append]
    have r2 : q.map qD ++ (List.replicate b (0 : Rat)).map qD = (q ++ List.replicate b 0).map qD := by rw [List.map_append]
    have ea' : (p ++ List.replicate a (0 : Rat)).length = W := by rw [List.length_append, List.length_replicate]; exact hW
    have eb' : (q ++ List.replicate b (0 : Rat)).length = W := by rw [List.length_append, List.length_replicate]; omega
    have u1 : p_summed_1 [.im (.tup (p.map qD)), .im (.tup (q.map qD)), .un, .un, .un, .un, .un] s = .nx [.im (.tup (p.map qD)), .im (.tup (q.map qD)), .im (.int W), .un, .un, .un, .un] s := by
      unfold p_summed_1
      simp only [sSet_def, e2_def, pE_def, e1_def, pV_def, List.getElem?_cons_zero, List.getElem?_cons_succ, bind_ok, oLenR_t, lift_some, d_im, List.length_map, oMax_ii, wd, out_ok, slot_im, List.set_cons_zero, List.set_cons_succ]
    have u2 : p_summed_2 [.im (.tup (p.map qD)), .im (.tup (q.map qD)), .im (.int W), .un, .un, .un, .un] s = .nx [.im (.tup (p.map qD)), .im (.tup (q.map qD)), .im (.int W), .mu ((p ++ List.replicate a 0).map qD), .un, .un, .un] s := by
      rw [← r1]
      simp [p_summed_2, c_ZERO, s1, m1, k1]
    have u4 : p_summed_4 [.im (.tup (p.map qD)), .im (.tup (q.map qD)), .im (.int W), .im (.lst ((p ++ List.replicate a 0).map qD)), .un, .un, .un] s = .nx [.im (.tup (p.map qD)), .im (.tup (q.map qD)), .im (.int W), .im (.lst ((p ++ List.replicate a 0).map qD)), .mu ((q ++ List.replicate b 0).map qD), .un, .un] s := by
      rw [← r2]
      simp [p_summed_4, c_ZERO, s2, m2, k2]
    generalize p ++ List.replicate a (0 : Rat) = P at *
    generalize q ++ List.replicate b (0 : Rat) = Q at *
    have c := @lc_zip s [.im (.tup (p.map qD)), .im (.tup (q.map qD)), .im (.int (W : Int)), .im (.lst (P.map qD)), .im (.lst (Q.map qD)), .un, .un] (by show 5 < 7; decide) (by show 6 < 7; decide) _ _ A B
    have lz2 : (zipD (P.map qD) (Q.map qD)).length ≤ sizeLine := by
      unfold zipD
      rw [List.length_map, List.length_zip, List.length_map, List.length_map, ea', eb', Nat.min_self]
      exact big (by omega)
    generalize List.zipWith (· + ·) P Q = Z at *
    have u6 : p_summed_6 [.im (.tup (p.map qD)), .im (.tup (q.map qD)), .im (.int W), .im (.lst (P.map qD)), .im (.lst (Q.map qD)), .un, .un] s = .rt (.im (.tup ((trim Z).map qD))) s := by
      unfold p_summed_6
      simp [zipR, lz2, wipeOk, wipeE, Tgt.inn, Tgt.inns, c, t]
    unfold F_summed
    rw [fnOf_def, if_pos (by rfl), b_summed_p]
    simp [p_summed, u1, u2, u4, u6]
  · rw [trim_po, po_zip le, po_app_zeros, po_app_zeros]
end KP

/-! KPD: multiples and products of polynomials: own work. -/
namespace Ev
open PySem Ps
theorem putAt_ok {env : Lo} {s s' : DS} {i m : Nat} {k : Sm D} {f : Sm RV} {xs : List D} {d : D} (hf : f env s = .ok (.im d) s') (he : env[i]? = some (.mu xs)) (hk : k env s' = .ok (.int m) s') (hm : m < xs.length) : sPutAt i k f env s = .nx (env.set i (.mu (xs.set m d))) s' := by
  unfold sPutAt
  have e : L2.ixN xs.length (m : Int) = some m := by
    unfold L2.ixN
    rw [if_pos (by omega), if_pos (by omega), Int.toNat_natCast]
  rw [hf]
  simp only [out_ok, he, hk, e]
  rfl
end Ev
namespace KP
open PySem Ev Ps
variable {s : DS}
theorem lc_scale (c : Rat) (hc : Sq c) (a0 a1 : Slot) (h0 : a0 = .im (qD c)) : ∀ p : List Rat, (∀ x ∈ p, Sq x) →
    lcL (.nm 2) tYes (eCall F_times (aCons (eV 0) (aCons (eV 2) aNil))) [a0, a1, .un] (p.map qD) s = .ok ((p.map (c * ·)).map qD) s
  | [], _ => rfl
  | x :: p, h => by
    have t := @times_q s c x hc (h x List.mem_cons_self)
    have i := lc_scale c hc a0 a1 h0 p fun y hy => h y (List.mem_cons_of_mem _ hy)
    subst h0
    rw [List.map_cons, lcL]
    simp only [Tgt.put, List.set_cons_zero, List.set_cons_succ, tYes_def, eCall_def, aCons_def, aNil_def, eV_def, List.getElem?_cons_zero, List.getElem?_cons_succ, bind_ok, d_im, t, i, List.map_cons]
theorem scaled_ok {c : Rat} {p : List Rat} (hc : Sq c) (hp : ∀ x ∈ p, Sq x) (lp : p.length ≤ 1000) : ∃ r, F_scaled [qD c, .tup (p.map qD)] s = .ok (.im (.tup (r.map qD))) s ∧ Tr r ∧ po r = con c * po p := by
  have t := @trimmed_ok s (p.map (c * ·)) (by rw [List.length_map]; omega) _ (.inr rfl)
  have l := @lc_scale s c hc (.im (qD c)) (.im (.tup (p.map qD))) rfl p hp
  have z : (p.map qD).length ≤ sizeLine := by rw [List.length_map]; exact big (by omega)
  refine ⟨trim (p.map (c * ·)), ?_, trim_tr _, by rw [trim_po, po_map]⟩
  generalize p.map (c * ·) = q at *
  generalize hP : p.map qD = P at *
  unfold F_scaled
  rw [fnOf_def, if_pos (by rfl), b_scaled_p]
  simp [p_scaled, p_scaled_1, z, wipeOk, wipeE, Tgt.inn, l, t]
/-- the inner loop of a product -/
theorem mul_inner {dd P : Nat} (x : Rat) (sx : Sq x) (a : Nat) (a0 a1 x3 x4 : Slot) (h3 : x3 = .im (.int a)) (h4 : x4 = .im (qD x)) : ∀ (q : List Rat) (b K : Nat) (found : List Rat) (x5 x6 : Slot), a + b + q.length ≤ found.length → (∀ y ∈ q, CD dd P (x * y)) → (∀ y ∈ q, Sq y) → (∀ y ∈ found, CD dd K y) → K + P * q.length < BN → dd < BD →
    ∃ (found' : List Rat) (y5 y6 : Slot), forL (.tp [(.nm 5), (.nm 6)]) p_multiplied_2b_1b_1 (((q.map qD).zipIdx b).map (fun p => D.tup [.int p.2, p.1])) [a0, a1, .mu (found.map qD), x3, x4, x5, x6] s = .nx [a0, a1, .mu (found'.map qD), x3, x4, y5, y6] s ∧
      found'.length = found.length ∧ po found' = po found + mono (a + b) x * po q ∧ ∀ y ∈ found', CD dd (K + P * q.length) y
  | [], b, K, found, x5, x6, hl, hq, sq, hf, hK, hD => ⟨found, x5, x6, by simp [forL], rfl, by rw [po_nil]; grind, fun y hy => (hf y hy).mono (by simp)⟩
  | y :: q, b, K, found, x5, x6, hl, hq, sq, hf, hK, hD => by
    rw [List.length_cons] at hl hK
    rw [Nat.mul_add, Nat.mul_one] at hK
    have lt : a + b < found.length := by omega
    have hg : found[a + b]? = some found[a + b] := List.getElem?_eq_getElem lt
    have mg : found[a + b] ∈ found := List.getElem_mem lt
    generalize found[a + b] = z at hg mg
    have sz : Sq z := (hf z mg).sq (by omega) hD
    have cxy := hq y List.mem_cons_self
    have t := @times_q s x y sx (sq y List.mem_cons_self)
    have p := @plus_q s z (x * y) sz (cxy.sq (by omega) hD)
    have ix : oIdx (.lst (found.map qD)) (.int ((a + b : Nat) : Int)) = some (qD z) := oIdx_l (by rw [List.getElem?_map, hg]; rfl)
    have hf' : ∀ w ∈ found.set (a + b) (z + x * y), CD dd (K + P) w := fun w hw => by
      rcases List.mem_or_eq_of_mem_set hw with h | h
      · exact (hf w h).mono (by omega)
      · rw [h]
        exact (hf z mg).add cxy
    obtain ⟨found', y5, y6, e1, e2, e3, e4⟩ := mul_inner x sx a a0 a1 x3 x4 h3 h4 q (b + 1) (K + P) (found.set (a + b) (z + x * y)) (.im (.int b)) (.im (qD y)) (by rw [List.length_set]; omega) (fun w hw => hq w (List.mem_cons_of_mem _ hw)) (fun w hw => sq w (List.mem_cons_of_mem _ hw)) hf' (by omega) hD
    refine ⟨found', y5, y6, ?_, by rw [e2, List.length_set], ?_, fun w hw => (e4 w hw).mono (by rw [List.length_cons, Nat.mul_add, Nat.mul_one]; omega)⟩
    · subst h3 h4
      rw [List.map_cons, enum_cons, forL]
      have ad : (a : Int) + (b : Int) = ((a + b : Nat) : Int) := by omega
      have pu : p_multiplied_2b_1b_1 [a0, a1, .mu (found.map qD), .im (.int a), .im (qD x), .im (.int b), .im (qD y)] s = .nx [a0, a1, .mu ((found.set (a + b) (z + x * y)).map qD), .im (.int a), .im (qD x), .im (.int b), .im (qD y)] s := by
        unfold p_multiplied_2b_1b_1
        rw [List.map_set]
        refine putAt_ok (i := 2) (m := a + b) (xs := found.map qD) ?_ rfl ?_ (by rw [List.length_map]; exact lt)
        · simp only [eCall_def, aCons_def, eIdx_def, pV_def, List.getElem?_cons_zero, List.getElem?_cons_succ, bind_ok, pE_def, e2_def, oAdd_ii, lift_some, d_im, ad, ix, Option.map_some, eV_def, aNil_def, t, p]
        · simp only [pE_def, e2_def, pV_def, List.getElem?_cons_zero, List.getElem?_cons_succ, bind_ok, oAdd_ii, lift_some, d_im, ad]
      simp only [Tgt.put, Tgt.puts, Option.bind_some, List.set_cons_succ, List.set_cons_zero, pu]
      exact e1
    · rw [e3, po_set hg, po_cons, show z + x * y - z = x * y by grind, show a + (b + 1) = (a + b) + 1 by omega]
      have h1 : mono (a + b + 1) x = mono (a + b) x * mono 1 1 := by rw [mono_mul, Rat.mul_one]
      have h2 : mono (a + b) (x * y) = mono (a + b) x * con y := by rw [← mono_zero, mono_mul, Nat.add_zero]
      rw [h1, h2]
      grind
theorem mul_outer {dd P : Nat} (q : List Rat) (sq : ∀ y ∈ q, Sq y) (a0 : Slot) : ∀ (p : List Rat) (a K : Nat) (found : List Rat) (x3 x4 x5 x6 : Slot), a + p.length + q.length ≤ found.length + 1 → (∀ x ∈ p, ∀ y ∈ q, CD dd P (x * y)) → (∀ y ∈ p, Sq y) → (∀ y ∈ found, CD dd K y) → K + P * q.length * p.length < BN → dd < BD →
    ∃ (found' : List Rat) (y3 y4 y5 y6 : Slot), forL (.tp [(.nm 3), (.nm 4)]) p_multiplied_2b_1 (((p.map qD).zipIdx a).map (fun p => D.tup [.int p.2, p.1])) [a0, .im (.tup (q.map qD)), .mu (found.map qD), x3, x4, x5, x6] s = .nx [a0, .im (.tup (q.map qD)), .mu (found'.map qD), y3, y4, y5, y6] s ∧
      found'.length = found.length ∧ po found' = po found + mono a 1 * po p * po q ∧ ∀ y ∈ found', CD dd (K + P * q.length * p.length) y
  | [], a, K, found, x3, x4, x5, x6, hl, hp, sp, hf, hK, hD => ⟨found, x3, x4, x5, x6, by simp [forL], rfl, by rw [po_nil]; grind, fun y hy => (hf y hy).mono (by simp)⟩
  | x :: p, a, K, found, x3, x4, x5, x6, hl, hp, sp, hf, hK, hD => by
    rw [List.length_cons] at hl hK
    rw [Nat.mul_add, Nat.mul_one] at hK
    obtain ⟨f1, y5, y6, e1, e2, e3, e4⟩ := @mul_inner s dd P x (sp x List.mem_cons_self) a a0 (.im (.tup (q.map qD))) (.im (.int a)) (.im (qD x)) rfl rfl q 0 K found x5 x6 (by omega) (hp x List.mem_cons_self) sq hf (by omega) hD
    obtain ⟨f2, z3, z4, z5, z6, g1, g2, g3, g4⟩ := mul_outer q sq a0 p (a + 1) (K + P * q.length) f1 (.im (.int a)) (.im (qD x)) y5 y6 (by rw [e2]; omega) (fun w hw => hp w (List.mem_cons_of_mem _ hw)) (fun w hw => sp w (List.mem_cons_of_mem _ hw)) e4 (by omega) hD
    refine ⟨f2, z3, z4, z5, z6, ?_, by rw [g2, e2], ?_, fun w hw => (g4 w hw).mono (by rw [List.length_cons, Nat.mul_add, Nat.mul_one]; omega)⟩
    · rw [List.map_cons, enum_cons, forL]
      have b : p_multiplied_2b_1 [a0, .im (.tup (q.map qD)), .mu (found.map qD), .im (.int a), .im (qD x), x5, x6] s = .nx [a0, .im (.tup (q.map qD)), .mu (f1.map qD), .im (.int a), .im (qD x), y5, y6] s := by
        unfold p_multiplied_2b_1
        simp only [sFor_def, iEnum_def, eV_def, List.getElem?_cons_zero, List.getElem?_cons_succ, bind_ok, d_im, items_t, Option.map_some, lift_some, out_ok]
        exact e1
      simp only [Tgt.put, Tgt.puts, Option.bind_some, List.set_cons_succ, List.set_cons_zero, b]
      exact g1
    · rw [g3, e3, po_cons, Nat.add_zero]
      have h1 : mono (a + 1) 1 = mono a 1 * mono 1 1 := by rw [mono_mul, Rat.one_mul]
      have h2 : mono a x = mono a 1 * con x := by rw [← mono_zero, mono_mul, Rat.one_mul, Nat.add_zero]
      rw [h1, h2]
      grind
theorem multiplied_ok {dd P : Nat} {p q : List Rat} (hd : 0 < dd) (hp : ∀ x ∈ p, ∀ y ∈ q, CD dd P (x * y)) (sp : ∀ y ∈ p, Sq y) (sq : ∀ y ∈ q, Sq y) (lp : p.length ≤ 400) (lq : q.length ≤ 400) (hK : P * q.length * p.length < BN) (hD : dd < BD) :
    ∃ r, F_multiplied [.tup (p.map qD), .tup (q.map qD)] s = .ok (.im (.tup (r.map qD))) s ∧ Tr r ∧ po r = po p * po q ∧ ∀ y ∈ r, CD dd (P * q.length * p.length) y := by
  obtain ⟨n, hn1, hn2, hn3⟩ : ∃ n : Nat, (if (p.length : Int) + q.length - 1 > 0 then (p.length : Int) + q.length - 1 else 0) = (n : Int) ∧ p.length + q.length ≤ n + 1 ∧ n ≤ 800 := by
    by_cases h : p.length + q.length = 0
    · exact ⟨0, by rw [if_neg (by omega)]; rfl, by omega, by omega⟩
    · by_cases h1 : p.length + q.length = 1
      · exact ⟨0, by rw [if_neg (by omega)]; rfl, by omega, by omega⟩
      · exact ⟨p.length + q.length - 1, by rw [if_pos (by omega)]; omega, by omega, by omega⟩
  have m1 := zeros_mul (k := n) (by omega)
  have zd : ∀ y ∈ List.replicate n (0 : Rat), CD dd 0 y := fun y hy => by
    rw [(List.mem_replicate.mp hy).2]
    exact CD.zero hd
  obtain ⟨f, y3, y4, y5, y6, e1, e2, e3, e4⟩ := @mul_outer s dd P q sq (.im (.tup (p.map qD))) p 0 0 (List.replicate n 0) .un .un .un .un (by rw [List.length_replicate]; omega) hp sp zd (by omega) hD
  rw [List.length_replicate] at e2
  have t := @trimmed_ok s f (by omega) _ (.inr rfl)
  refine ⟨trim f, ?_, trim_tr _, ?_, fun y hy => (e4 y (trim_mem y hy)).mono (by omega)⟩
  · have u1 : p_multiplied_1 [.im (.tup (p.map qD)), .im (.tup (q.map qD)), .un, .un, .un, .un, .un] s = .nx [.im (.tup (p.map qD)), .im (.tup (q.map qD)), .mu ((List.replicate n (0 : Rat)).map qD), .un, .un, .un, .un] s := by
      unfold p_multiplied_1
      simp only [sSet_def, e2_def, pE_def, e1_def, eLst_def, aCons_def, aNil_def, eC_def, c_ZERO, pV_def, List.getElem?_cons_zero, List.getElem?_cons_succ, bind_ok, oLenR_t, lift_some, d_im, d_mu, List.length_map, List.length_cons, List.length_nil, Nat.zero_add, sz_1, if_true, oAdd_ii, oSub_ii, oMax_ii, hn1, m1, out_ok, slot_mu, List.set_cons_zero, List.set_cons_succ]
    have u2 : p_multiplied_2 [.im (.tup (p.map qD)), .im (.tup (q.map qD)), .mu ((List.replicate n (0 : Rat)).map qD), .un, .un, .un, .un] s = .nx [.im (.tup (p.map qD)), .im (.tup (q.map qD)), .mu (f.map qD), y3, y4, y5, y6] s := by
      unfold p_multiplied_2
      simp only [sFor_def, iEnum_def, eV_def, List.getElem?_cons_zero, List.getElem?_cons_succ, bind_ok, d_im, items_t, Option.map_some, lift_some, out_ok]
      exact e1
    have fl : (RV.im (.tup ((trim f).map qD))).flat = true := by
      show D.imm.immAll _ = true
      generalize trim f = g
      induction g with
      | nil => rfl
      | cons x g ih => simpa [D.imm.immAll, D.imm, qD] using ih
    generalize trim f = g at *
    generalize (List.replicate n (0 : Rat)).map qD = zz at *
    unfold F_multiplied
    rw [fnOf_def, if_pos (by rfl), b_multiplied_p]
    simp [p_multiplied, u1, u2, t, fl]
  · rw [trim_po, e3, po_zeros]
    have h1 : mono 0 1 = (1 : PS) := rfl
    rw [h1]
    grind
/-- the inner loop of a product -/
theorem L_mul_inner {dd P : Nat} (x : Rat) (sx : Sq x) (a : Nat) (a0 a1 x3 x4 : Slot) (h3 : x3 = .im (.int a)) (h4 : x4 = .im (qD x)) : ∀ (q : List Rat) (b K : Nat) (found : List Rat) (x5 x6 : Slot), a + b + q.length ≤ found.length → (∀ y ∈ q, CD dd P (x * y)) → (∀ y ∈ q, Sq y) → (∀ y ∈ found, CD dd K y) → K + P * q.length < BN → dd < BD →
    ∃ (found' : List Rat) (y5 y6 : Slot), forL (.tp [(.nm 5), (.nm 6)]) p_L_poly_times_2b_1b_1 (((q.map qD).zipIdx b).map (fun p => D.tup [.int p.2, p.1])) [a0, a1, .mu (found.map qD), x3, x4, x5, x6] s = .nx [a0, a1, .mu (found'.map qD), x3, x4, y5, y6] s ∧
      found'.length = found.length ∧ po found' = po found + mono (a + b) x * po q ∧ ∀ y ∈ found', CD dd (K + P * q.length) y
  | [], b, K, found, x5, x6, hl, hq, sq, hf, hK, hD => ⟨found, x5, x6, by simp [forL], rfl, by rw [po_nil]; grind, fun y hy => (hf y hy).mono (by simp)⟩
  | y :: q, b, K, found, x5, x6, hl, hq, sq, hf, hK, hD => by
    rw [List.length_cons] at hl hK
    rw [Nat.mul_add, Nat.mul_one] at hK
    have lt : a + b < found.length := by omega
    have hg : found[a + b]? = some found[a + b] := List.getElem?_eq_getElem lt
    have mg : found[a + b] ∈ found := List.getElem_mem lt
    generalize found[a + b] = z at hg mg
    have sz : Sq z := (hf z mg).sq (by omega) hD
    have cxy := hq y List.mem_cons_self
    have t := @L_times_q s x y sx (sq y List.mem_cons_self)
    have p := @L_plus_q s z (x * y) sz (cxy.sq (by omega) hD)
    have ix : oIdx (.lst (found.map qD)) (.int ((a + b : Nat) : Int)) = some (qD z) := oIdx_l (by rw [List.getElem?_map, hg]; rfl)
    have hf' : ∀ w ∈ found.set (a + b) (z + x * y), CD dd (K + P) w := fun w hw => by
      rcases List.mem_or_eq_of_mem_set hw with h | h
      · exact (hf w h).mono (by omega)
      · rw [h]
        exact (hf z mg).add cxy
    obtain ⟨found', y5, y6, e1, e2, e3, e4⟩ := L_mul_inner x sx a a0 a1 x3 x4 h3 h4 q (b + 1) (K + P) (found.set (a + b) (z + x * y)) (.im (.int b)) (.im (qD y)) (by rw [List.length_set]; omega) (fun w hw => hq w (List.mem_cons_of_mem _ hw)) (fun w hw => sq w (List.mem_cons_of_mem _ hw)) hf' (by omega) hD
    refine ⟨found', y5, y6, ?_, by rw [e2, List.length_set], ?_, fun w hw => (e4 w hw).mono (by rw [List.length_cons, Nat.mul_add, Nat.mul_one]; omega)⟩
    · subst h3 h4
      rw [List.map_cons, enum_cons, forL]
      have ad : (a : Int) + (b : Int) = ((a + b : Nat) : Int) := by omega
      have pu : p_L_poly_times_2b_1b_1 [a0, a1, .mu (found.map qD), .im (.int a), .im (qD x), .im (.int b), .im (qD y)] s = .nx [a0, a1, .mu ((found.set (a + b) (z + x * y)).map qD), .im (.int a), .im (qD x), .im (.int b), .im (qD y)] s := by
        unfold p_L_poly_times_2b_1b_1
        rw [List.map_set]
        refine putAt_ok (i := 2) (m := a + b) (xs := found.map qD) ?_ rfl ?_ (by rw [List.length_map]; exact lt)
        · simp only [eCall_def, aCons_def, eIdx_def, pV_def, List.getElem?_cons_zero, List.getElem?_cons_succ, bind_ok, pE_def, e2_def, oAdd_ii, lift_some, d_im, ad, ix, Option.map_some, eV_def, aNil_def, t, p]
        · simp only [pE_def, e2_def, pV_def, List.getElem?_cons_zero, List.getElem?_cons_succ, bind_ok, oAdd_ii, lift_some, d_im, ad]
      simp only [Tgt.put, Tgt.puts, Option.bind_some, List.set_cons_succ, List.set_cons_zero, pu]
      exact e1
    · rw [e3, po_set hg, po_cons, show z + x * y - z = x * y by grind, show a + (b + 1) = (a + b) + 1 by omega]
      have h1 : mono (a + b + 1) x = mono (a + b) x * mono 1 1 := by rw [mono_mul, Rat.mul_one]
      have h2 : mono (a + b) (x * y) = mono (a + b) x * con y := by rw [← mono_zero, mono_mul, Nat.add_zero]
      rw [h1, h2]
      grind
theorem L_mul_outer {dd P : Nat} (q : List Rat) (sq : ∀ y ∈ q, Sq y) (a0 : Slot) : ∀ (p : List Rat) (a K : Nat) (found : List Rat) (x3 x4 x5 x6 : Slot), a + p.length + q.length ≤ found.length + 1 → (∀ x ∈ p, ∀ y ∈ q, CD dd P (x * y)) → (∀ y ∈ p, Sq y) → (∀ y ∈ found, CD dd K y) → K + P * q.length * p.length < BN → dd < BD →
    ∃ (found' : List Rat) (y3 y4 y5 y6 : Slot), forL (.tp [(.nm 3), (.nm 4)]) p_L_poly_times_2b_1 (((p.map qD).zipIdx a).map (fun p => D.tup [.int p.2, p.1])) [a0, .im (.tup (q.map qD)), .mu (found.map qD), x3, x4, x5, x6] s = .nx [a0, .im (.tup (q.map qD)), .mu (found'.map qD), y3, y4, y5, y6] s ∧
      found'.length = found.length ∧ po found' = po found + mono a 1 * po p * po q ∧ ∀ y ∈ found', CD dd (K + P * q.length * p.length) y
  | [], a, K, found, x3, x4, x5, x6, hl, hp, sp, hf, hK, hD => ⟨found, x3, x4, x5, x6, by simp [forL], rfl, by rw [po_nil]; grind, fun y hy => (hf y hy).mono (by simp)⟩
  | x :: p, a, K, found, x3, x4, x5, x6, hl, hp, sp, hf, hK, hD => by
    rw [List.length_cons] at hl hK
    rw [Nat.mul_add, Nat.mul_one] at hK
    obtain ⟨f1, y5, y6, e1, e2, e3, e4⟩ := @L_mul_inner s dd P x (sp x List.mem_cons_self) a a0 (.im (.tup (q.map qD))) (.im (.int a)) (.im (qD x)) rfl rfl q 0 K found x5 x6 (by omega) (hp x List.mem_cons_self) sq hf (by omega) hD
    obtain ⟨f2, z3, z4, z5, z6, g1, g2, g3, g4⟩ := L_mul_outer q sq a0 p (a + 1) (K + P * q.length) f1 (.im (.int a)) (.im (qD x)) y5 y6 (by rw [e2]; omega) (fun w hw => hp w (List.mem_cons_of_mem _ hw)) (fun w hw => sp w (List.mem_cons_of_mem _ hw)) e4 (by omega) hD
    refine ⟨f2, z3, z4, z5, z6, ?_, by rw [g2, e2], ?_, fun w hw => (g4 w hw).mono (by rw [List.length_cons, Nat.mul_add, Nat.mul_one]; omega)⟩
    · rw [List.map_cons, enum_cons, forL]
      have b : p_L_poly_times_2b_1 [a0, .im (.tup (q.map qD)), .mu (found.map qD), .im (.int a), .im (qD x), x5, x6] s = .nx [a0, .im (.tup (q.map qD)), .mu (f1.map qD), .im (.int a), .im (qD x), y5, y6] s := by
        unfold p_L_poly_times_2b_1
        simp only [sFor_def, iEnum_def, eV_def, List.getElem?_cons_zero, List.getElem?_cons_succ, bind_ok, d_im, items_t, Option.map_some, lift_some, out_ok]
        exact e1
      simp only [Tgt.put, Tgt.puts, Option.bind_some, List.set_cons_succ, List.set_cons_zero, b]
      exact g1
    · rw [g3, e3, po_cons, Nat.add_zero]
      have h1 : mono (a + 1) 1 = mono a 1 * mono 1 1 := by rw [mono_mul, Rat.one_mul]
      have h2 : mono a x = mono a 1 * con x := by rw [← mono_zero, mono_mul, Rat.one_mul, Nat.add_zero]
      rw [h1, h2]
      grind
theorem L_poly_times_ok {dd P : Nat} {p q : List Rat} (hd : 0 < dd) (hp : ∀ x ∈ p, ∀ y ∈ q, CD dd P (x * y)) (sp : ∀ y ∈ p, Sq y) (sq : ∀ y ∈ q, Sq y) (lp : p.length ≤ 400) (lq : q.length ≤ 400) (hK : P * q.length * p.length < BN) (hD : dd < BD) :
    ∃ r, F_L_poly_times [.tup (p.map qD), .tup (q.map qD)] s = .ok (.im (.tup (r.map qD))) s ∧ Tr r ∧ po r = po p * po q ∧ ∀ y ∈ r, CD dd (P * q.length * p.length) y := by
  obtain ⟨n, hn1, hn2, hn3⟩ : ∃ n : Nat, (if (p.length : Int) + q.length - 1 > 0 then (p.length : Int) + q.length - 1 else 0) = (n : Int) ∧ p.length + q.length ≤ n + 1 ∧ n ≤ 800 := by
    by_cases h : p.length + q.length = 0
    · exact ⟨0, by rw [if_neg (by omega)]; rfl, by omega, by omega⟩
    · by_cases h1 : p.length + q.length = 1
      · exact ⟨0, by rw [if_neg (by omega)]; rfl, by omega, by omega⟩
      · exact ⟨p.length + q.length - 1, by rw [if_pos (by omega)]; omega, by omega, by omega⟩
  have m1 := zeros_mul (k := n) (by omega)
  have zd : ∀ y ∈ List.replicate n (0 : Rat), CD dd 0 y := fun y hy => by
    rw [(List.mem_replicate.mp hy).2]
    exact CD.zero hd
  obtain ⟨f, y3, y4, y5, y6, e1, e2, e3, e4⟩ := @L_mul_outer s dd P q sq (.im (.tup (p.map qD))) p 0 0 (List.replicate n 0) .un .un .un .un (by rw [List.length_replicate]; omega) hp sp zd (by omega) hD
  rw [List.length_replicate] at e2
  have t := @L_trim_ok s f (by omega) _ (.inr rfl)
  refine ⟨trim f, ?_, trim_tr _, ?_, fun y hy => (e4 y (trim_mem y hy)).mono (by omega)⟩
  · have u1 : p_L_poly_times_1 [.im (.tup (p.map qD)), .im (.tup (q.map qD)), .un, .un, .un, .un, .un] s = .nx [.im (.tup (p.map qD)), .im (.tup (q.map qD)), .mu ((List.replicate n (0 : Rat)).map qD), .un, .un, .un, .un] s := by
      unfold p_L_poly_times_1
      simp only [sSet_def, e2_def, pE_def, e1_def, eLst_def, aCons_def, aNil_def, eC_def, eTup_def, sz_2, Nat.reduceAdd, pV_def, List.getElem?_cons_zero, List.getElem?_cons_succ, bind_ok, oLenR_t, lift_some, d_im, d_mu, List.length_map, List.length_cons, List.length_nil, Nat.zero_add, sz_1, if_true, oAdd_ii, oSub_ii, oMax_ii, hn1, m1, out_ok, slot_mu, List.set_cons_zero, List.set_cons_succ]
    have u2 : p_L_poly_times_2 [.im (.tup (p.map qD)), .im (.tup (q.map qD)), .mu ((List.replicate n (0 : Rat)).map qD), .un, .un, .un, .un] s = .nx [.im (.tup (p.map qD)), .im (.tup (q.map qD)), .mu (f.map qD), y3, y4, y5, y6] s := by
      unfold p_L_poly_times_2
      simp only [sFor_def, iEnum_def, eV_def, List.getElem?_cons_zero, List.getElem?_cons_succ, bind_ok, d_im, items_t, Option.map_some, lift_some, out_ok]
      exact e1
    have fl : (RV.im (.tup ((trim f).map qD))).flat = true := by
      show D.imm.immAll _ = true
      generalize trim f = g
      induction g with
      | nil => rfl
      | cons x g ih => simpa [D.imm.immAll, D.imm, qD] using ih
    generalize trim f = g at *
    generalize (List.replicate n (0 : Rat)).map qD = zz at *
    unfold F_L_poly_times
    rw [fnOf_def, if_pos (by rfl), b_L_poly_times_p]
    simp [p_L_poly_times, u1, u2, t, fl]
  · rw [trim_po, e3, po_zeros]
    have h1 : mono 0 1 = (1 : PS) := rfl
    rw [h1]
    grind
end KP

/-! KPF: polynomials divided: own work. -/
namespace Ps
theorem getLast_po {q : List Rat} {c : Rat} (h : q.getLast? = some c) : (po q).at_ (q.length - 1) = c := by
  rw [List.getLast?_eq_getElem?] at h
  exact po_get h
end Ps
namespace Ev
open PySem Ps
/-- d q is e times a whole number of at most K -/
def CQ (d e K : Nat) (q : Rat) : Prop := 0 < d ∧ ∃ n : Int, q * (d : Rat) = (e : Rat) * (n : Rat) ∧ n.natAbs ≤ K
theorem CQ.mono {d e K N : Nat} {q : Rat} (h : CQ d e K q) (l : K ≤ N) : CQ d e N q := ⟨h.1, let ⟨n, a, b⟩ := h.2; ⟨n, a, by omega⟩⟩
theorem CQ.zero {d e K : Nat} (h : 0 < d) : CQ d e K 0 := ⟨h, 0, by rw [show ((0 : Int) : Rat) = 0 from rfl]; grind, by simp⟩
theorem CQ.neg {d e K : Nat} {q : Rat} (h : CQ d e K q) : CQ d e K (-q) := by
  obtain ⟨h0, n, a, b⟩ := h
  refine ⟨h0, -n, ?_, by omega⟩
  rw [Rat.intCast_neg]
  grind
theorem CQ.up {d e K : Nat} {q : Rat} (h : CQ d e K q) {L : Nat} (hL : 0 < L) : CQ (d * L) e (K * L) q := by
  obtain ⟨h0, n, a, b⟩ := h
  refine ⟨Nat.mul_pos h0 hL, n * L, ?_, ?_⟩
  · rw [Rat.intCast_mul, Rat.natCast_mul, Rat.intCast_natCast]
    grind
  · rw [Int.natAbs_mul, Int.natAbs_natCast]
    exact Nat.mul_le_mul_right _ b
theorem CQ.mul {d e K M : Nat} {q y : Rat} (h : CQ d e K q) (g : CD e M y) : CD d (K * M) (q * y) := by
  obtain ⟨h0, n, a, b⟩ := h
  obtain ⟨_, m, c, f⟩ := g
  refine ⟨h0, n * m, ?_, ?_⟩
  · rw [Rat.intCast_mul, ← c]
    grind
  · rw [Int.natAbs_mul]
    exact Nat.mul_le_mul b f
theorem CQ.cd {d e K : Nat} {q : Rat} (h : CQ d e K q) : CD d (K * e) q := by
  obtain ⟨h0, n, a, b⟩ := h
  refine ⟨h0, n * e, ?_, ?_⟩
  · rw [Rat.intCast_mul, Rat.intCast_natCast]
    grind
  · rw [Int.natAbs_mul, Int.natAbs_natCast]
    exact Nat.mul_le_mul_right _ b
theorem CD.quo {d e K M : Nat} {n lc y : Rat} {L : Nat} (hn : CD d K n) (hl0 : lc ≠ 0) (hL : ∃ l : Int, lc * (e : Rat) = (l : Rat) ∧ l.natAbs = L) (he : 0 < e) (hy : CD e M y) : CD (d * L) (K * e) (n / lc) ∧ CD (d * L) (K * M) (n / lc * y) ∧ 0 < L ∧ CQ (d * L) e K (n / lc) := by
  obtain ⟨d0, a, a1, a2⟩ := hn
  obtain ⟨l, l1, l2⟩ := hL
  obtain ⟨_, b, b1, b2⟩ := hy
  have e0 : (e : Rat) ≠ 0 := fun z => by
    have : ((e : Nat) : Rat) = ((0 : Nat) : Rat) := z
    have := Rat.natCast_inj.mp this
    omega
  have ln : l ≠ 0 := fun z => by
    rw [z] at l1
    have : lc * (e : Rat) = 0 := l1
    rcases Rat.mul_eq_zero.mp this with w | w
    · exact hl0 w
    · exact e0 w
  have L0 : 0 < L := by omega
  -- the sign of l
  obtain ⟨g, g1, g2⟩ : ∃ g : Int, ((L : Nat) : Rat) = (g : Rat) * (l : Rat) ∧ g.natAbs = 1 := by
    rcases Int.natAbs_eq l with h | h
    · refine ⟨1, ?_, rfl⟩
      rw [← l2, ← Rat.intCast_natCast, ← h]
      grind
    · refine ⟨-1, ?_, rfl⟩
      rw [← l2, ← Rat.intCast_natCast, h, Int.natAbs_neg, Int.natAbs_natCast, Rat.intCast_neg, Rat.intCast_neg]
      rw [Rat.intCast_natCast]
      grind
  have k1 : n / lc * ((d * L : Nat) : Rat) = ((a * e * g : Int) : Rat) := by
    rw [Rat.natCast_mul, g1, Rat.intCast_mul, Rat.intCast_mul, Rat.intCast_natCast, ← a1, ← l1]
    have : n / lc * lc = n := Rat.div_mul_cancel hl0
    grind
  have k2 : n / lc * y * ((d * L : Nat) : Rat) = ((a * b * g : Int) : Rat) := by
    have : n / lc * y * ((d * L : Nat) : Rat) = (n / lc * ((d * L : Nat) : Rat)) * y := by grind
    rw [this, k1, Rat.intCast_mul, Rat.intCast_mul, Rat.intCast_mul, Rat.intCast_mul, Rat.intCast_natCast, ← b1]
    grind
  refine ⟨⟨Nat.mul_pos d0 L0, _, k1, ?_⟩, ⟨Nat.mul_pos d0 L0, _, k2, ?_⟩, L0, ⟨Nat.mul_pos d0 L0, a * g, ?_, ?_⟩⟩
  · rw [Int.natAbs_mul, Int.natAbs_mul, g2, Int.natAbs_natCast, Nat.mul_one]
    exact Nat.mul_le_mul_right _ a2
  · rw [Int.natAbs_mul, Int.natAbs_mul, g2, Nat.mul_one]
    exact Nat.mul_le_mul a2 b2
  · rw [k1, Rat.intCast_mul, Rat.intCast_mul, Rat.intCast_mul, Rat.intCast_natCast]
    grind
  · rw [Int.natAbs_mul, g2, Nat.mul_one]
    exact a2
end Ev
namespace KP
open PySem Ev Ps
variable {s : DS}
theorem minus_ok (x : Rat) : F_minus [qD x] s = .ok (.im (qD (-x))) s := by
  have e : qD (-x) = .tup [.int (-x.num), .int x.den] := rfl
  rw [e]
  unfold F_minus b_minus
  rw [fnOf_def, if_pos (by rfl)]
  simp [qD, Kit.idx0, Kit.idx1]
theorem L_minus_ok (x : Rat) : F_L_minus [qD x] s = .ok (.im (qD (-x))) s := by
  have e : qD (-x) = .tup [.int (-x.num), .int x.den] := rfl
  rw [e]
  unfold F_L_minus b_L_minus
  rw [fnOf_def, if_pos (by rfl)]
  simp [qD, Kit.idx0, Kit.idx1]
/-- a multiple is taken away -/
theorem div_inner {dn P : Nat} (x : Rat) (sx : Sq x) (a : Nat) (a0 a1 a3 x4 x5 : Slot) (h4 : x4 = .im (.int a)) (h5 : x5 = .im (qD x)) : ∀ (q : List Rat) (b K : Nat) (left : List Rat) (x6 x7 : Slot), a + b + q.length ≤ left.length → (∀ y ∈ q, CD dn P (x * y)) → (∀ y ∈ q, Sq y) → (∀ y ∈ left, CD dn K y) → K + P * q.length < BN → dn < BD →
    ∃ (left' : List Rat) (y6 y7 : Slot), forL (.tp [(.nm 6), (.nm 7)]) p_divided_2b_3b_1 (((q.map qD).zipIdx b).map (fun p => D.tup [.int p.2, p.1])) [a0, a1, .mu (left.map qD), a3, x4, x5, x6, x7] s = .nx [a0, a1, .mu (left'.map qD), a3, x4, x5, y6, y7] s ∧
      left'.length = left.length ∧ po left' = po left - mono (a + b) x * po q ∧ ∀ y ∈ left', CD dn (K + P * q.length) y
  | [], b, K, left, x6, x7, hl, hq, sq, hf, hK, hD => ⟨left, x6, x7, by simp [forL], rfl, by rw [po_nil]; grind, fun y hy => (hf y hy).mono (by simp)⟩
  | y :: q, b, K, left, x6, x7, hl, hq, sq, hf, hK, hD => by
    rw [List.length_cons] at hl hK
    rw [Nat.mul_add, Nat.mul_one] at hK
    have lt : a + b < left.length := by omega
    have hg : left[a + b]? = some left[a + b] := List.getElem?_eq_getElem lt
    have mg : left[a + b] ∈ left := List.getElem_mem lt
    generalize left[a + b] = z at hg mg
    have sz : Sq z := (hf z mg).sq (by omega) hD
    have cxy := hq y List.mem_cons_self
    have t := @times_q s x y sx (sq y List.mem_cons_self)
    have mi := @minus_ok s (x * y)
    have p := @plus_q s z (-(x * y)) sz (cxy.neg.sq (by omega) hD)
    have ix : oIdx (.lst (left.map qD)) (.int ((a + b : Nat) : Int)) = some (qD z) := oIdx_l (by rw [List.getElem?_map, hg]; rfl)
    have hf' : ∀ w ∈ left.set (a + b) (z + -(x * y)), CD dn (K + P) w := fun w hw => by
      rcases List.mem_or_eq_of_mem_set hw with h | h
      · exact (hf w h).mono (by omega)
      · rw [h]
        exact (hf z mg).add cxy.neg
    obtain ⟨left', y6, y7, e1, e2, e3, e4⟩ := div_inner x sx a a0 a1 a3 x4 x5 h4 h5 q (b + 1) (K + P) (left.set (a + b) (z + -(x * y))) (.im (.int b)) (.im (qD y)) (by rw [List.length_set]; omega) (fun w hw => hq w (List.mem_cons_of_mem _ hw)) (fun w hw => sq w (List.mem_cons_of_mem _ hw)) hf' (by omega) hD
    refine ⟨left', y6, y7, ?_, by rw [e2, List.length_set], ?_, fun w hw => (e4 w hw).mono (by rw [List.length_cons, Nat.mul_add, Nat.mul_one]; omega)⟩
    · subst h4 h5
      rw [List.map_cons, enum_cons, forL]
      have ad : (a : Int) + (b : Int) = ((a + b : Nat) : Int) := by omega
      have pu : p_divided_2b_3b_1 [a0, a1, .mu (left.map qD), a3, .im (.int a), .im (qD x), .im (.int b), .im (qD y)] s = .nx [a0, a1, .mu ((left.set (a + b) (z + -(x * y))).map qD), a3, .im (.int a), .im (qD x), .im (.int b), .im (qD y)] s := by
        unfold p_divided_2b_3b_1
        rw [List.map_set]
        refine putAt_ok (i := 2) (m := a + b) (xs := left.map qD) ?_ rfl ?_ (by rw [List.length_map]; exact lt)
        · simp only [eCall_def, aCons_def, eIdx_def, pV_def, List.getElem?_cons_zero, List.getElem?_cons_succ, bind_ok, pE_def, e2_def, oAdd_ii, lift_some, d_im, ad, ix, Option.map_some, eV_def, aNil_def, t, mi, p]
        · simp only [pE_def, e2_def, pV_def, List.getElem?_cons_zero, List.getElem?_cons_succ, bind_ok, oAdd_ii, lift_some, d_im, ad]
      simp only [Tgt.put, Tgt.puts, Option.bind_some, List.set_cons_succ, List.set_cons_zero, pu]
      exact e1
    · rw [e3, po_set hg, po_cons, show z + -(x * y) - z = -(x * y) by grind, show a + (b + 1) = (a + b) + 1 by omega]
      have h1 : mono (a + b + 1) x = mono (a + b) x * mono 1 1 := by rw [mono_mul, Rat.mul_one]
      have h2 : mono (a + b) (-(x * y)) = - (mono (a + b) x * con y) := by rw [← mono_zero, mono_mul, Nat.add_zero, mono_neg]
      rw [h1, h2]
      grind
/-- what a divisor must be: its last number's upper part is L, over e -/
structure Dv (q : List Rat) (e M L : Nat) (lc : Rat) : Prop where
  e0 : 0 < e
  cd : ∀ y ∈ q, CD e M y
  sz : ∀ y ∈ q, Sq y
  last : q.getLast? = some lc
  ne : lc ≠ 0
  ln : lc.num.natAbs < BD
  up : ∃ l : Int, lc * (e : Rat) = (l : Rat) ∧ l.natAbs = L
  LM : L ≤ M
theorem div_loop {q : List Rat} {e M L : Nat} {lc : Rat} (v : Dv q e M L lc) (a0 : Slot) : ∀ (r d K F : Nat) (found left : List Rat) (x4 x5 x6 x7 : Slot), r ≤ found.length → r + q.length ≤ left.length + 1 → (∀ i, i < r → (po found).at_ i = 0) → (∀ i, r + q.length ≤ i + 1 → (po left).at_ i = 0) → (∀ y ∈ left, CD d K y) → (∀ y ∈ found, CQ d e F y) → K * (M * (q.length + 1)) ^ r < BN → K * (M * (q.length + 1)) ^ r * e < BN → d * L ^ r < BD → 0 < M →
    ∃ (found' left' : List Rat) (y4 y5 y6 y7 : Slot), forL (.nm 4) (sSeq p_divided_2b_1 (sSeq (sPutAt 3 (pV 4) (eV 5)) p_divided_2b_3)) ((List.range r).map fun (k : Nat) => .int ((r : Int) - 1 - (k : Int))) [a0, .im (.tup (q.map qD)), .mu (left.map qD), .mu (found.map qD), x4, x5, x6, x7] s = .nx [a0, .im (.tup (q.map qD)), .mu (left'.map qD), .mu (found'.map qD), y4, y5, y6, y7] s ∧
      found'.length = found.length ∧ left'.length = left.length ∧ po found' * po q + po left' = po found * po q + po left ∧ (∀ i, q.length ≤ i + 1 → (po left').at_ i = 0) ∧ (∀ y ∈ left', CD (d * L ^ r) (K * (M * (q.length + 1)) ^ r) y) ∧ (∀ y ∈ found', CQ (d * L ^ r) e ((F + r * K) * (M * (q.length + 1)) ^ r) y) := by
  intro r
  induction r with
  | zero =>
    intro d K F found left x4 x5 x6 x7 h1 h2 h3 h4 hc hF b1 b2 b3 hM
    exact ⟨found, left, x4, x5, x6, x7, by simp [forL], rfl, rfl, rfl, fun i hi => h4 i (by omega), fun y hy => by rw [Nat.pow_zero, Nat.pow_zero, Nat.mul_one, Nat.mul_one]; exact hc y hy, fun y hy => by rw [Nat.pow_zero, Nat.pow_zero, Nat.mul_one, Nat.mul_one, Nat.zero_mul, Nat.add_zero]; exact hF y hy⟩
  | succ r ih =>
    intro d K F found left x4 x5 x6 x7 h1 h2 h3 h4 hc hF b1 b2 b3 hM
    have qne : q ≠ [] := by
      intro e
      have := v.last
      rw [e] at this
      simp at this
    have lo := List.length_pos_iff.mpr qne
    have le0 := v.e0
    have lM := v.LM
    obtain ⟨l, l1, l2⟩ := v.up
    generalize hlo : q.length = w at *
    -- the number that is led away
    have lt : r + w - 1 < left.length := by omega
    have hn : left[r + w - 1]? = some left[r + w - 1] := List.getElem?_eq_getElem lt
    have mn : left[r + w - 1] ∈ left := List.getElem_mem lt
    generalize left[r + w - 1] = n at hn mn
    have pn := po_get hn
    have lmem : lc ∈ q := List.mem_of_getLast? v.last
    obtain ⟨c1, _, L0, cq⟩ := CD.quo (hc n mn) v.ne ⟨l, l1, l2⟩ v.e0 (v.cd lc lmem)
    have c2 : ∀ y ∈ q, CD (d * L) (K * M) (n / lc * y) := fun y hy => (CD.quo (hc n mn) v.ne ⟨l, l1, l2⟩ v.e0 (v.cd y hy)).2.1
    have B0 : 1 ≤ M * (w + 1) := Nat.mul_pos hM (by omega)
    have Br : 1 ≤ (M * (w + 1)) ^ r := Nat.pow_pos B0
    have Lr : 1 ≤ L ^ r := Nat.pow_pos L0
    rw [Nat.pow_succ, Nat.mul_comm ((M * (w + 1)) ^ r), ← Nat.mul_assoc] at b1 b2
    rw [Nat.pow_succ, Nat.mul_comm (L ^ r), ← Nat.mul_assoc] at b3
    have K1 : K * (M * (w + 1)) ≤ K * (M * (w + 1)) * (M * (w + 1)) ^ r := Nat.le_mul_of_pos_right _ Br
    have K0 : K ≤ K * (M * (w + 1)) := Nat.le_mul_of_pos_right _ B0
    have D1 : d * L ≤ d * L * L ^ r := Nat.le_mul_of_pos_right _ Lr
    have D0 : d ≤ d * L := Nat.le_mul_of_pos_right _ L0
    have Ke : K * e ≤ K * (M * (w + 1)) * (M * (w + 1)) ^ r * e := Nat.mul_le_mul_right _ (Nat.le_trans K0 K1)
    have sn : Sq n := (hc n mn).sq (by omega) (by omega)
    have sx : Sq (n / lc) := c1.sq (by omega) (by omega)
    have ov := @over_q s n lc sn (v.sz lc lmem) v.ln v.ne
    have hup : ∀ y ∈ left, CD (d * L) (K * L) y := fun y hy => (hc y hy).up L0
    have KK : K * L + K * M * w ≤ K * (M * (w + 1)) := by
      have a1 : K * L ≤ K * M := Nat.mul_le_mul_left _ lM
      have a2 : K * (M * (w + 1)) = K * M * w + K * M := by rw [← Nat.mul_assoc, Nat.mul_add, Nat.mul_one]
      omega
    obtain ⟨l', y6, y7, f1, f2, f3, f4⟩ := @div_inner s (d * L) (K * M) (n / lc) sx r a0 (.im (.tup (q.map qD))) (.mu ((found.set r (n / lc)).map qD)) (.im (.int r)) (.im (qD (n / lc))) rfl rfl q 0 (K * L) left x6 x7 (by omega) c2 v.sz hup (by rw [hlo]; omega) (by omega)
    rw [hlo] at f4
    have fr : found[r]? = some 0 := by
      have z := h3 r (by omega)
      rw [po_at, List.getD_eq_getElem?_getD, List.getElem?_eq_getElem (by omega)] at z
      rw [List.getElem?_eq_getElem (by omega)]
      simpa using z
    have pf := po_set (d := n / lc) fr
    have pq : (po q).at_ (w - 1) = lc := by rw [← hlo]; exact getLast_po v.last
    have top : ∀ i, r + w ≤ i + 1 → (po l').at_ i = 0 := fun i hi => by
      rw [f3, sub_at, mono_mul_at, if_pos (by omega)]
      by_cases e : i = r + w - 1
      · rw [e, pn, show r + w - 1 - (r + 0) = w - 1 by omega, pq]
        have : n / lc * lc = n := Rat.div_mul_cancel v.ne
        grind
      · rw [h4 i (by omega), po_out (by omega)]
        grind
    have hF' : ∀ y ∈ found.set r (n / lc), CQ (d * L) e (F * L + K) y := fun y hy => by
      rcases List.mem_or_eq_of_mem_set hy with h | h
      · exact ((hF y h).up L0).mono (by omega)
      · rw [h]
        exact cq.mono (by omega)
    have FF : F * L + K + r * (K * L + K * M * w) ≤ (F + (r + 1) * K) * (M * (w + 1)) := by
      have a1 : F * L ≤ F * (M * (w + 1)) := Nat.mul_le_mul_left _ (Nat.le_trans lM (Nat.le_mul_of_pos_right _ (by omega)))
      have a2 : r * (K * L + K * M * w) ≤ r * (K * (M * (w + 1))) := Nat.mul_le_mul_left _ KK
      have a3 : (F + (r + 1) * K) * (M * (w + 1)) = F * (M * (w + 1)) + r * (K * (M * (w + 1))) + K * (M * (w + 1)) := by
        rw [Nat.add_mul, Nat.add_mul, Nat.add_mul, Nat.one_mul, Nat.mul_assoc]
        omega
      omega
    obtain ⟨found', left', z4, z5, z6, z7, g1, g2, g3, g4, g5, g6, g7⟩ := ih (d * L) (K * L + K * M * w) (F * L + K) (found.set r (n / lc)) l' (.im (.int r)) (.im (qD (n / lc))) y6 y7 (by rw [List.length_set]; omega) (by rw [f2]; omega) (fun i hi => by
      rw [pf, add_at, h3 i (by omega), mono_at, if_neg (by omega), Rat.add_zero]) top f4 hF' (Nat.lt_of_le_of_lt (Nat.mul_le_mul_right _ KK) b1) (Nat.lt_of_le_of_lt (Nat.mul_le_mul_right _ (Nat.mul_le_mul_right _ KK)) b2) b3 hM
    refine ⟨found', left', z4, z5, z6, z7, ?_, by rw [g2, List.length_set], by rw [g3, f2], ?_, g5, fun y hy => ?_, fun y hy => ?_⟩
    rotate_left 2
    · rw [show d * L ^ (r + 1) = d * L * L ^ r by rw [Nat.pow_succ, Nat.mul_comm (L ^ r), Nat.mul_assoc], show K * (M * (w + 1)) ^ (r + 1) = K * (M * (w + 1)) * (M * (w + 1)) ^ r by rw [Nat.pow_succ', ← Nat.mul_assoc]]
      exact (g6 y hy).mono (Nat.mul_le_mul_right _ KK)
    · rw [show d * L ^ (r + 1) = d * L * L ^ r by rw [Nat.pow_succ, Nat.mul_comm (L ^ r), Nat.mul_assoc], show (F + (r + 1) * K) * (M * (w + 1)) ^ (r + 1) = (F + (r + 1) * K) * (M * (w + 1)) * (M * (w + 1)) ^ r by rw [Nat.pow_succ', ← Nat.mul_assoc]]
      exact (g7 y hy).mono (Nat.mul_le_mul_right _ FF)
    · have er : (List.range (r + 1)).map (fun (k : Nat) => D.int (((r + 1 : Nat) : Int) - 1 - (k : Int))) = .int (r : Int) :: (List.range r).map (fun (k : Nat) => D.int ((r : Int) - 1 - (k : Int))) := by
        rw [List.range_succ_eq_map, List.map_cons, List.map_map]
        congr 1
        · congr 1
          omega
        · apply List.map_congr_left
          intro k _
          simp only [Function.comp]
          congr 1
          omega
      rw [er, forL]
      have ad : (r : Int) + ((w : Nat) : Int) - 1 = ((r + w - 1 : Nat) : Int) := by omega
      have ix1 : oIdx (.lst (left.map qD)) (.int ((r + w - 1 : Nat) : Int)) = some (qD n) := oIdx_l (by rw [List.getElem?_map, hn]; rfl)
      have ix2 : oIdx (.tup (q.map qD)) (.int (-1)) = some (qD lc) := (oIdx_last (by rw [List.getLast?_map, v.last]; rfl)).2
      have s1 : p_divided_2b_1 [a0, .im (.tup (q.map qD)), .mu (left.map qD), .mu (found.map qD), .im (.int r), x5, x6, x7] s = .nx [a0, .im (.tup (q.map qD)), .mu (left.map qD), .mu (found.map qD), .im (.int r), .im (qD (n / lc)), x6, x7] s := by
        unfold p_divided_2b_1
        simp only [sSet_def, eCall_def, aCons_def, eIdx_def, pV_def, List.getElem?_cons_zero, List.getElem?_cons_succ, bind_ok, pE_def, e2_def, e1_def, oLenR_t, List.length_map, hlo, oAdd_ii, oSub_ii, lift_some, d_im, ad, ix1, Option.map_some, eC_def, aNil_def, oNeg_i, Int.reduceNeg, ix2, ov, out_ok, slot_im, List.set_cons_zero, List.set_cons_succ]
      have s2 : sPutAt 3 (pV 4) (eV 5) [a0, .im (.tup (q.map qD)), .mu (left.map qD), .mu (found.map qD), .im (.int r), .im (qD (n / lc)), x6, x7] s = .nx [a0, .im (.tup (q.map qD)), .mu (left.map qD), .mu ((found.set r (n / lc)).map qD), .im (.int r), .im (qD (n / lc)), x6, x7] s := by
        rw [List.map_set]
        exact putAt_ok (i := 3) (m := r) (xs := found.map qD) rfl rfl rfl (by rw [List.length_map]; omega)
      have s3 : p_divided_2b_3 [a0, .im (.tup (q.map qD)), .mu (left.map qD), .mu ((found.set r (n / lc)).map qD), .im (.int r), .im (qD (n / lc)), x6, x7] s = .nx [a0, .im (.tup (q.map qD)), .mu (l'.map qD), .mu ((found.set r (n / lc)).map qD), .im (.int r), .im (qD (n / lc)), y6, y7] s := by
        unfold p_divided_2b_3
        simp only [sFor_def, iEnum_def, eV_def, List.getElem?_cons_zero, List.getElem?_cons_succ, bind_ok, d_im, items_t, Option.map_some, lift_some, out_ok]
        exact f1
      simp only [Tgt.put, List.set_cons_succ, List.set_cons_zero, sSeq_def, s1, s2, s3]
      exact g1
    · rw [g4, f3, pf, show r + 0 = r by omega, show n / lc - 0 = n / lc by grind]
      grind
theorem divided_ok {p q : List Rat} {e M L d K : Nat} {lc : Rat} (v : Dv q e M L lc) (d0 : 0 < d) (hc : ∀ y ∈ p, CD d K y) (lp : p.length ≤ 400) (lq : q.length ≤ 400) {J : Nat} (hJ : J = p.length + 1 - q.length) (b1 : K * (M * (q.length + 1)) ^ J < BN) (b2 : K * (M * (q.length + 1)) ^ J * e < BN) (b3 : d * L ^ J < BD) (hM : 0 < M) :
    ∃ a b, F_divided [.tup (p.map qD), .tup (q.map qD)] s = .ok (.im (.tup [.tup (a.map qD), .tup (b.map qD)])) s ∧ Tr a ∧ Tr b ∧ po p = po a * po q + po b ∧ b.length + 1 ≤ q.length ∧ a.length ≤ J ∧ (∀ y ∈ a, CQ (d * L ^ J) e (J * K * (M * (q.length + 1)) ^ J) y) ∧ (∀ y ∈ b, CD (d * L ^ J) (K * (M * (q.length + 1)) ^ J) y) := by
  have qne : q ≠ [] := by
    intro e
    have := v.last
    rw [e] at this
    simp at this
  have lo := List.length_pos_iff.mpr qne
  have B0 : 1 ≤ M * (q.length + 1) := Nat.mul_pos hM (by omega)
  have flat : ∀ g : List Rat, (RV.im (.tup (g.map qD))).flat = true := fun g => by
    show D.imm.immAll _ = true
    induction g with
    | nil => rfl
    | cons x g ih => simpa [D.imm.immAll, D.imm, qD] using ih
  obtain ⟨n, hn1, hn2, hn3⟩ : ∃ n : Nat, (if (p.length : Int) - q.length + 1 > 0 then (p.length : Int) - q.length + 1 else 0) = (n : Int) ∧ (n = 0 ∧ p.length + 1 ≤ q.length ∨ n + q.length = p.length + 1) ∧ n ≤ 401 := by
    by_cases h : p.length + 1 ≤ q.length
    · exact ⟨0, by rw [if_neg (by omega)]; rfl, .inl ⟨rfl, h⟩, by omega⟩
    · exact ⟨p.length + 1 - q.length, by rw [if_pos (by omega)]; omega, .inr (by omega), by omega⟩
  have m1 := zeros_mul (k := n) (by omega)
  have u1 : p_divided_1 [.im (.tup (p.map qD)), .im (.tup (q.map qD)), .un, .un, .un, .un, .un, .un] s = .nx [.im (.tup (p.map qD)), .im (.tup (q.map qD)), .mu (p.map qD), .mu ((List.replicate n (0 : Rat)).map qD), .un, .un, .un, .un] s := by
    have fl : (RV.mu ((List.replicate n (0 : Rat)).map qD)).flat = true := by
      have := flat (List.replicate n 0)
      exact this
    unfold p_divided_1
    simp only [sPar_def, e2_def, pE_def, e1_def, eLst_def, aCons_def, aNil_def, eC_def, c_ZERO, pV_def, List.getElem?_cons_zero, List.getElem?_cons_succ, bind_ok, oLenR_t, lift_some, d_im, d_mu, oList_t, List.length_map, List.length_cons, List.length_nil, Nat.zero_add, sz_1, if_true, oAdd_ii, oSub_ii, oMax_ii, hn1, m1, out_ok, slot_mu, fl, List.set_cons_zero, List.set_cons_succ]
  have rg : ∀ (a0 a1 a2 x4 x5 x6 x7 : Slot), iRangeD (pE (e2 oSub (pE (e1 oLenR (pV 3))) (pE (eC (.int 1))))) (pE (e1 oNeg (pE (eC (.int 1))))) [a0, a1, a2, .mu ((List.replicate n (0 : Rat)).map qD), x4, x5, x6, x7] s = .ok ((List.range n).map fun (k : Nat) => .int ((n : Int) - 1 - (k : Int))) s := fun a0 a1 a2 x4 x5 x6 x7 => by
    unfold iRangeD
    simp only [pE_def, e2_def, e1_def, pV_def, List.getElem?_cons_zero, List.getElem?_cons_succ, bind_ok, oLenR_l, List.length_map, List.length_replicate, lift_some, d_im, eC_def, oSub_ii, oNeg_i]
    rw [show ((n : Int) - 1 - -1).toNat = n by omega, if_pos ⟨big (by omega), by omega, by omega, by decide, by decide⟩]
  -- the loop
  obtain ⟨f, l, y4, y5, y6, y7, e1, e2, e3, e4, e5, e6, e7⟩ : ∃ (f l : List Rat) (y4 y5 y6 y7 : Slot), p_divided_2 [.im (.tup (p.map qD)), .im (.tup (q.map qD)), .mu (p.map qD), .mu ((List.replicate n (0 : Rat)).map qD), .un, .un, .un, .un] s = .nx [.im (.tup (p.map qD)), .im (.tup (q.map qD)), .mu (l.map qD), .mu (f.map qD), y4, y5, y6, y7] s ∧
      f.length = n ∧ l.length = p.length ∧ po f * po q + po l = po p ∧ (∀ i, q.length ≤ i + 1 → (po l).at_ i = 0) ∧ (∀ y ∈ l, CD (d * L ^ J) (K * (M * (q.length + 1)) ^ J) y) ∧ (∀ y ∈ f, CQ (d * L ^ J) e (J * K * (M * (q.length + 1)) ^ J) y) := by
    rcases hn2 with ⟨h0, h1⟩ | h1
    · subst h0
      refine ⟨[], p, .un, .un, .un, .un, ?_, rfl, rfl, by rw [po_nil]; grind, fun i hi => po_out (by omega), fun y hy => by rw [show J = 0 by omega, Nat.pow_zero, Nat.pow_zero, Nat.mul_one, Nat.mul_one]; exact hc y hy, fun y hy => absurd hy (by simp)⟩
      unfold p_divided_2
      rw [sFor_def, rg]
      rfl
    · have nJ : n = J := by omega
      subst nJ
      obtain ⟨l0, l1, l2⟩ := v.up
      have L0 : 0 < L := by
        have := CD.quo (CD.zero (d := 1) (N := 0) (by decide)) v.ne ⟨l0, l1, l2⟩ v.e0 (v.cd lc (List.mem_of_getLast? v.last))
        exact this.2.2.1
      have zF : ∀ y ∈ List.replicate n (0 : Rat), CQ d e 0 y := fun y hy => by
        rw [(List.mem_replicate.mp hy).2]
        exact CQ.zero d0
      obtain ⟨f, l, y4, y5, y6, y7, g1, g2, g3, g4, g5, g6, g7⟩ := @div_loop s q e M L lc v (.im (.tup (p.map qD))) n d K 0 (List.replicate n 0) p .un .un .un .un (by rw [List.length_replicate]; omega) (by omega) (fun i hi => by rw [po_zeros, zero_at]) (fun i hi => po_out (by omega)) hc zF b1 b2 b3 hM
      rw [List.length_replicate] at g2
      refine ⟨f, l, y4, y5, y6, y7, ?_, g2, g3, by rw [g4, po_zeros]; grind, g5, g6, fun y hy => by have := g7 y hy; rw [Nat.zero_add] at this; exact this⟩
      unfold p_divided_2
      rw [sFor_def, rg]
      exact g1
  have t1 := @trimmed_ok s f (by omega) _ (.inr rfl)
  have t2 := @trimmed_ok s l (by omega) _ (.inr rfl)
  have fl1 := flat (trim f)
  have fl2 := flat (trim l)
  refine ⟨trim f, trim l, ?_, trim_tr _, trim_tr _, by rw [trim_po, trim_po, e4], ?_, by have := trim_len f; omega, fun y hy => e7 y (trim_mem y hy), fun y hy => e6 y (trim_mem y hy)⟩
  · generalize trim f = A at *
    generalize trim l = B at *
    generalize (List.replicate n (0 : Rat)).map qD = zz at *
    unfold F_divided
    rw [fnOf_def, if_pos (by rfl), b_divided_p]
    simp [p_divided, u1, e1, p_divided_3, t1, t2, fl1, fl2]
  · have := (trim_tr l).len (n := q.length - 1) fun i hi => by
      rw [trim_po]
      exact e5 i (by omega)
    omega
end KP

/-! KPG: polynomials divided, as the laws do it: own work. -/
namespace KP
open PySem Ev Ps
variable {s : DS}
theorem rangeD_cons (b n : Nat) : rangeD (b : Int) (n + 1) = .int (b : Int) :: rangeD ((b + 1 : Nat) : Int) n := by
  unfold rangeD
  rw [List.range_succ_eq_map, List.map_cons, List.map_map, show ((b : Int) + ((0 : Nat) : Int)) = (b : Int) by omega]
  congr 1
  apply List.map_congr_left
  intro k _
  simp only [Function.comp]
  congr 1
  omega
theorem L_div_inner {dn P : Nat} (x : Rat) (sx : Sq x) (q0 : List Rat) (a : Nat) (a0 a3 x4 x5 : Slot) (h4 : x4 = .im (qD x)) (h5 : x5 = .im (.int a)) : ∀ (q : List Rat) (b K : Nat) (left : List Rat) (x6 : Slot), q0.drop b = q → a + b + q.length ≤ left.length → (∀ y ∈ q, CD dn P (x * y)) → (∀ y ∈ q, Sq y) → (∀ y ∈ left, CD dn K y) → K + P * q.length < BN → dn < BD →
    ∃ (left' : List Rat) (y6 : Slot), forL (.nm 6) p_L_poly_parted_2b_3b_1 (rangeD (b : Int) q.length) [a0, .im (.tup (q0.map qD)), .mu (left.map qD), a3, x4, x5, x6] s = .nx [a0, .im (.tup (q0.map qD)), .mu (left'.map qD), a3, x4, x5, y6] s ∧
      left'.length = left.length ∧ po left' = po left - mono (a + b) x * po q ∧ ∀ y ∈ left', CD dn (K + P * q.length) y
  | [], b, K, left, x6, hb, hl, hq, sq, hf, hK, hD => ⟨left, x6, by simp [forL, rangeD], rfl, by rw [po_nil]; grind, fun y hy => (hf y hy).mono (by simp)⟩
  | y :: q, b, K, left, x6, hb, hl, hq, sq, hf, hK, hD => by
    rw [List.length_cons] at hl hK
    rw [Nat.mul_add, Nat.mul_one] at hK
    have lt : a + b < left.length := by omega
    have hg : left[a + b]? = some left[a + b] := List.getElem?_eq_getElem lt
    have mg : left[a + b] ∈ left := List.getElem_mem lt
    generalize left[a + b] = z at hg mg
    have sz : Sq z := (hf z mg).sq (by omega) hD
    have cxy := hq y List.mem_cons_self
    have t := @L_times_q s x y sx (sq y List.mem_cons_self)
    have mi := @L_minus_ok s (x * y)
    have p := @L_plus_q s z (-(x * y)) sz (cxy.neg.sq (by omega) hD)
    have ix : oIdx (.lst (left.map qD)) (.int ((a + b : Nat) : Int)) = some (qD z) := oIdx_l (by rw [List.getElem?_map, hg]; rfl)
    have gq : q0[b]? = some y := by
      have := congrArg (fun l => l[0]?) hb
      simp only [List.getElem?_drop, Nat.add_zero] at this
      exact this
    have iq : oIdx (.tup (q0.map qD)) (.int (b : Int)) = some (qD y) := oIdx_t (by rw [List.getElem?_map, gq]; rfl)
    have hb' : q0.drop (b + 1) = q := by
      have := congrArg (fun l => l.drop 1) hb
      simp only [List.drop_drop] at this
      exact this
    have hf' : ∀ w ∈ left.set (a + b) (z + -(x * y)), CD dn (K + P) w := fun w hw => by
      rcases List.mem_or_eq_of_mem_set hw with h | h
      · exact (hf w h).mono (by omega)
      · rw [h]
        exact (hf z mg).add cxy.neg
    obtain ⟨left', y6, e1, e2, e3, e4⟩ := L_div_inner x sx q0 a a0 a3 x4 x5 h4 h5 q (b + 1) (K + P) (left.set (a + b) (z + -(x * y))) (.im (.int b)) hb' (by rw [List.length_set]; omega) (fun w hw => hq w (List.mem_cons_of_mem _ hw)) (fun w hw => sq w (List.mem_cons_of_mem _ hw)) hf' (by omega) hD
    refine ⟨left', y6, ?_, by rw [e2, List.length_set], ?_, fun w hw => (e4 w hw).mono (by rw [List.length_cons, Nat.mul_add, Nat.mul_one]; omega)⟩
    · subst h4 h5
      rw [List.length_cons, rangeD_cons, forL]
      have ad : (a : Int) + (b : Int) = ((a + b : Nat) : Int) := by omega
      have pu : p_L_poly_parted_2b_3b_1 [a0, .im (.tup (q0.map qD)), .mu (left.map qD), a3, .im (qD x), .im (.int a), .im (.int b)] s = .nx [a0, .im (.tup (q0.map qD)), .mu ((left.set (a + b) (z + -(x * y))).map qD), a3, .im (qD x), .im (.int a), .im (.int b)] s := by
        unfold p_L_poly_parted_2b_3b_1
        rw [List.map_set]
        refine putAt_ok (i := 2) (m := a + b) (xs := left.map qD) ?_ rfl ?_ (by rw [List.length_map]; exact lt)
        · simp only [eCall_def, aCons_def, eIdx_def, pV_def, List.getElem?_cons_zero, List.getElem?_cons_succ, bind_ok, pE_def, e2_def, oAdd_ii, lift_some, d_im, ad, ix, iq, Option.map_some, eV_def, aNil_def, t, mi, p]
        · simp only [pE_def, e2_def, pV_def, List.getElem?_cons_zero, List.getElem?_cons_succ, bind_ok, oAdd_ii, lift_some, d_im, ad]
      simp only [Tgt.put, List.set_cons_succ, List.set_cons_zero, pu]
      exact e1
    · rw [e3, po_set hg, po_cons, show z + -(x * y) - z = -(x * y) by grind, show a + (b + 1) = (a + b) + 1 by omega]
      have h1 : mono (a + b + 1) x = mono (a + b) x * mono 1 1 := by rw [mono_mul, Rat.mul_one]
      have h2 : mono (a + b) (-(x * y)) = - (mono (a + b) x * con y) := by rw [← mono_zero, mono_mul, Nat.add_zero, mono_neg]
      rw [h1, h2]
      grind
theorem po_dropLast {l : List Rat} (h : (po l).at_ (l.length - 1) = 0) : po l.dropLast = po l := by
  by_cases e : l = []
  · subst e
    rfl
  · have z : l = l.dropLast ++ List.replicate 1 0 := by
      have q := List.dropLast_concat_getLast e
      have g : l.getLast e = 0 := by
        rw [getLast_po (List.getLast?_eq_some_getLast e)] at h
        exact h
      rw [g] at q
      exact q.symm
    exact ((congrArg po z).trans (po_app_zeros l.dropLast 1)).symm
theorem L_div_loop {q : List Rat} {e M L : Nat} {lc : Rat} (v : Dv q e M L lc) (a0 : Slot) : ∀ (r f d K : Nat) (found left : List Rat) (x4 x5 x6 : Slot), r + 1 ≤ f → r ≤ found.length → r + q.length = left.length + 1 → (∀ i, i < r → (po found).at_ i = 0) → (∀ y ∈ left, CD d K y) → K * (M * (q.length + 1)) ^ r < BN → K * (M * (q.length + 1)) ^ r * e < BN → d * L ^ r < BD → 0 < M → q.length ≤ 400 →
    ∃ (found' left' : List Rat) (y4 y5 y6 : Slot), whileN (tCmp oGe (pE (e1 oLenR (pV 2))) (pE (e1 oLenR (pV 1)))) (sSeq p_L_poly_parted_2b_1 (sSeq (sPutAt 3 (pV 5) (eV 4)) (sSeq p_L_poly_parted_2b_3 (sPop 2)))) f [a0, .im (.tup (q.map qD)), .mu (left.map qD), .mu (found.map qD), x4, x5, x6] s = .nx [a0, .im (.tup (q.map qD)), .mu (left'.map qD), .mu (found'.map qD), y4, y5, y6] s ∧
      found'.length = found.length ∧ left'.length ≤ left.length ∧ left'.length + 1 = q.length ∧ po found' * po q + po left' = po found * po q + po left ∧ (∀ y ∈ left', CD (d * L ^ r) (K * (M * (q.length + 1)) ^ r) y) := by
  intro r
  induction r with
  | zero =>
    intro f d K found left x4 x5 x6 hf h1 h2 h3 hc b1 b2 b3 hM hq4
    obtain ⟨f, rfl⟩ : ∃ k, f = k + 1 := ⟨f - 1, by omega⟩
    have n : ¬ q.length ≤ left.length := by omega
    refine ⟨found, left, x4, x5, x6, ?_, rfl, Nat.le_refl _, by omega, rfl, fun y hy => by rw [Nat.pow_zero, Nat.pow_zero, Nat.mul_one, Nat.mul_one]; exact hc y hy⟩
    rw [whileN]
    simp [n]
  | succ r ih =>
    intro f d K found left x4 x5 x6 hf h1 h2 h3 hc b1 b2 b3 hM hq4
    obtain ⟨f, rfl⟩ : ∃ k, f = k + 1 := ⟨f - 1, by omega⟩
    have qne : q ≠ [] := by
      intro e
      have := v.last
      rw [e] at this
      simp at this
    have lo := List.length_pos_iff.mpr qne
    have le0 := v.e0
    have lM := v.LM
    obtain ⟨l, l1, l2⟩ := v.up
    generalize hlo : q.length = w at *
    have lt : r + w - 1 < left.length := by omega
    have hn : left[r + w - 1]? = some left[r + w - 1] := List.getElem?_eq_getElem lt
    have mn : left[r + w - 1] ∈ left := List.getElem_mem lt
    generalize left[r + w - 1] = n at hn mn
    have ln : left.length = r + w := by omega
    have hlast : left.getLast? = some n := by
      rw [List.getLast?_eq_getElem?, ln]
      exact hn
    have pn := po_get hn
    have lmem : lc ∈ q := List.mem_of_getLast? v.last
    obtain ⟨c1, _, L0, cq⟩ := CD.quo (hc n mn) v.ne ⟨l, l1, l2⟩ v.e0 (v.cd lc lmem)
    have c2 : ∀ y ∈ q, CD (d * L) (K * M) (n / lc * y) := fun y hy => (CD.quo (hc n mn) v.ne ⟨l, l1, l2⟩ v.e0 (v.cd y hy)).2.1
    have B0 : 1 ≤ M * (w + 1) := Nat.mul_pos hM (by omega)
    have Br : 1 ≤ (M * (w + 1)) ^ r := Nat.pow_pos B0
    have Lr : 1 ≤ L ^ r := Nat.pow_pos L0
    rw [Nat.pow_succ, Nat.mul_comm ((M * (w + 1)) ^ r), ← Nat.mul_assoc] at b1 b2
    rw [Nat.pow_succ, Nat.mul_comm (L ^ r), ← Nat.mul_assoc] at b3
    have K1 : K * (M * (w + 1)) ≤ K * (M * (w + 1)) * (M * (w + 1)) ^ r := Nat.le_mul_of_pos_right _ Br
    have K0 : K ≤ K * (M * (w + 1)) := Nat.le_mul_of_pos_right _ B0
    have D1 : d * L ≤ d * L * L ^ r := Nat.le_mul_of_pos_right _ Lr
    have D0 : d ≤ d * L := Nat.le_mul_of_pos_right _ L0
    have Ke : K * e ≤ K * (M * (w + 1)) * (M * (w + 1)) ^ r * e := Nat.mul_le_mul_right _ (Nat.le_trans K0 K1)
    have sn : Sq n := (hc n mn).sq (by omega) (by omega)
    have sx : Sq (n / lc) := c1.sq (by omega) (by omega)
    have ov := @L_over_q s n lc sn (v.sz lc lmem) v.ln v.ne
    have hup : ∀ y ∈ left, CD (d * L) (K * L) y := fun y hy => (hc y hy).up L0
    have KK : K * L + K * M * w ≤ K * (M * (w + 1)) := by
      have a1 : K * L ≤ K * M := Nat.mul_le_mul_left _ lM
      have a2 : K * (M * (w + 1)) = K * M * w + K * M := by rw [← Nat.mul_assoc, Nat.mul_add, Nat.mul_one]
      omega
    obtain ⟨l', y6, f1, f2, f3, f4⟩ := @L_div_inner s (d * L) (K * M) (n / lc) sx q r a0 (.mu ((found.set r (n / lc)).map qD)) (.im (qD (n / lc))) (.im (.int r)) rfl rfl q 0 (K * L) left x6 rfl (by omega) c2 v.sz hup (by rw [hlo]; omega) (by omega)
    rw [hlo] at f1 f4
    have fr : found[r]? = some 0 := by
      have z := h3 r (by omega)
      rw [po_at, List.getD_eq_getElem?_getD, List.getElem?_eq_getElem (by omega)] at z
      rw [List.getElem?_eq_getElem (by omega)]
      simpa using z
    have pf := po_set (d := n / lc) fr
    have pq : (po q).at_ (w - 1) = lc := by rw [← hlo]; exact getLast_po v.last
    have top : (po l').at_ (l'.length - 1) = 0 := by
      rw [f2, ln, f3, sub_at, mono_mul_at, if_pos (by omega), pn, show r + w - 1 - (r + 0) = w - 1 by omega, pq]
      have : n / lc * lc = n := Rat.div_mul_cancel v.ne
      grind
    have dl := po_dropLast top
    have lne : l'.map qD ≠ [] := by
      intro e
      have := congrArg List.length e
      rw [List.length_map, f2, ln] at this
      simp at this
      omega
    obtain ⟨found', left', z4, z5, z6, g1, g2, g3, g4, g5, g6⟩ := ih f (d * L) (K * L + K * M * w) (found.set r (n / lc)) l'.dropLast (.im (qD (n / lc))) (.im (.int r)) y6 (by omega) (by rw [List.length_set]; omega) (by rw [List.length_dropLast, f2]; omega) (fun i hi => by
      rw [pf, add_at, h3 i (by omega), mono_at, if_neg (by omega), Rat.add_zero]) (fun y hy => f4 y (List.dropLast_subset _ hy)) (Nat.lt_of_le_of_lt (Nat.mul_le_mul_right _ KK) b1) (Nat.lt_of_le_of_lt (Nat.mul_le_mul_right _ (Nat.mul_le_mul_right _ KK)) b2) b3 hM hq4
    refine ⟨found', left', z4, z5, z6, ?_, by rw [g2, List.length_set], by rw [List.length_dropLast, f2] at g3; omega, g4, ?_, fun y hy => ?_⟩
    rotate_left 2
    · rw [show d * L ^ (r + 1) = d * L * L ^ r by rw [Nat.pow_succ', ← Nat.mul_assoc], show K * (M * (w + 1)) ^ (r + 1) = K * (M * (w + 1)) * (M * (w + 1)) ^ r by rw [Nat.pow_succ', ← Nat.mul_assoc]]
      exact (g6 y hy).mono (Nat.mul_le_mul_right _ KK)
    · have ix1 : oIdx (.lst (left.map qD)) (.int (-1)) = some (qD n) := (oIdx_last (by rw [List.getLast?_map, hlast]; rfl)).1
      have ix2 : oIdx (.tup (q.map qD)) (.int (-1)) = some (qD lc) := (oIdx_last (by rw [List.getLast?_map, v.last]; rfl)).2
      have sb : (left.length : Int) - (w : Int) = (r : Int) := by omega
      have s1 : p_L_poly_parted_2b_1 [a0, .im (.tup (q.map qD)), .mu (left.map qD), .mu (found.map qD), x4, x5, x6] s = .nx [a0, .im (.tup (q.map qD)), .mu (left.map qD), .mu (found.map qD), .im (qD (n / lc)), .im (.int r), x6] s := by
        unfold p_L_poly_parted_2b_1
        simp only [sPar_def, eCall_def, aCons_def, eIdx_def, pV_def, List.getElem?_cons_zero, List.getElem?_cons_succ, bind_ok, pE_def, e2_def, e1_def, oLenR_t, oLenR_l, List.length_map, hlo, oSub_ii, lift_some, d_im, ix1, Option.map_some, eC_def, aNil_def, oNeg_i, Int.reduceNeg, ix2, ov, sb, out_ok, slot_im, List.set_cons_zero, List.set_cons_succ]
      have s2 : sPutAt 3 (pV 5) (eV 4) [a0, .im (.tup (q.map qD)), .mu (left.map qD), .mu (found.map qD), .im (qD (n / lc)), .im (.int r), x6] s = .nx [a0, .im (.tup (q.map qD)), .mu (left.map qD), .mu ((found.set r (n / lc)).map qD), .im (qD (n / lc)), .im (.int r), x6] s := by
        rw [List.map_set]
        exact putAt_ok (i := 3) (m := r) (xs := found.map qD) rfl rfl rfl (by rw [List.length_map]; omega)
      have s3 : p_L_poly_parted_2b_3 [a0, .im (.tup (q.map qD)), .mu (left.map qD), .mu ((found.set r (n / lc)).map qD), .im (qD (n / lc)), .im (.int r), x6] s = .nx [a0, .im (.tup (q.map qD)), .mu (l'.map qD), .mu ((found.set r (n / lc)).map qD), .im (qD (n / lc)), .im (.int r), y6] s := by
        have rr : iRange1 (pE (e1 oLenR (pV 1))) [a0, .im (.tup (q.map qD)), .mu (left.map qD), .mu ((found.set r (n / lc)).map qD), .im (qD (n / lc)), .im (.int r), x6] s = .ok (rangeD ((0 : Nat) : Int) w) s := by
          unfold iRange1
          simp only [pE_def, e1_def, pV_def, List.getElem?_cons_zero, List.getElem?_cons_succ, bind_ok, oLenR_t, List.length_map, hlo, lift_some, d_im]
          rw [if_pos ⟨big (by omega), by omega⟩]
          rfl
        unfold p_L_poly_parted_2b_3
        rw [sFor_def, rr]
        exact f1
      have s4 : sPop 2 [a0, .im (.tup (q.map qD)), .mu (l'.map qD), .mu ((found.set r (n / lc)).map qD), .im (qD (n / lc)), .im (.int r), y6] s = .nx [a0, .im (.tup (q.map qD)), .mu (l'.dropLast.map qD), .mu ((found.set r (n / lc)).map qD), .im (qD (n / lc)), .im (.int r), y6] s := by
        rw [List.map_dropLast]
        unfold sPop
        simp only [List.getElem?_cons_zero, List.getElem?_cons_succ, lne, if_false]
        rfl
      have cond : tCmp oGe (pE (e1 oLenR (pV 2))) (pE (e1 oLenR (pV 1))) [a0, .im (.tup (q.map qD)), .mu (left.map qD), .mu (found.map qD), x4, x5, x6] s = .ok true s := by
        simp only [tCmp_def, pE_def, e1_def, pV_def, List.getElem?_cons_zero, List.getElem?_cons_succ, bind_ok, oLenR_t, oLenR_l, List.length_map, hlo, lift_some, d_im, oGe_ii]
        rw [decide_eq_true (show (w : Int) ≤ (left.length : Int) by omega)]
      rw [whileN, cond]
      simp only [out_ok, if_true, sSeq_def, s1, s2, s3, s4]
      exact g1
    · rw [g5, dl, f3, pf, show r + 0 = r by omega, show n / lc - 0 = n / lc by grind]
      grind
theorem L_poly_parted_ok {p q : List Rat} {e M L d K : Nat} {lc : Rat} (v : Dv q e M L lc) (hc : ∀ y ∈ p, CD d K y) (lp : p.length ≤ 400) (lq : q.length ≤ 400) {J : Nat} (hJ : J = p.length + 1 - q.length) (b1 : K * (M * (q.length + 1)) ^ J < BN) (b2 : K * (M * (q.length + 1)) ^ J * e < BN) (b3 : d * L ^ J < BD) (hM : 0 < M) :
    ∃ a b, F_L_poly_parted [.tup (p.map qD), .tup (q.map qD)] s = .ok (.im (.tup [.tup (a.map qD), .tup (b.map qD)])) s ∧ Tr a ∧ Tr b ∧ po p = po a * po q + po b ∧ b.length + 1 ≤ q.length ∧ (∀ y ∈ b, CD (d * L ^ J) (K * (M * (q.length + 1)) ^ J) y) := by
  have qne : q ≠ [] := by
    intro e
    have := v.last
    rw [e] at this
    simp at this
  have lo := List.length_pos_iff.mpr qne
  have B0 : 1 ≤ M * (q.length + 1) := Nat.mul_pos hM (by omega)
  have flat : ∀ g : List Rat, (RV.im (.tup (g.map qD))).flat = true := fun g => by
    show D.imm.immAll _ = true
    induction g with
    | nil => rfl
    | cons x g ih => simpa [D.imm.immAll, D.imm, qD] using ih
  obtain ⟨n, hn1, hn2, hn3⟩ : ∃ n : Nat, (if (p.length : Int) - q.length + 1 > 0 then (p.length : Int) - q.length + 1 else 0) = (n : Int) ∧ (n = 0 ∧ p.length + 1 ≤ q.length ∨ n + q.length = p.length + 1) ∧ n ≤ 401 := by
    by_cases h : p.length + 1 ≤ q.length
    · exact ⟨0, by rw [if_neg (by omega)]; rfl, .inl ⟨rfl, h⟩, by omega⟩
    · exact ⟨p.length + 1 - q.length, by rw [if_pos (by omega)]; omega, .inr (by omega), by omega⟩
  have m1 := zeros_mul (k := n) (by omega)
  have u1 : p_L_poly_parted_1 [.im (.tup (p.map qD)), .im (.tup (q.map qD)), .un, .un, .un, .un, .un] s = .nx [.im (.tup (p.map qD)), .im (.tup (q.map qD)), .mu (p.map qD), .mu ((List.replicate n (0 : Rat)).map qD), .un, .un, .un] s := by
    have fl : (RV.mu ((List.replicate n (0 : Rat)).map qD)).flat = true := flat (List.replicate n 0)
    unfold p_L_poly_parted_1
    simp only [sPar_def, e2_def, pE_def, e1_def, eLst_def, eTup_def, aCons_def, aNil_def, eC_def, pV_def, List.getElem?_cons_zero, List.getElem?_cons_succ, bind_ok, oLenR_t, lift_some, d_im, d_mu, oList_t, List.length_map, List.length_cons, List.length_nil, Nat.zero_add, Nat.reduceAdd, sz_1, sz_2, if_true, oAdd_ii, oSub_ii, oMax_ii, hn1, m1, out_ok, slot_mu, fl, List.set_cons_zero, List.set_cons_succ]
  -- the loop
  obtain ⟨f, l, y4, y5, y6, e1, e2, e3, e4, e5, e6⟩ : ∃ (f l : List Rat) (y4 y5 y6 : Slot), p_L_poly_parted_2 [.im (.tup (p.map qD)), .im (.tup (q.map qD)), .mu (p.map qD), .mu ((List.replicate n (0 : Rat)).map qD), .un, .un, .un] s = .nx [.im (.tup (p.map qD)), .im (.tup (q.map qD)), .mu (l.map qD), .mu (f.map qD), y4, y5, y6] s ∧
      f.length = n ∧ l.length ≤ p.length ∧ po f * po q + po l = po p ∧ l.length + 1 ≤ q.length ∧ (∀ y ∈ l, CD (d * L ^ J) (K * (M * (q.length + 1)) ^ J) y) := by
    rcases hn2 with ⟨h0, h1⟩ | h1
    · subst h0
      refine ⟨[], p, .un, .un, .un, ?_, rfl, Nat.le_refl _, by rw [po_nil]; grind, h1, fun y hy => by rw [show J = 0 by omega, Nat.pow_zero, Nat.pow_zero, Nat.mul_one, Nat.mul_one]; exact hc y hy⟩
      have n0 : ¬ q.length ≤ p.length := by omega
      unfold p_L_poly_parted_2
      rw [sWhile_def, whileN]
      simp [n0]
    · have nJ : n = J := by omega
      subst nJ
      obtain ⟨l0, l1, l2⟩ := v.up
      have L0 : 0 < L := by
        have := CD.quo (CD.zero (d := 1) (N := 0) (by decide)) v.ne ⟨l0, l1, l2⟩ v.e0 (v.cd lc (List.mem_of_getLast? v.last))
        exact this.2.2.1
      obtain ⟨f, l, y4, y5, y6, g1, g2, g3, g4, g5, g6⟩ := @L_div_loop s q e M L lc v (.im (.tup (p.map qD))) n 20000 d K (List.replicate n 0) p .un .un .un (by omega) (by rw [List.length_replicate]; omega) (by omega) (fun i hi => by rw [po_zeros, zero_at]) hc b1 b2 b3 hM lq
      rw [List.length_replicate] at g2
      refine ⟨f, l, y4, y5, y6, ?_, g2, g3, by rw [g5, po_zeros]; grind, by omega, g6⟩
      unfold p_L_poly_parted_2
      rw [sWhile_def]
      exact g1
  have t1 := @L_trim_ok s f (by omega) _ (.inr rfl)
  have t2 := @L_trim_ok s l (by omega) _ (.inr rfl)
  have fl1 := flat (trim f)
  have fl2 := flat (trim l)
  refine ⟨trim f, trim l, ?_, trim_tr _, trim_tr _, by rw [trim_po, trim_po, e4], by have := trim_len l; omega, fun y hy => e6 y (trim_mem y hy)⟩
  generalize trim f = A at *
  generalize trim l = B at *
  generalize (List.replicate n (0 : Rat)).map qD = zz at *
  unfold F_L_poly_parted
  rw [fnOf_def, if_pos (by rfl), b_L_poly_parted_p]
  simp [p_L_poly_parted, u1, e1, p_L_poly_parted_3, t1, t2, fl1, fl2]
end KP

/-! KPH: the division is one alone; Euclid's steps: own work. -/
namespace Ps
def Lt (f : PS) (n : Nat) : Prop := ∀ i, n ≤ i → f.at_ i = 0
theorem Lt.po (p : List Rat) : Lt (po p) p.length := fun i h => po_out h
theorem Lt.tl {f : PS} {n : Nat} (h : Lt f (n + 1)) : Lt f.tl n := fun i hi => by
  rw [tl_at]
  exact h _ (by omega)
theorem Lt.eq0 {f : PS} (h : Lt f 0) : f = 0 := PS.ext fun n => by
  rw [zero_at]
  exact h n (Nat.zero_le _)
theorem Lt.mono {f : PS} {n m : Nat} (h : Lt f n) (l : n ≤ m) : Lt f m := fun i hi => h i (by omega)
theorem Lt.mul : ∀ (a : Nat) (f g : PS) (b n : Nat), Lt f a → Lt g b → a + b ≤ n + 1 → (f * g).at_ n = 0
  | 0, f, g, b, n, hf, hg, h => by rw [hf.eq0, mul_at, mulA_zero_l]
  | a + 1, f, g, b, 0, hf, hg, h => by
    rw [mul_at]
    unfold mulA
    rw [hg 0 (by omega), Rat.mul_zero]
  | a + 1, f, g, b, n + 1, hf, hg, h => by
    have i := Lt.mul a f.tl g b n hf.tl hg (by omega)
    rw [mul_at] at i ⊢
    rw [mulA, i, hg (n + 1) (by omega), Rat.mul_zero, Rat.zero_add]
theorem Lt.top : ∀ (a : Nat) (f g : PS) (b : Nat), Lt f (a + 1) → Lt g (b + 1) → (f * g).at_ (a + b) = f.at_ a * g.at_ b
  | 0, f, g, b, hf, hg => by
    have e : f = con (f.at_ 0) := PS.ext fun n => by
      cases n with
      | zero => rfl
      | succ n => rw [con_s]; exact hf _ (by omega)
    rw [mul_at, Nat.zero_add]
    rw [e, mulA_con]
    rfl
  | a + 1, f, g, b, hf, hg => by
    have i := Lt.top a f.tl g b hf.tl hg
    rw [mul_at] at i ⊢
    rw [show a + 1 + b = (a + b) + 1 by omega, mulA, i, hg (a + b + 1) (by omega), Rat.mul_zero, Rat.add_zero, tl_at]
theorem div_one {q q' r r' b : List Rat} (hb : Tr b) (h : po q * po b + po r = po q' * po b + po r') (l : r.length + 1 ≤ b.length) (l' : r'.length + 1 ≤ b.length) : po q = po q' ∧ po r = po r' := by
  have nb : b ≠ [] := by
    intro e
    subst e
    simp at l
  have bt := hb.last nb
  have key : ∀ n (c : PS), Lt c n → c * po b = po r' - po r → c = 0 := by
    intro n
    induction n with
    | zero => exact fun c hc _ => hc.eq0
    | succ n ih =>
      intro c hc e
      refine ih c (fun i hi => ?_) e
      by_cases g : i = n
      · subst g
        have t := Lt.top i c (po b) (b.length - 1) hc ((Lt.po b).mono (by omega))
        rw [e, sub_at, po_out (by omega), po_out (by omega)] at t
        have z : c.at_ i * (po b).at_ (b.length - 1) = 0 := by
          rw [← t]
          grind
        rcases Rat.mul_eq_zero.mp z with w | w
        · exact w
        · exact absurd w bt
      · exact hc i (by omega)
  have z := key (q.length + q'.length) (po q - po q') (fun i hi => by rw [sub_at, po_out (by omega), po_out (by omega)]; grind) (by grind)
  have e1 : po q = po q' := by grind
  refine ⟨e1, ?_⟩
  rw [e1] at h
  grind
/-- Euclid's steps -/
inductive Eu : List Rat → List Rat → List Rat → Prop where
  | fin (g : List Rat) : Eu g [] g
  | step (a b q r g : List Rat) (hb : Tr b) (hr : Tr r) (h : po a = po q * po b + po r) (l : r.length + 1 ≤ b.length) (n : Eu b r g) : Eu a b g
theorem Eu.one {a b g : List Rat} (h : Eu a b g) : ∀ {g' : List Rat}, Eu a b g' → g = g' := by
  induction h with
  | fin g =>
    intro g' h'
    cases h' with
    | fin => rfl
    | step _ _ q r _ hb hr h l n => simp at l
  | step a b q r g hb hr h l n ih =>
    intro g' h'
    cases h' with
    | fin => simp at l
    | step _ _ q' r' _ hb' hr' h' l' n' =>
      have e := div_one hb (h.symm.trans h') l l'
      have e2 := Tr.ext hr hr' e.2
      subst e2
      exact ih n'
end Ps

/-! KPI: cofactors: a step: own work. -/
namespace Ev
open PySem Ps
theorem CD.num {d N : Nat} {q : Rat} (h : CD d N q) (hN : N < BD) (hd : d < BD) : q.num.natAbs < BD := (h.sz (n := 4400) hN hd).1
/-- bounds of a part of Euclid's steps: length, joint lower part, upper parts, those of cofactors, their length -/
structure Bd where
  w : Nat
  D : Nat
  R : Nat
  A : Nat
  c : Nat
def bJ (x y : Bd) : Nat := x.w + 1 - y.w
def bK (x y : Bd) : Nat := x.R * (y.R * (y.w + 1)) ^ bJ x y
def bQ (x y : Bd) : Nat := bJ x y * bK x y
def nxt (x y : Bd) (w : Nat) : Bd := ⟨w, x.D * y.R ^ bJ x y, bK x y, x.A * y.R ^ bJ x y + bQ x y * y.A * y.c * bJ x y, x.c + y.c + bJ x y⟩
def chk (x y : Bd) : Bool := decide (bK x y < BN) && decide (bK x y * y.D < BN) && decide (bQ x y * y.D < BN) && decide (bQ x y * y.R * y.w * bJ x y < BN) && decide (y.R < BD) && decide ((nxt x y 0).D < BD) && decide ((nxt x y 0).A < BN) && decide ((nxt x y 0).c ≤ 200)
def endk (x : Bd) : Bool := decide (x.R < BD) && decide (x.R * 1296 < BD) && decide (x.A * 2 ^ 20 < BN) && decide (x.D < BD)
def okk : Nat → Bd → Bd → Bool
  | 0, x, y => decide (y.w = 0) && endk x
  | f + 1, x, y => if y.w = 0 then endk x else chk x y && (List.range y.w).all fun w => okk f y (nxt x y w)
structure Inv (x : Bd) (d : Nat) (r A B : List Rat) : Prop where
  len : r.length = x.w
  d0 : 0 < d
  dD : d ≤ x.D
  cr : ∀ y ∈ r, CD d x.R y
  cA : ∀ y ∈ A, CD d x.A y
  cB : ∀ y ∈ B, CD d x.A y
  lA : A.length ≤ x.c
  lB : B.length ≤ x.c
  tr : Tr r
  tA : Tr A
  tB : Tr B
  Dl : x.D < BD
  Rl : x.R < BN
  Al : x.A < BN
  cl : x.c ≤ 200
  wl : x.w ≤ 200
end Ev
namespace KP
open PySem Ev Ps
variable {s : DS}
theorem comp_ok {d0 d1 LJ Q N0 N1 lb lg : Nat} {own gone by_ : List Rat} (h0 : 0 < d0) (hown : ∀ y ∈ own, CD d0 N0 y) (hgone : ∀ y ∈ gone, CD d1 N1 y) (hby : ∀ y ∈ by_, CQ (d0 * LJ) d1 Q y) (L0 : 0 < LJ) (b0 : N0 < BN) (b1 : N1 < BN) (e0 : d0 < BD) (e1 : d1 < BD) (e2 : d0 * LJ < BD) (bq : Q * d1 < BN) (l0 : own.length ≤ 200) (lG : gone.length ≤ lg) (lB : by_.length ≤ lb) (l1 : lg ≤ 200) (l2 : lb ≤ 201) (bp : Q * N1 * lg * lb < BN) :
    ∃ (m r : List Rat), F_multiplied [.tup (by_.map qD), .tup (gone.map qD)] s = .ok (.im (.tup (m.map qD))) s ∧ F_summed [.tup (own.map qD), .tup (m.map qD)] s = .ok (.im (.tup (r.map qD))) s ∧ Tr r ∧ po r = po own + po by_ * po gone ∧ (∀ y ∈ r, CD (d0 * LJ) (N0 * LJ + Q * N1 * lg * lb) y) ∧ r.length ≤ own.length + gone.length + by_.length := by
  have B : Q * N1 * gone.length * by_.length ≤ Q * N1 * lg * lb := Nat.mul_le_mul (Nat.mul_le_mul_left _ lG) lB
  have D0 : 0 < d0 * LJ := Nat.mul_pos h0 L0
  obtain ⟨m, m1, m2, m3, m4⟩ := @multiplied_ok s (d0 * LJ) (Q * N1) by_ gone D0 (fun x hx y hy => (hby x hx).mul (hgone y hy)) (fun y hy => (hby y hy).cd.sq bq e2) (fun y hy => (hgone y hy).sq b1 e1) (by omega) (by omega) (by omega) e2
  have ml : m.length ≤ gone.length + by_.length := m2.len fun i hi => by
    rw [m3]
    exact Lt.mul _ _ _ _ i (Lt.po by_) (Lt.po gone) (by omega)
  have m5 : ∀ y ∈ m, CD (d0 * LJ) (Q * N1 * lg * lb) y := fun y hy => (m4 y hy).mono B
  obtain ⟨r, r1, r2, r3⟩ := @summed_ok s own m (fun y hy => (hown y hy).sq b0 e0) (fun y hy => (m5 y hy).sq bp e2) (by omega) (by omega)
  refine ⟨m, r, m1, r1, r2, by rw [r3, m3], ?_, ?_⟩
  · refine all_at fun i => ?_
    rw [r3, add_at]
    exact (at_all (P := fun y => CD (d0 * LJ) (N0 * LJ) y) (fun y hy => (hown y hy).up L0) (CD.zero D0) i).add (at_all m5 (CD.zero D0) i)
  · refine r2.len fun i hi => ?_
    rw [r3, add_at, po_out (by omega), po_out (by omega)]
    grind
/-- what a divisor is -/
theorem Inv.dv {y : Bd} {d : Nat} {r A B : List Rat} (v : Inv y d r A B) (n : r ≠ []) (hR : y.R < BD) : ∃ L lc, Dv r d y.R L lc ∧ 0 < L ∧ 0 < y.R := by
  have hl := List.getLast?_eq_some_getLast n
  generalize r.getLast n = lc at hl
  have mem : lc ∈ r := List.mem_of_getLast? hl
  have c := v.cr lc mem
  obtain ⟨_, l, l1, l2⟩ := c
  have nz : lc ≠ 0 := fun z => v.tr (by rw [hl, z])
  have dd := Nat.lt_of_le_of_lt v.dD v.Dl
  have w : Dv r d y.R l.natAbs lc := ⟨v.d0, v.cr, fun z hz => (v.cr z hz).sq v.Rl dd, hl, nz, (v.cr lc mem).num hR dd, ⟨l, l1, rfl⟩, l2⟩
  have L0 : 0 < l.natAbs := (CD.quo (CD.zero (d := 1) (N := 0) (by decide)) nz ⟨l, l1, rfl⟩ v.d0 (v.cr lc mem)).2.2.1
  exact ⟨_, _, w, L0, by omega⟩
/-- Euclid's step, without the program -/
theorem cof_calls {x y : Bd} {d e : Nat} {r0 A0 B0 r1 A1 B1 : List Rat} (v : Inv x d r0 A0 B0) (u : Inv y e r1 A1 B1) (hc : chk x y = true) (hw : y.w ≠ 0) : ∃ (q t b m1 m2 m3 r2 A2 B2 : List Rat) (d2 : Nat),
    F_divided [.tup (r0.map qD), .tup (r1.map qD)] s = .ok (.im (.tup [.tup (q.map qD), .tup (t.map qD)])) s ∧
    F_scaled [qD (-1), .tup (q.map qD)] s = .ok (.im (.tup (b.map qD))) s ∧
    F_multiplied [.tup (b.map qD), .tup (r1.map qD)] s = .ok (.im (.tup (m1.map qD))) s ∧ F_summed [.tup (r0.map qD), .tup (m1.map qD)] s = .ok (.im (.tup (r2.map qD))) s ∧
    F_multiplied [.tup (b.map qD), .tup (A1.map qD)] s = .ok (.im (.tup (m2.map qD))) s ∧ F_summed [.tup (A0.map qD), .tup (m2.map qD)] s = .ok (.im (.tup (A2.map qD))) s ∧
    F_multiplied [.tup (b.map qD), .tup (B1.map qD)] s = .ok (.im (.tup (m3.map qD))) s ∧ F_summed [.tup (B0.map qD), .tup (m3.map qD)] s = .ok (.im (.tup (B2.map qD))) s ∧
    Inv (nxt x y r2.length) d2 r2 A2 B2 ∧ r2.length + 1 ≤ y.w ∧ po r0 = po q * po r1 + po r2 ∧ po A2 = po A0 - po q * po A1 ∧ po B2 = po B0 - po q * po B1 ∧ q.length ≤ bJ x y := by
  simp only [chk, Bool.and_eq_true, decide_eq_true_eq] at hc
  obtain ⟨⟨⟨⟨⟨⟨⟨k1, k2⟩, k3⟩, k4⟩, k5⟩, k6⟩, k7⟩, k8⟩ := hc
  have n1 : r1 ≠ [] := by
    intro z
    have := u.len
    rw [z] at this
    exact hw this.symm
  obtain ⟨L, lc, dv, L0, R0⟩ := Inv.dv u n1 k5
  have dd := Nat.lt_of_le_of_lt v.dD v.Dl
  have de := Nat.lt_of_le_of_lt u.dD u.Dl
  have hJ : bJ x y = r0.length + 1 - r1.length := by rw [v.len, u.len]; rfl
  have LJ0 : 0 < L ^ bJ x y := Nat.pow_pos L0
  have LR : L ^ bJ x y ≤ y.R ^ bJ x y := Nat.pow_le_pow_left dv.LM _
  have dL : d * L ^ bJ x y ≤ x.D * y.R ^ bJ x y := Nat.mul_le_mul v.dD LR
  have b3 : d * L ^ bJ x y < BD := Nat.lt_of_le_of_lt dL k6
  have vw := v.wl
  have uw := u.wl
  have vl := v.len
  have ul := u.len
  have eK : bK x y = x.R * (y.R * (r1.length + 1)) ^ bJ x y := by rw [ul]; rfl
  obtain ⟨q, t, f1, f2, f3, f4, f5, f6, f7, f8⟩ := @divided_ok s r0 r1 e y.R L d x.R lc dv v.d0 v.cr (by omega) (by omega) _ hJ (by rw [← eK]; exact k1) (by rw [← eK]; exact Nat.lt_of_le_of_lt (Nat.mul_le_mul_left _ u.dD) k2) b3 R0
  rw [Nat.mul_assoc, ← eK] at f7
  rw [← eK] at f8
  have f7 : ∀ y_1 ∈ q, CQ (d * L ^ bJ x y) e (bQ x y) y_1 := f7
  have qe : bQ x y * e < BN := Nat.lt_of_le_of_lt (Nat.mul_le_mul_left _ u.dD) k3
  have lJ : bJ x y ≤ 201 := by unfold bJ; omega
  obtain ⟨b, g1, g2, g3⟩ := @scaled_ok s (-1) q (by constructor <;> decide +kernel) (fun z hz => (f7 z hz).cd.sq qe b3) (by omega)
  have D0 : 0 < d * L ^ bJ x y := Nat.mul_pos v.d0 LJ0
  have cb : ∀ z ∈ b, CQ (d * L ^ bJ x y) e (bQ x y) z := by
    refine all_at fun i => ?_
    rw [g3, mul_at, mulA_con, show (-1 : Rat) * (po q).at_ i = - (po q).at_ i by grind]
    exact (at_all f7 (CQ.zero D0) i).neg
  have lb : b.length ≤ q.length := g2.len fun i hi => by
    rw [g3, mul_at, mulA_con, po_out hi, Rat.mul_zero]
  have pb : po b = - po q := by
    rw [g3, show (-1 : Rat) = -(1 : Rat) from rfl, con_neg, ← one_eq]
    grind
  have ua := u.lA
  have ub := u.lB
  have uc := u.cl
  have va := v.lA
  have vb := v.lB
  have vc := v.cl
  have kA : bQ x y * y.A * y.c * bJ x y < BN := Nat.lt_of_le_of_lt (Nat.le_add_left _ _) k7
  obtain ⟨m1, r2, a1, a2, a3, a4, a5, a6⟩ := @comp_ok s d e (L ^ bJ x y) (bQ x y) x.R y.R (bJ x y) y.w r0 r1 b v.d0 v.cr u.cr cb LJ0 v.Rl u.Rl dd de b3 qe (by omega) (by omega) (by omega) uw lJ k4
  obtain ⟨m2, A2, c1, c2, c3, c4, c5, c6⟩ := @comp_ok s d e (L ^ bJ x y) (bQ x y) x.A y.A (bJ x y) y.c A0 A1 b v.d0 v.cA u.cA cb LJ0 v.Al u.Al dd de b3 qe (by omega) ua (by omega) uc lJ kA
  obtain ⟨m3, B2, e1, e2, e3, e4, e5, e6⟩ := @comp_ok s d e (L ^ bJ x y) (bQ x y) x.A y.A (bJ x y) y.c B0 B1 b v.d0 v.cB u.cB cb LJ0 v.Al u.Al dd de b3 qe (by omega) ub (by omega) uc lJ kA
  have er : r2 = t := Tr.ext a3 f3 (by rw [a4, pb, f4]; grind)
  have AL : x.A * L ^ bJ x y + bQ x y * y.A * y.c * bJ x y ≤ (nxt x y r2.length).A := Nat.add_le_add_right (Nat.mul_le_mul_left _ LR) _
  refine ⟨q, t, b, m1, m2, m3, r2, A2, B2, d * L ^ bJ x y, f1, g1, a1, a2, c1, c2, e1, e2, ?_, by rw [er]; omega, by rw [er]; exact f4, by rw [c4, pb]; grind, by rw [e4, pb]; grind, f6⟩
  have k8 : x.c + y.c + bJ x y ≤ 200 := k8
  exact { len := rfl, d0 := D0, dD := dL, cr := (by rw [er]; exact f8), cA := fun z hz => (c5 z hz).mono AL, cB := fun z hz => (e5 z hz).mono AL, lA := (by show _ ≤ x.c + y.c + bJ x y; omega), lB := (by show _ ≤ x.c + y.c + bJ x y; omega), tr := a3, tA := c3, tB := e3, Dl := k6, Rl := k1, Al := k7, cl := k8, wl := (by show r2.length ≤ 200; rw [er]; omega) }
end KP

/-! KPJ: cofactors: own work. -/
namespace KP
open PySem Ev Ps
variable {s : DS}
theorem idx3 (a b c : D) : oIdx (.tup [a, b, c]) (.int 0) = some a := rfl
theorem idx2 (a b : D) : oIdx (.tup [a, b]) (.int 0) = some a := rfl
theorem one_qD : c_ONE = qD 1 := rfl
def tri (r A B : List Rat) : D := .tup [.tup (r.map qD), .tup (A.map qD), .tup (B.map qD)]
theorem cof_body (a0 a1 s4 s5 s6 : Slot) {x y : Bd} {d e : Nat} {r0 A0 B0 r1 A1 B1 : List Rat} (v : Inv x d r0 A0 B0) (u : Inv y e r1 A1 B1) (hc : chk x y = true) (hw : y.w ≠ 0) : ∃ (q r2 A2 B2 : List Rat) (d2 : Nat) (y4 y5 : Slot),
    sSeq p_with_cofactors_2b_1 (sSeq p_with_cofactors_2b_2 (sPar 2 3 (eV 3) (eV 5))) [a0, a1, .im (tri r0 A0 B0), .im (tri r1 A1 B1), s4, s5, s6, .un, .un] s = .nx [a0, a1, .im (tri r1 A1 B1), .im (tri r2 A2 B2), y4, y5, s6, .un, .un] s ∧
    Inv (nxt x y r2.length) d2 r2 A2 B2 ∧ r2.length + 1 ≤ y.w ∧ po r0 = po q * po r1 + po r2 ∧ po A2 = po A0 - po q * po A1 ∧ po B2 = po B0 - po q * po B1 ∧ q.length ≤ bJ x y := by
  obtain ⟨q, t, b, m1, m2, m3, r2, A2, B2, d2, f, g, a1', a2', c1, c2, e1', e2', rest⟩ := @cof_calls s x y d e r0 A0 B0 r1 A1 B1 v u hc hw
  have mi : F_minus [c_ONE] s = .ok (.im (qD (-1))) s := minus_ok 1
  refine ⟨q, r2, A2, B2, d2, .im (.tup (b.map qD)), .im (tri r2 A2 B2), ?_, rest⟩
  have u1 : p_with_cofactors_2b_1 [a0, a1, .im (tri r0 A0 B0), .im (tri r1 A1 B1), s4, s5, s6, .un, .un] s = .nx [a0, a1, .im (tri r0 A0 B0), .im (tri r1 A1 B1), .im (.tup (b.map qD)), s5, s6, .un, .un] s := by
    unfold p_with_cofactors_2b_1 tri
    simp only [sSet_def, eCall_def, aCons_def, aNil_def, eC_def, mi, eIdx_def, pE_def, pV_def, List.getElem?_cons_zero, List.getElem?_cons_succ, bind_ok, d_im, idx3, idx2, lift_some, Option.map_some, f, g, out_ok, slot_im, List.set_cons_zero, List.set_cons_succ]
  have u2 : p_with_cofactors_2b_2 [a0, a1, .im (tri r0 A0 B0), .im (tri r1 A1 B1), .im (.tup (b.map qD)), s5, s6, .un, .un] s = .nx [a0, a1, .im (tri r0 A0 B0), .im (tri r1 A1 B1), .im (.tup (b.map qD)), .im (tri r2 A2 B2), s6, .un, .un] s := by
    have z : zipD [D.tup (r0.map qD), .tup (A0.map qD), .tup (B0.map qD)] [D.tup (r1.map qD), .tup (A1.map qD), .tup (B1.map qD)] = [.tup [.tup (r0.map qD), .tup (r1.map qD)], .tup [.tup (A0.map qD), .tup (A1.map qD)], .tup [.tup (B0.map qD), .tup (B1.map qD)]] := rfl
    have k : (3 : Nat) ≤ sizeLine := big (by omega)
    unfold p_with_cofactors_2b_2 tri
    generalize r0.map qD = R0 at *
    generalize r1.map qD = R1 at *
    generalize r2.map qD = R2 at *
    generalize A0.map qD = P0 at *
    generalize A1.map qD = P1 at *
    generalize A2.map qD = P2 at *
    generalize B0.map qD = Q0 at *
    generalize B1.map qD = Q1 at *
    generalize B2.map qD = Q2 at *
    generalize b.map qD = bb at *
    simp [zipR, z, wipeOk, wipeE, Tgt.inn, Tgt.inns, lcL, Tgt.put, Tgt.puts, a1', a2', c1, c2, e1', e2', k]
  simp only [sSeq_def, u1, u2]
  rfl
end KP

set_option exponentiation.threshold 200000
/-! KPK: cofactors, the loop: own work. -/
namespace Ps
theorem Eu.ne {a b g : List Rat} (h : Eu a b g) : a ≠ [] ∨ b ≠ [] → g ≠ [] := by
  induction h with
  | fin g => exact fun z => z.elim id fun w => absurd rfl w
  | step a b q r g hb hr h l n ih =>
    intro _
    refine ih (.inl ?_)
    intro e
    subst e
    simp at l
theorem Eu.tr {a b g : List Rat} (h : Eu a b g) : Tr a → Tr b → Tr g := by
  induction h with
  | fin g => exact fun z _ => z
  | step a b q r g hb hr h l n ih => exact fun _ z => ih z hr
end Ps
namespace KP
open PySem Ev Ps
variable {s : DS}
theorem cof_loop (W : Nat) (P Q : PS) (a0 a1 : Slot) : ∀ (n f : Nat) (x y : Bd) (d e : Nat) (r0 A0 B0 r1 A1 B1 : List Rat) (s4 s5 s6 : Slot), okk n x y = true → n < f → y.w ≤ n → Inv x d r0 A0 B0 → Inv y e r1 A1 B1 → po A0 * P + po B0 * Q = po r0 → po A1 * P + po B1 * Q = po r1 → (r1 ≠ [] ∨ A0.length + r0.length ≤ W) → (A1 = [] ∧ r1.length ≤ W ∨ r1.length < r0.length ∧ A1.length + r0.length ≤ W + 1) → A0.length + r1.length ≤ W + 1 →
    ∃ (g A B : List Rat) (x' : Bd) (d' : Nat) (z : D) (y4 y5 : Slot), whileN (tCmp oNe (pE (eIdx (pV 3) (pE (eC (.int 0))))) (pE (eTup aNil))) (sSeq p_with_cofactors_2b_1 (sSeq p_with_cofactors_2b_2 (sPar 2 3 (eV 3) (eV 5)))) f [a0, a1, .im (tri r0 A0 B0), .im (tri r1 A1 B1), s4, s5, s6, .un, .un] s = .nx [a0, a1, .im (tri g A B), .im z, y4, y5, s6, .un, .un] s ∧
      Inv x' d' g A B ∧ endk x' = true ∧ po A * P + po B * Q = po g ∧ A.length + g.length ≤ W ∧ Eu r0 r1 g := by
  have cond : ∀ (s2 : Slot) (r1 A1 B1 : List Rat) (s4 s5 s6 : Slot), tCmp oNe (pE (eIdx (pV 3) (pE (eC (.int 0))))) (pE (eTup aNil)) [a0, a1, s2, .im (tri r1 A1 B1), s4, s5, s6, .un, .un] s = .ok (!decide (r1 = [])) s := fun s2 r1 A1 B1 s4 s5 s6 => by
    have z := oNe_tnil r1
    have k : (0 : Nat) ≤ sizeLine := Nat.zero_le _
    unfold tri
    simp only [tCmp_def, eIdx_def, pE_def, pV_def, List.getElem?_cons_zero, List.getElem?_cons_succ, bind_ok, d_im, eC_def, idx3, eTup_def, aNil_def, lift_some, Option.map_some, List.length_nil, k, if_true, z]
  intro n
  induction n with
  | zero =>
    intro f x y d e r0 A0 B0 r1 A1 B1 s4 s5 s6 ho hf hw v u p1 p2 i1 i2 i3
    obtain ⟨f, rfl⟩ : ∃ k, f = k + 1 := ⟨f - 1, by omega⟩
    obtain rfl : r1 = [] := List.eq_nil_of_length_eq_zero (by rw [u.len]; omega)
    simp only [okk, Bool.and_eq_true, decide_eq_true_eq] at ho
    refine ⟨r0, A0, B0, x, d, tri [] A1 B1, s4, s5, ?_, v, ho.2, p1, i1.elim (fun z => absurd rfl z) id, .fin _⟩
    rw [whileN, cond]
    rfl
  | succ n ih =>
    intro f x y d e r0 A0 B0 r1 A1 B1 s4 s5 s6 ho hf hw v u p1 p2 i1 i2 i3
    obtain ⟨f, rfl⟩ : ∃ k, f = k + 1 := ⟨f - 1, by omega⟩
    unfold okk at ho
    by_cases hw0 : y.w = 0
    · obtain rfl : r1 = [] := List.eq_nil_of_length_eq_zero (by rw [u.len]; omega)
      rw [if_pos hw0] at ho
      refine ⟨r0, A0, B0, x, d, tri [] A1 B1, s4, s5, ?_, v, ho, p1, i1.elim (fun z => absurd rfl z) id, .fin _⟩
      rw [whileN, cond]
      rfl
    · rw [if_neg hw0, Bool.and_eq_true] at ho
      obtain ⟨hc, ho⟩ := ho
      have n1 : r1 ≠ [] := by
        intro z
        have := u.len
        rw [z] at this
        exact hw0 this.symm
      obtain ⟨q, r2, A2, B2, d2, y4, y5, e1, e2, e3, e4, e5, e6, e7⟩ := @cof_body s a0 a1 s4 s5 s6 x y d e r0 A0 B0 r1 A1 B1 v u hc hw0
      have ho2 := List.all_eq_true.mp ho r2.length (List.mem_range.mpr (by omega))
      have ul := u.len
      have vl := v.len
      have q7 : q.length ≤ r0.length + 1 - r1.length := by rw [ul, vl]; exact e7
      have l2 : r2.length < r1.length := by omega
      have lA : A2.length + r1.length ≤ W + 1 := by
        rcases i2 with ⟨j1, j2⟩ | ⟨j1, j2⟩
        · subst j1
          have : A2.length ≤ A0.length := e2.tA.len fun i hi => by
            rw [e5, po_nil, sub_at, po_out hi]
            have : po q * (0 : PS) = 0 := by grind
            rw [this, zero_at]
            grind
          omega
        · have : A2.length ≤ max A0.length (q.length + A1.length - 1) := e2.tA.len fun i hi => by
            rw [e5, sub_at, po_out (by omega), Lt.mul _ _ _ _ i (Lt.po q) (Lt.po A1) (by omega)]
            grind
          rcases Nat.le_total A0.length (q.length + A1.length - 1) with h | h
          · rw [Nat.max_eq_right h] at this
            omega
          · rw [Nat.max_eq_left h] at this
            omega
      have j3 : A1.length + r1.length ≤ W := by
        rcases i2 with ⟨j1, j2⟩ | ⟨j1, j2⟩
        · rw [j1, List.length_nil]
          omega
        · omega
      have j4 : A1.length + r2.length ≤ W + 1 := by omega
      have hwn : (nxt x y r2.length).w ≤ n := by
        show r2.length ≤ n
        omega
      obtain ⟨g, A, B, x', d', z, z4, z5, g1, g2, g3, g4, g5, g6⟩ := ih f y (nxt x y r2.length) e d2 r1 A1 B1 r2 A2 B2 y4 y5 s6 ho2 (by omega) hwn u e2 p2 (by rw [e5, e6]; grind) (.inr j3) (.inr ⟨l2, lA⟩) j4
      refine ⟨g, A, B, x', d', z, z4, z5, ?_, g2, g3, g4, g5, .step r0 r1 q r2 g u.tr e2.tr e4 (by omega) g6⟩
      rw [whileN, cond, decide_eq_false n1]
      simp only [Bool.not_false, out_ok, if_true, e1]
      exact g1
theorem okk_all : ∀ a < 7, ∀ b < 8, okk 8 ⟨a, 36, 432, 36, 1⟩ ⟨b, 36, 432, 36, 1⟩ = true := by decide +kernel
end KP

/-! KPL: cofactors, whole: own work. -/
namespace Ev
open PySem Ps
theorem CD.div {d K : Nat} {n lc : Rat} {L : Nat} (hn : CD d K n) (hl0 : lc ≠ 0) (hL : ∃ l : Int, lc * (d : Rat) = (l : Rat) ∧ l.natAbs = L) (L0 : 0 < L) : CD L K (n / lc) := by
  obtain ⟨d0, a, a1, a2⟩ := hn
  obtain ⟨l, l1, l2⟩ := hL
  obtain ⟨g, g1, g2⟩ : ∃ g : Int, ((L : Nat) : Rat) = (g : Rat) * (l : Rat) ∧ g.natAbs = 1 := by
    rcases Int.natAbs_eq l with h | h
    · refine ⟨1, ?_, rfl⟩
      rw [← l2, ← Rat.intCast_natCast, ← h]
      grind
    · refine ⟨-1, ?_, rfl⟩
      rw [← l2, ← Rat.intCast_natCast, h, Int.natAbs_neg, Int.natAbs_natCast, Rat.intCast_neg, Rat.intCast_neg]
      rw [Rat.intCast_natCast]
      grind
  refine ⟨L0, a * g, ?_, ?_⟩
  · rw [g1, Rat.intCast_mul, ← a1, ← l1]
    have : n / lc * lc = n := Rat.div_mul_cancel hl0
    grind
  · rw [Int.natAbs_mul, g2, Nat.mul_one]
    exact a2
end Ev
namespace KP
open PySem Ev Ps
variable {s : DS}
theorem tri_flat (r A B : List Rat) : (RV.im (tri r A B)).flat = true := by
  have flat : ∀ g : List Rat, (RV.im (.tup (g.map qD))).flat = true := fun g => by
    show D.imm.immAll _ = true
    induction g with
    | nil => rfl
    | cons x g ih => simpa [D.imm.immAll, D.imm, qD] using ih
  have a := flat r
  have b := flat A
  have c := flat B
  unfold tri
  simp only [RV.flat, D.imm, D.imm.immAll] at *
  simp [a, b, c]
theorem Tr.one : Tr [1] := by simp [Tr]
theorem cof_ok {u l : List Rat} (hu : ∀ y ∈ u, CD 36 432 y) (hl : ∀ y ∈ l, CD 36 432 y) (tu : Tr u) (tl : Tr l) (lu : u.length ≤ 6) (ll : l.length ≤ 7) (nl : l ≠ []) : ∃ (g A B g0 : List Rat) (L K : Nat),
    F_with_cofactors [.tup (u.map qD), .tup (l.map qD)] s = .ok (.im (tri g A B)) s ∧ Tr A ∧ Tr B ∧ po A * po u + po B * po l = po g ∧ A.length + g.length ≤ l.length ∧ Eu u l g0 ∧ g.length = g0.length ∧ g.getLast? = some 1 ∧ Tr g ∧ 0 < L ∧ L * 1296 < BD ∧ K * 2 ^ 20 < BN ∧ (∀ y ∈ A, CD L K y) ∧ (∀ y ∈ B, CD L K y) ∧ A.length ≤ 200 ∧ B.length ≤ 200 := by
  have B36 : (36 : Nat) < BD := by decide +kernel
  have N432 : (432 : Nat) < BN := by decide +kernel
  have c1 : CD 36 36 1 := ⟨by decide, 36, by grind, by decide⟩
  have v : Inv ⟨u.length, 36, 432, 36, 1⟩ 36 u [1] [] := { len := rfl, d0 := by decide, dD := Nat.le_refl _, cr := hu, cA := by simpa using c1, cB := by simp, lA := Nat.le_refl _, lB := Nat.zero_le _, tr := tu, tA := Tr.one, tB := Tr.nil, Dl := B36, Rl := N432, Al := Nat.lt_trans (show 36 < 432 by decide) N432, cl := (by show 1 ≤ 200; decide), wl := (by show u.length ≤ 200; omega) }
  have w : Inv ⟨l.length, 36, 432, 36, 1⟩ 36 l [] [1] := { len := rfl, d0 := by decide, dD := Nat.le_refl _, cr := hl, cA := by simp, cB := by simpa using c1, lA := Nat.zero_le _, lB := Nat.le_refl _, tr := tl, tA := Tr.nil, tB := Tr.one, Dl := B36, Rl := N432, Al := Nat.lt_trans (show 36 < 432 by decide) N432, cl := (by show 1 ≤ 200; decide), wl := (by show l.length ≤ 200; omega) }
  have po1 : po [1] = 1 := by
    rw [po_cons, po_nil, ← one_eq]
    grind
  obtain ⟨g0, A0, B0, x, d, z, y4, y5, e1, e2, e3, e4, e5, e6⟩ := @cof_loop s l.length (po u) (po l) (.im (.tup (u.map qD))) (.im (.tup (l.map qD))) 8 20000 _ _ 36 36 u [1] [] l [] [1] .un .un .un (okk_all _ (by omega) _ (by omega)) (by omega) (by show l.length ≤ 8; omega) v w (by rw [po1, po_nil]; grind) (by rw [po1, po_nil]; grind) (.inl nl) (.inl ⟨rfl, Nat.le_refl _⟩) (by rw [List.length_singleton]; omega)
  simp only [endk, Bool.and_eq_true, decide_eq_true_eq] at e3
  obtain ⟨⟨⟨k1, k2⟩, k3⟩, k4⟩ := e3
  have n0 := e6.ne (.inr nl)
  obtain ⟨L, lc, dv, L0, R0⟩ := Inv.dv e2 n0 k1
  have xd := Nat.lt_of_le_of_lt e2.dD k4
  have LB : L < BD := Nat.lt_of_le_of_lt dv.LM k1
  have lmem : lc ∈ g0 := List.mem_of_getLast? dv.last
  have s1 : Sq (1 : Rat) := by constructor <;> decide +kernel
  have ov := @over_q s 1 lc s1 (dv.sz lc lmem) dv.ln dv.ne
  have one1 : CD 1 1 1 := ⟨by decide, 1, by grind, by decide⟩
  have sc : Sq (1 / lc) := (CD.quo one1 dv.ne dv.up dv.e0 (dv.cd lc lmem)).1.sq (by rw [Nat.one_mul]; exact BD_BN xd) (by rw [Nat.one_mul]; exact LB)
  have lA := e2.lA
  have lB := e2.lB
  have cl := e2.cl
  have wl := e2.wl
  have gl := e2.len
  obtain ⟨g, g1, g2, g3⟩ := @scaled_ok s (1 / lc) g0 sc dv.sz (by omega)
  obtain ⟨A, a1, a2, a3⟩ := @scaled_ok s (1 / lc) A0 sc (fun y hy => (e2.cA y hy).sq e2.Al xd) (by omega)
  obtain ⟨B, b1, b2, b3⟩ := @scaled_ok s (1 / lc) B0 sc (fun y hy => (e2.cB y hy).sq e2.Al xd) (by omega)
  have hc1 : 1 / lc * lc = 1 := Rat.div_mul_cancel dv.ne
  have len : ∀ {p q : List Rat}, Tr p → po p = con (1 / lc) * po q → p.length ≤ q.length := fun {p q} t h => t.len fun i hi => by rw [h, mul_at, mulA_con, po_out hi, Rat.mul_zero]
  have g4 : po g0 = con lc * po g := by
    rw [g3, show con lc * (con (1 / lc) * po g0) = con lc * con (1 / lc) * po g0 by grind, ← con_mul, show lc * (1 / lc) = 1 by grind, ← one_eq]
    grind
  have gg : g.length = g0.length := by
    have h1 := len g2 g3
    have h2 : g0.length ≤ g.length := e2.tr.len fun i hi => by rw [g4, mul_at, mulA_con, po_out hi, Rat.mul_zero]
    omega
  have ne : g ≠ [] := by
    intro z
    rw [z] at gg
    exact n0 (List.eq_nil_of_length_eq_zero gg.symm)
  have last : g.getLast? = some 1 := by
    have h := List.getLast?_eq_some_getLast ne
    have h1 := getLast_po h
    have h2 := getLast_po dv.last
    rw [g3, mul_at, mulA_con, gg, h2, hc1] at h1
    rw [h, ← h1]
  have cd : ∀ {p q : List Rat}, po p = con (1 / lc) * po q → (∀ y ∈ q, CD d x.A y) → ∀ y ∈ p, CD L x.A y := fun {p q} h hq => by
    refine all_at fun i => ?_
    rw [h, mul_at, mulA_con, show 1 / lc * (po q).at_ i = (po q).at_ i / lc by grind]
    exact (at_all hq (CD.zero e2.d0) i).div dv.ne dv.up L0
  have la := len a2 a3
  have lb := len b2 b3
  refine ⟨g, A, B, g0, L, x.A, ?_, a2, b2, ?_, by omega, e6, gg, last, g2, L0, Nat.lt_of_le_of_lt (Nat.mul_le_mul_right _ dv.LM) k2, k3, cd a3 e2.cA, cd b3 e2.cB, by omega, by omega⟩
  · have ix : oIdx (.tup (g0.map qD)) (.int (-1)) = some (qD lc) := (oIdx_last (by rw [List.getLast?_map, dv.last]; rfl)).2
    have u1 : p_with_cofactors_1 [.im (.tup (u.map qD)), .im (.tup (l.map qD)), .un, .un, .un, .un, .un, .un, .un] s = .nx [.im (.tup (u.map qD)), .im (.tup (l.map qD)), .im (tri u [1] []), .im (tri l [] [1]), .un, .un, .un, .un, .un] s := by
      have f1 := tri_flat u [1] []
      have f2 := tri_flat l [] [1]
      unfold tri at *
      have k3 : (3 : Nat) ≤ sizeLine := big (by omega)
      have k1 : (1 : Nat) ≤ sizeLine := big (by omega)
      have k0 : (0 : Nat) ≤ sizeLine := big (by omega)
      unfold p_with_cofactors_1
      simp [k3, k1, k0, one_qD] at *
    have u2 : p_with_cofactors_2 [.im (.tup (u.map qD)), .im (.tup (l.map qD)), .im (tri u [1] []), .im (tri l [] [1]), .un, .un, .un, .un, .un] s = .nx [.im (.tup (u.map qD)), .im (.tup (l.map qD)), .im (tri g0 A0 B0), .im z, y4, y5, .un, .un, .un] s := by
      unfold p_with_cofactors_2
      rw [sWhile_def]
      exact e1
    have ov' : F_over [c_ONE, qD lc] s = .ok (.im (qD (1 / lc))) s := ov
    have u3 : p_with_cofactors_3 [.im (.tup (u.map qD)), .im (.tup (l.map qD)), .im (tri g0 A0 B0), .im z, y4, y5, .un, .un, .un] s = .nx [.im (.tup (u.map qD)), .im (.tup (l.map qD)), .im (tri g0 A0 B0), .im z, y4, y5, .im (qD (1 / lc)), .un, .un] s := by
      unfold p_with_cofactors_3 tri
      simp only [sSet_def, eCall_def, aCons_def, aNil_def, eC_def, eIdx_def, pE_def, pV_def, e1_def, List.getElem?_cons_zero, List.getElem?_cons_succ, bind_ok, d_im, idx3, lift_some, Option.map_some, oNeg_i, Int.reduceNeg, ix, ov', out_ok, slot_im, List.set_cons_zero, List.set_cons_succ]
    have u4 : p_with_cofactors_4 [.im (.tup (u.map qD)), .im (.tup (l.map qD)), .im (tri g0 A0 B0), .im z, y4, y5, .im (qD (1 / lc)), .un, .un] s = .rt (.im (tri g A B)) s := by
      have k : (3 : Nat) ≤ sizeLine := big (by omega)
      unfold p_with_cofactors_4 tri
      generalize g0.map qD = G0 at *
      generalize A0.map qD = P0 at *
      generalize B0.map qD = Q0 at *
      generalize g.map qD = G at *
      generalize A.map qD = P at *
      generalize B.map qD = Q at *
      simp [wipeOk, wipeE, Tgt.inn, Tgt.inns, lcL, Tgt.put, Tgt.puts, g1, a1, b1, k]
    unfold F_with_cofactors
    rw [fnOf_def, if_pos (by rfl), b_with_cofactors_p]
    simp [p_with_cofactors, u1, u2, u3, u4]
  · rw [a3, b3, g3, ← e4]
    grind
end KP

/-! KPM: the laws' common part: own work. -/
namespace KP
open PySem Ev Ps
variable {s : DS}
theorem idx21 (a b : D) : oIdx (.tup [a, b]) (.int 1) = some b := rfl
theorem qs_flat (g : List Rat) : (RV.im (.tup (g.map qD))).flat = true := by
  show D.imm.immAll _ = true
  induction g with
  | nil => rfl
  | cons x g ih => simpa [D.imm.immAll, D.imm, qD] using ih
theorem com_body (a0 a1 a2 : Slot) {x y : Bd} {d e : Nat} {r0 r1 : List Rat} (v : Inv x d r0 [] []) (u : Inv y e r1 [] []) (hc : chk x y = true) (hw : y.w ≠ 0) : ∃ (q r2 : List Rat) (d2 : Nat),
    p_L_poly_common_1b_1 [.im (.tup (r0.map qD)), .im (.tup (r1.map qD)), a2] s = .nx [.im (.tup (r1.map qD)), .im (.tup (r2.map qD)), a2] s ∧
    Inv (nxt x y r2.length) d2 r2 [] [] ∧ r2.length + 1 ≤ y.w ∧ po r0 = po q * po r1 + po r2 := by
  simp only [chk, Bool.and_eq_true, decide_eq_true_eq] at hc
  obtain ⟨⟨⟨⟨⟨⟨⟨k1, k2⟩, k3⟩, k4⟩, k5⟩, k6⟩, k7⟩, k8⟩ := hc
  have n1 : r1 ≠ [] := by
    intro z
    have := u.len
    rw [z] at this
    exact hw this.symm
  obtain ⟨L, lc, dv, L0, R0⟩ := Inv.dv u n1 k5
  have hJ : bJ x y = r0.length + 1 - r1.length := by rw [v.len, u.len]; rfl
  have LJ0 : 0 < L ^ bJ x y := Nat.pow_pos L0
  have LR : L ^ bJ x y ≤ y.R ^ bJ x y := Nat.pow_le_pow_left dv.LM _
  have dL : d * L ^ bJ x y ≤ x.D * y.R ^ bJ x y := Nat.mul_le_mul v.dD LR
  have b3 : d * L ^ bJ x y < BD := Nat.lt_of_le_of_lt dL k6
  have vw := v.wl
  have uw := u.wl
  have vl := v.len
  have ul := u.len
  have eK : bK x y = x.R * (y.R * (r1.length + 1)) ^ bJ x y := by rw [ul]; rfl
  obtain ⟨q, t, f1, f2, f3, f4, f5, f8⟩ := @L_poly_parted_ok s r0 r1 e y.R L d x.R lc dv v.cr (by omega) (by omega) _ hJ (by rw [← eK]; exact k1) (by rw [← eK]; exact Nat.lt_of_le_of_lt (Nat.mul_le_mul_left _ u.dD) k2) b3 R0
  rw [← eK] at f8
  have D0 : 0 < d * L ^ bJ x y := Nat.mul_pos v.d0 LJ0
  refine ⟨q, t, d * L ^ bJ x y, ?_, ?_, by omega, f4⟩
  · have k : (2 : Nat) ≤ sizeLine := big (by omega)
    unfold p_L_poly_common_1b_1
    simp only [sPut_def, eTup_def, aCons_def, aNil_def, eV_def, List.getElem?_cons_zero, List.getElem?_cons_succ, bind_ok, d_im, eIdx_def, pE_def, eCall_def, f1, eC_def, idx21, lift_some, Option.map_some, List.length_cons, List.length_nil, Nat.reduceAdd, Nat.zero_add, k, if_true, out_ok]
    rfl
  · exact { len := rfl, d0 := D0, dD := dL, cr := f8, cA := by simp, cB := by simp, lA := Nat.zero_le _, lB := Nat.zero_le _, tr := f3, tA := Tr.nil, tB := Tr.nil, Dl := k6, Rl := k1, Al := k7, cl := k8, wl := (by show t.length ≤ 200; omega) }
theorem com_loop (a2 : Slot) : ∀ (n f : Nat) (x y : Bd) (d e : Nat) (r0 r1 : List Rat), okk n x y = true → n < f → y.w ≤ n → Inv x d r0 [] [] → Inv y e r1 [] [] →
    ∃ (g : List Rat) (x' : Bd) (d' : Nat), whileN (tCmp oNe (pV 1) (pE (eTup aNil))) p_L_poly_common_1b_1 f [.im (.tup (r0.map qD)), .im (.tup (r1.map qD)), a2] s = .nx [.im (.tup (g.map qD)), .im (.tup []), a2] s ∧
      Inv x' d' g [] [] ∧ endk x' = true ∧ Eu r0 r1 g := by
  have cond : ∀ (s0 : Slot) (r1 : List Rat), tCmp oNe (pV 1) (pE (eTup aNil)) [s0, .im (.tup (r1.map qD)), a2] s = .ok (!decide (r1 = [])) s := fun s0 r1 => by
    have z := oNe_tnil r1
    have k : (0 : Nat) ≤ sizeLine := Nat.zero_le _
    simp only [tCmp_def, pE_def, pV_def, List.getElem?_cons_zero, List.getElem?_cons_succ, bind_ok, d_im, eTup_def, aNil_def, lift_some, List.length_nil, k, if_true, z]
  intro n
  induction n with
  | zero =>
    intro f x y d e r0 r1 ho hf hw v u
    obtain ⟨f, rfl⟩ : ∃ k, f = k + 1 := ⟨f - 1, by omega⟩
    obtain rfl : r1 = [] := List.eq_nil_of_length_eq_zero (by rw [u.len]; omega)
    simp only [okk, Bool.and_eq_true, decide_eq_true_eq] at ho
    refine ⟨r0, x, d, ?_, v, ho.2, .fin _⟩
    rw [whileN, cond]
    rfl
  | succ n ih =>
    intro f x y d e r0 r1 ho hf hw v u
    obtain ⟨f, rfl⟩ : ∃ k, f = k + 1 := ⟨f - 1, by omega⟩
    unfold okk at ho
    by_cases hw0 : y.w = 0
    · obtain rfl : r1 = [] := List.eq_nil_of_length_eq_zero (by rw [u.len]; omega)
      rw [if_pos hw0] at ho
      refine ⟨r0, x, d, ?_, v, ho, .fin _⟩
      rw [whileN, cond]
      rfl
    · rw [if_neg hw0, Bool.and_eq_true] at ho
      obtain ⟨hc, ho⟩ := ho
      have n1 : r1 ≠ [] := by
        intro z
        have := u.len
        rw [z] at this
        exact hw0 this.symm
      obtain ⟨q, r2, d2, e1, e2, e3, e4⟩ := @com_body s .un .un a2 x y d e r0 r1 v u hc hw0
      have ho2 := List.all_eq_true.mp ho r2.length (List.mem_range.mpr (by omega))
      have ul := u.len
      have hwn : (nxt x y r2.length).w ≤ n := by
        show r2.length ≤ n
        omega
      obtain ⟨g, x', d', g1, g2, g3, g6⟩ := ih f y (nxt x y r2.length) e d2 r1 r2 ho2 (by omega) hwn u e2
      refine ⟨g, x', d', ?_, g2, g3, .step r0 r1 q r2 g u.tr e2.tr e4 (by omega) g6⟩
      rw [whileN, cond, decide_eq_false n1]
      simp only [Bool.not_false, out_ok, if_true, e1]
      exact g1
theorem lc_over (lc : Rat) (h : lc ≠ 0) (hs : Sq lc) (hn : lc.num.natAbs < BD) (g : List Rat) (hg : g.getLast? = some lc) (a1 : Slot) : ∀ p : List Rat, (∀ x ∈ p, Sq x) →
    lcL (.nm 2) tYes (eCall F_L_over (aCons (eV 2) (aCons (eIdx (pV 0) (pE (e1 oNeg (pE (eC (.int 1)))))) aNil))) [.im (.tup (g.map qD)), a1, .un] (p.map qD) s = .ok ((p.map (· / lc)).map qD) s
  | [], _ => rfl
  | x :: p, hp => by
    have t := @L_over_q s x lc (hp x List.mem_cons_self) hs hn h
    have i := lc_over lc h hs hn g hg a1 p fun y hy => hp y (List.mem_cons_of_mem _ hy)
    have ix : oIdx (.tup (g.map qD)) (.int (-1)) = some (qD lc) := (oIdx_last (by rw [List.getLast?_map, hg]; rfl)).2
    rw [List.map_cons, lcL]
    simp only [Tgt.put, List.set_cons_zero, List.set_cons_succ, tYes_def, eCall_def, aCons_def, aNil_def, eV_def, eIdx_def, pV_def, pE_def, e1_def, eC_def, oNeg_i, Int.reduceNeg, lift_some, Option.map_some, ix, List.getElem?_cons_zero, List.getElem?_cons_succ, bind_ok, d_im, t, i, List.map_cons]
theorem com_ok {u l : List Rat} (hu : ∀ y ∈ u, CD 36 432 y) (hl : ∀ y ∈ l, CD 36 432 y) (tu : Tr u) (tl : Tr l) (lu : u.length ≤ 6) (ll : l.length ≤ 7) (nl : l ≠ []) : ∃ (g g0 : List Rat),
    F_L_poly_common [.tup (u.map qD), .tup (l.map qD)] s = .ok (.im (.tup (g.map qD))) s ∧ Eu u l g0 ∧ g.length = g0.length := by
  have B36 : (36 : Nat) < BD := by decide +kernel
  have N432 : (432 : Nat) < BN := by decide +kernel
  have v : Inv ⟨u.length, 36, 432, 36, 1⟩ 36 u [] [] := { len := rfl, d0 := by decide, dD := Nat.le_refl _, cr := hu, cA := by simp, cB := by simp, lA := Nat.zero_le _, lB := Nat.zero_le _, tr := tu, tA := Tr.nil, tB := Tr.nil, Dl := B36, Rl := N432, Al := Nat.lt_trans (show 36 < 432 by decide) N432, cl := (by show 1 ≤ 200; decide), wl := (by show u.length ≤ 200; omega) }
  have w : Inv ⟨l.length, 36, 432, 36, 1⟩ 36 l [] [] := { len := rfl, d0 := by decide, dD := Nat.le_refl _, cr := hl, cA := by simp, cB := by simp, lA := Nat.zero_le _, lB := Nat.zero_le _, tr := tl, tA := Tr.nil, tB := Tr.nil, Dl := B36, Rl := N432, Al := Nat.lt_trans (show 36 < 432 by decide) N432, cl := (by show 1 ≤ 200; decide), wl := (by show l.length ≤ 200; omega) }
  obtain ⟨g0, x, d, e1, e2, e3, e6⟩ := @com_loop s .un 8 20000 _ _ 36 36 u l (okk_all _ (by omega) _ (by omega)) (by omega) (by show l.length ≤ 8; omega) v w
  simp only [endk, Bool.and_eq_true, decide_eq_true_eq] at e3
  obtain ⟨⟨⟨k1, k2⟩, k3⟩, k4⟩ := e3
  have n0 := e6.ne (.inr nl)
  obtain ⟨L, lc, dv, L0, R0⟩ := Inv.dv e2 n0 k1
  have lmem : lc ∈ g0 := List.mem_of_getLast? dv.last
  have lc' := @lc_over s lc dv.ne (dv.sz lc lmem) dv.ln g0 dv.last (.im (.tup [])) g0 dv.sz
  have wl := e2.wl
  have gl := e2.len
  have k : g0.length ≤ sizeLine := big (by omega)
  refine ⟨g0.map (· / lc), g0, ?_, e6, List.length_map _⟩
  have u1 : p_L_poly_common_1 [.im (.tup (u.map qD)), .im (.tup (l.map qD)), .un] s = .nx [.im (.tup (g0.map qD)), .im (.tup []), .un] s := by
    unfold p_L_poly_common_1
    rw [sWhile_def]
    exact e1
  have u2 : p_L_poly_common_2 [.im (.tup (g0.map qD)), .im (.tup []), .un] s = .rt (.im (.tup ((g0.map (· / lc)).map qD))) s := by
    have kk : (g0.map qD).length ≤ sizeLine := by rw [List.length_map]; exact k
    generalize (g0.map (· / lc)).map qD = Z at *
    generalize g0.map qD = Y at *
    unfold p_L_poly_common_2
    simp [wipeOk, wipeE, Tgt.inn, Tgt.inns, kk, lc']
  unfold F_L_poly_common
  rw [fnOf_def, if_pos (by rfl), b_L_poly_common_p]
  simp [p_L_poly_common, u1, u2]
end KP

namespace K60
open PySem Ev
def p_L_near_1t_1 (r_self : Fn) : Stm := (sSet 2 (eCall F_L_draw (aCons (eV 0) (aCons (e1 oLenR (pV 1)) aNil))))
def p_L_near_1t_2 (r_self : Fn) : Stm := (sRet (e2 oAdd (pE (e2 oAdd (pE (eSl (pV 1) none (some (pV 2)))) (pE (eTup (aCons (eCall r_self (aCons (eV 0) (aCons (eIdx (pV 1) (pV 2)) aNil))) aNil))))) (pE (eSl (pV 1) (some (pE (e2 oAdd (pV 2) (pE (eC (.int 1)))))) none))))
def p_L_near_1 (r_self : Fn) : Stm := (sIf (tAnd (tIsa [.tuple] (pV 1)) (tAnd (tCmp oNe (pV 1) (pE (eTup aNil))) (tCmp oGt (pE (eCall F_L_draw (aCons (eV 0) (aCons (eC (.int 5)) aNil)))) (pE (eC (.int 0)))))) (sSeq (p_L_near_1t_1 r_self) (p_L_near_1t_2 r_self)) sNil)
def p_L_near_2 (r_self : Fn) : Stm := (sIf (tIsa [.int] (pV 1)) (sRet (eCall F_L_pick (aCons (eV 0) (aCons (eLst (aCons (e2 oAdd (pV 1) (pE (eC (.int 1)))) (aCons (e2 oSub (pV 1) (pE (eC (.int 1)))) (aCons (e2 oSub (pE (eC (.int 0))) (pV 1)) (aCons (eC (.bl true)) (aCons (eC .non) (aCons (eTup (aCons (eV 1) aNil)) (aCons (e1 oStr (pV 1)) aNil)))))))) aNil)))) sNil)
def p_L_near_3 (r_self : Fn) : Stm := (sSet 3 (eIf (tIsa [.tuple] (pV 1)) (e1 oList (pV 1)) (eLst (aCons (eV 1) aNil))))
def p_L_near_5 (r_self : Fn) : Stm := (sRet (eCall F_L_pick (aCons (eV 0) (aCons (eLst (aCons (eC .non) (aCons (eV 3) (aCons (e1 oTuple (pE (e2 oAdd (pV 3) (pE (eSl (pV 3) (some (pE (e1 oNeg (pE (eC (.int 1)))))) none))))) (aCons (e1 oTuple (pE (eSl (pV 3) none (some (pE (e1 oNeg (pE (eC (.int 1))))))))) (aCons (e1 oTuple (pE (e1 oRev (pV 3)))) (aCons (e1 oTuple (pV 3)) (aCons (eC (.int 0)) (aCons (eTup (aCons (eC (.int 0)) (aCons (eC (.int 1)) aNil))) aNil))))))))) aNil))))
def p_L_near (r_self : Fn) : Stm := (sSeq (p_L_near_1 r_self) (sSeq (p_L_near_2 r_self) (sSeq (p_L_near_3 r_self) (sSeq (sFrz 3) (p_L_near_5 r_self)))))
theorem b_L_near_p (r : Fn) : b_L_near r = p_L_near r := rfl
def p_law_1 : Stm := (sSet 2 (eTup (aCons (eC (.str "fraction")) (aCons (eTup (aCons (eTup (aCons (eC (.int 1)) (aCons (eC (.int 1)) aNil))) aNil)) (aCons (eTup (aCons (eTup (aCons (eC (.int 1)) (aCons (eC (.int 1)) aNil))) (aCons (eTup (aCons (e1 oNeg (pE (eC (.int 1)))) (aCons (eC (.int 2)) aNil))) aNil))) aNil)))))
def p_law_2 : Stm := (sIf (tOr (tNot (tVal (pE (eCall F_L_is (aCons (eLst (aCons (eCall F_cofactors (aCons (eV 2) aNil)) (aCons (eCall F_cofactors (aCons (eTup (aCons (eC (.str "fraction")) (aCons (eTup aNil) (aCons (eTup (aCons (eTup (aCons (eC (.int 1)) (aCons (eC (.int 1)) aNil))) aNil)) aNil)))) aNil)) aNil))) (aCons (eLst (aCons (eTup (aCons (eTup (aCons (eTup (aCons (eC (.int 1)) (aCons (eC (.int 1)) aNil))) aNil)) (aCons (eTup aNil) aNil))) (aCons (eTup (aCons (eTup aNil) (aCons (eTup (aCons (eTup (aCons (eC (.int 1)) (aCons (eC (.int 1)) aNil))) aNil)) aNil))) aNil))) aNil)))))) (tNot (tIsN (pE (eCall F_cofactors (aCons (eTup (aCons (eC (.str "fraction")) (aCons (eTup aNil) (aCons (eTup (aCons (eTup (aCons (eC (.int 1)) (aCons (eC (.int 1)) aNil))) (aCons (eTup (aCons (eC (.int 1)) (aCons (eC (.int 1)) aNil))) aNil))) aNil)))) aNil)))))) (sRet (eC (.bl false))) sNil)
def p_law_3b_1 : Stm := (sSet 4 (eCall F_L_trim (aCons (eLc (iRange1 (pE (eCall F_L_draw (aCons (eV 1) (aCons (eC (.int 5)) aNil))))) (.nm 10) tYes (eCall F_L_some_number (aCons (eV 1) (aCons (eC (.int 2)) aNil))) [10]) aNil)))
def p_law_3b_2 : Stm := (sSet 5 (e2 oAdd (pE (eTup (aCons (eTup (aCons (eC (.int 1)) (aCons (eC (.int 1)) aNil))) aNil))) (pE (eCall F_L_trim (aCons (eLc (iRange1 (pE (eCall F_L_draw (aCons (eV 1) (aCons (eC (.int 5)) aNil))))) (.nm 10) tYes (eCall F_L_some_number (aCons (eV 1) (aCons (eC (.int 2)) aNil))) [10]) aNil)))))
def p_law_3b_3t_1 : Stm := (sSet 6 (e2 oAdd (pE (eTup (aCons (eTup (aCons (eC (.int 1)) (aCons (eC (.int 1)) aNil))) aNil))) (pE (eCall F_L_trim (aCons (eLc (iRange1 (pE (eCall F_L_draw (aCons (eV 1) (aCons (eC (.int 3)) aNil))))) (.nm 10) tYes (eCall F_L_some_number (aCons (eV 1) (aCons (eC (.int 2)) aNil))) [10]) aNil)))))
def p_law_3b_3t_2 : Stm := (sPar 4 5 (eCall F_L_poly_times (aCons (eV 4) (aCons (eV 6) aNil))) (eCall F_L_poly_times (aCons (eV 5) (aCons (eV 6) aNil))))
def p_law_3b_3 : Stm := (sIf (tCmp oEq (pE (eCall F_L_draw (aCons (eV 1) (aCons (eC (.int 3)) aNil)))) (pE (eC (.int 0)))) (sSeq p_law_3b_3t_1 p_law_3b_3t_2) sNil)
def p_law_3b_4 : Stm := (sSet 7 (eTup (aCons (eC (.str "fraction")) (aCons (eV 4) (aCons (eV 5) aNil)))))
def p_law_3b_6 : Stm := (sIf (tCmp oNe (pE (eT (tIsN (pV 8)))) (pE (eT (tCmp oGt (pE (e1 oLenR (pE (eCall F_L_poly_common (aCons (eV 4) (aCons (eV 5) aNil)))))) (pE (eC (.int 1))))))) (sRet (eC (.bl false))) sNil)
def p_law_3b_7t_1 : Stm := (sIf (tOr (tNot (tVal (pE (eCall (F_L_plain 100) (aCons (eV 8) aNil))))) (tOr (tCmp oNe (pE (e1 oLenR (pV 8))) (pE (eC (.int 2)))) (tOr (tNot (tVal (pE (eCall F_L_is_poly (aCons (eIdx (pV 8) (pE (eC (.int 0)))) aNil))))) (tOr (tNot (tVal (pE (eCall F_L_is_poly (aCons (eIdx (pV 8) (pE (eC (.int 1)))) aNil))))) (tCmp oGe (pE (e1 oLenR (pE (eIdx (pV 8) (pE (eC (.int 0))))))) (pE (e1 oLenR (pV 5)))))))) (sRet (eC (.bl false))) sNil)
def p_law_3b_7t_2 : Stm := (sIf (tCmp oNe (pE (eCall F_L_poly_plus (aCons (eCall F_L_poly_times (aCons (eIdx (pV 8) (pE (eC (.int 0)))) (aCons (eV 4) aNil))) (aCons (eCall F_L_poly_times (aCons (eIdx (pV 8) (pE (eC (.int 1)))) (aCons (eV 5) aNil))) (aCons (eTup (aCons (eC (.int 1)) (aCons (eC (.int 1)) aNil))) aNil))))) (pE (eTup (aCons (eTup (aCons (eC (.int 1)) (aCons (eC (.int 1)) aNil))) aNil)))) (sRet (eC (.bl false))) sNil)
def p_law_3b_7 : Stm := (sIf (tNot (tIsN (pV 8))) (sSeq p_law_3b_7t_1 p_law_3b_7t_2) sNil)
def p_law_3b_8b_1 : Stm := (sIf (tNot (tVal (pE (eCall F_L_is (aCons (eCall F_is_fraction (aCons (eV 9) aNil)) (aCons (eCall F_L_is_fraction (aCons (eV 9) aNil)) aNil)))))) (sRet (eC (.bl false))) sNil)
def p_law_3b_8 : Stm := (sFor (iP (e2 oAdd (pE (eLst (aCons (eV 7) (aCons (eSl (pV 7) none (some (pE (eC (.int 2))))) (aCons (e1 oList (pV 7)) (aCons (e2 oAdd (pV 7) (pE (eTup (aCons (eTup aNil) aNil)))) (aCons (eTup (aCons (eC (.str "fraction")) (aCons (eV 5) (aCons (eV 4) aNil)))) (aCons (eTup (aCons (eC (.str "fraction")) (aCons (e2 oAdd (pV 4) (pE (eTup (aCons (eTup (aCons (eC (.int 0)) (aCons (eC (.int 1)) aNil))) aNil)))) (aCons (eV 5) aNil)))) aNil)))))))) (pE (eLc (iRange1 (pE (eC (.int 8)))) (.nm 11) tYes (eCall (F_L_near 100) (aCons (eV 1) (aCons (eV 7) aNil))) [11])))) (.nm 9) p_law_3b_8b_1)
def p_law_3 : Stm := (sFor (iRange1 (pE (e2 oAdd (pE (eC (.int 8))) (pE (e2 oMin (pE (e1 oLenR (pV 0))) (pE (eC (.int 8)))))))) (.nm 3) (sSeq p_law_3b_1 (sSeq p_law_3b_2 (sSeq p_law_3b_3 (sSeq p_law_3b_4 (sSeq (sSet 8 (eCall F_cofactors (aCons (eV 7) aNil))) (sSeq p_law_3b_6 (sSeq p_law_3b_7 p_law_3b_8))))))))
def p_law : Stm := (sSeq p_law_1 (sSeq p_law_2 (sSeq p_law_3 (sRet (eC (.bl true))))))
theorem b_law_p : b_law = p_law := rfl
def p_cofactors_2 : Stm := (sPut (.tp [(.nm 1), (.nm 2), (.nm 3)]) (eCall F_with_cofactors (aCons (eIdx (pV 0) (pE (eC (.int 1)))) (aCons (eIdx (pV 0) (pE (eC (.int 2)))) aNil))))
def p_cofactors_3 : Stm := (sIf (tCmp oNe (pV 1) (pE (eTup (aCons (eC c_ONE) aNil)))) (sRet (eC .non)) sNil)
def p_cofactors : Stm := (sSeq (sDrop (eCall F_need_fraction (aCons (eV 0) aNil))) (sSeq p_cofactors_2 (sSeq p_cofactors_3 (sRet (eTup (aCons (eV 2) (aCons (eV 3) aNil)))))))
theorem b_cofactors_p : b_cofactors = p_cofactors := rfl
def p_L_poly_plus_1 : Stm := (sSet 3 (e2 oMax (pE (e1 oLenR (pV 0))) (pE (e1 oLenR (pV 1)))))
def p_L_poly_plus_2 : Stm := (sPar 4 5 (e2 oAdd (pE (e1 oList (pV 0))) (pE (e2 oMul (pE (eLst (aCons (eTup (aCons (eC (.int 0)) (aCons (eC (.int 1)) aNil))) aNil))) (pE (e2 oSub (pV 3) (pE (e1 oLenR (pV 0)))))))) (e2 oAdd (pE (e1 oList (pV 1))) (pE (e2 oMul (pE (eLst (aCons (eTup (aCons (eC (.int 0)) (aCons (eC (.int 1)) aNil))) aNil))) (pE (e2 oSub (pV 3) (pE (e1 oLenR (pV 1)))))))))
def p_L_poly_plus_5 : Stm := (sRet (eCall F_L_trim (aCons (eLc (iZip (eV 4) (eV 5)) (.tp [(.nm 6), (.nm 7)]) tYes (eCall F_L_plus (aCons (eV 6) (aCons (eCall F_L_times (aCons (eV 2) (aCons (eV 7) aNil))) aNil))) [6, 7]) aNil)))
def p_L_poly_plus : Stm := (sSeq p_L_poly_plus_1 (sSeq p_L_poly_plus_2 (sSeq (sFrz 4) (sSeq (sFrz 5) p_L_poly_plus_5))))
theorem b_L_poly_plus_p : b_L_poly_plus = p_L_poly_plus := rfl
end K60

/-! K60P: polynomials and fractions judged: own work. -/
namespace Ev
open PySem Ps
theorem isNum_q {d : D} (h : isNum d = true) : ∃ q : Rat, d = qD q := by
  unfold isNum at h
  split at h
  · rename_i a b
    simp only [Bool.and_eq_true, decide_eq_true_eq] at h
    refine ⟨⟨a, b.toNat, by omega, ?_⟩, ?_⟩
    · have : b.natAbs = b.toNat := by omega
      rw [← this]
      exact h.2
    · show _ = D.tup [.int a, .int ((b.toNat : Nat) : Int)]
      rw [Int.toNat_of_nonneg (by omega)]
  · cases h
theorem nums_qs : ∀ {xs : List D}, xs.all isNum = true → ∃ p : List Rat, xs = p.map qD
  | [], _ => ⟨[], rfl⟩
  | x :: xs, h => by
    simp only [List.all_cons, Bool.and_eq_true] at h
    obtain ⟨q, rfl⟩ := isNum_q h.1
    obtain ⟨p, rfl⟩ := nums_qs h.2
    exact ⟨q :: p, rfl⟩
theorem qD_num (q : Rat) : isNum (qD q) = true := by
  have h : Nat.gcd q.num.natAbs q.den = 1 := q.reduced
  have h1 := q.den_pos
  simp only [isNum, qD, Int.natAbs_natCast, h, Bool.and_eq_true, decide_eq_true_eq]
  exact ⟨by omega, trivial⟩
theorem qs_num : ∀ p : List Rat, (p.map qD).all isNum = true
  | [] => rfl
  | q :: p => by rw [List.map_cons, List.all_cons, qD_num, qs_num p]; rfl
/-- the last one is a number other than 0 -/
def lastNz (xs : List D) : Bool := match xs.getLast? with
  | some (.tup [.int a, _]) => !decide (a = 0)
  | _ => true
def isPol : D → Bool
  | .tup xs => xs.all isNum && lastNz xs
  | _ => false
theorem lastNz_q (p : List Rat) : lastNz (p.map qD) = !decide (p.getLast? = some 0) := by
  unfold lastNz
  rw [List.getLast?_map]
  cases h : p.getLast? with
  | none => rfl
  | some c =>
    show (!decide (c.num = 0)) = _
    congr 1
    exact decide_eq_decide.mpr ⟨fun z => by rw [Rat.num_eq_zero.mp z], fun z => by simp at z; rw [z]; rfl⟩
theorem isPol_q (p : List Rat) : isPol (.tup (p.map qD)) = true ↔ Tr p := by
  simp only [isPol, qs_num, lastNz_q, Tr, Bool.true_and, Bool.not_eq_true', decide_eq_false_iff_not, ne_eq]
theorem isPol_ex {d : D} (h : isPol d = true) : ∃ p : List Rat, d = .tup (p.map qD) ∧ Tr p := by
  cases d <;> first | (simp [isPol] at h; done) | skip
  rename_i xs
  have h' := h
  simp only [isPol, Bool.and_eq_true] at h'
  obtain ⟨p, rfl⟩ := nums_qs h'.1
  exact ⟨p, rfl, (isPol_q p).mp h⟩
end Ev
namespace K60
open PySem Ev Ps
variable {s : DS}
theorem q_L_common : K60.F_L_common = Kit.F_L_common := rfl
theorem q_is_number : K60.F_is_number = Kit.F_is_number := rfl
theorem is_polynomial_ok {d : D} (h : d.kn = true) : F_is_polynomial [d] s = .ok (.im (.bl (isPol d))) s := by
  by_cases q : ∀ xs, d ≠ .tup xs
  · cases d <;> first | (simp [D.kn] at h; done) | exact absurd rfl (q _) | simp [F_is_polynomial, b_is_polynomial, isPol]
  · obtain ⟨xs, rfl⟩ : ∃ xs, d = .tup xs := by simpa using q
    obtain ⟨hl, hx⟩ := kn_tup h
    have l2 : xs.length ≤ 16777216 := by omega
    have lc : ∀ a, lcL (.nm 1) tYes (eCall F_is_number (aCons (eV 1) aNil)) [a, .un] xs s = .ok (xs.map fun x => .bl (isNum x)) s := fun a => lcL_map fun x hx' => ⟨[a, .im x], _, rfl, by simp [q_is_number, Kit.is_number_ok (hx x hx')]; rfl, rfl⟩
    cases hn : xs.all isNum with
    | false =>
      have e : isPol (.tup xs) = false := by simp only [isPol, hn, Bool.false_and]
      have oa := oAll_map isNum xs
      rw [hn] at oa
      rw [e]
      simp [F_is_polynomial, b_is_polynomial, l2, wipeOk, wipeE, Tgt.inn, sizeLine, lc, oa]
    | true =>
      have oa := oAll_map isNum xs
      rw [hn] at oa
      obtain ⟨p, rfl⟩ := nums_qs hn
      have e : isPol (.tup (p.map qD)) = !decide (p.getLast? = some 0) := by simp only [isPol, qs_num, lastNz_q, Bool.true_and]
      have z : oEq (.tup (p.map qD)) (.tup []) = some (decide (p = [])) := by
        have z := oNe_tnil p
        unfold oNe at z
        cases h : oEq (.tup (p.map qD)) (.tup []) with
        | none => rw [h] at z; simp at z
        | some b =>
          rw [h] at z
          simp at z
          rw [z]
      rw [e]
      by_cases hp : p = []
      · subst hp
        simp at z oa lc
        simp [F_is_polynomial, b_is_polynomial, wipeOk, wipeE, Tgt.inn, sizeLine, lc, oa, z]
      · have hl := List.getLast?_eq_some_getLast hp
        generalize p.getLast hp = c at hl
        have ix := (oIdx_last (xs := p.map qD) (d := qD c) (by rw [List.getLast?_map, hl]; rfl)).2
        have nz := oNe_zero c
        rw [hl]
        simp [hp] at z
        generalize hg : (p.map qD).map (fun x => D.bl (isNum x)) = G at *
        generalize p.map qD = P at *
        simp [F_is_polynomial, b_is_polynomial, c_ZERO, l2, wipeOk, wipeE, Tgt.inn, sizeLine, lc, oa, z, ix, nz]
theorem oNe_one {xs : List D} (h : xs.length < 2 ^ 20) : oNe (.lst (xs.map fun _ => .int 1)) (.lst []) = some (!decide (xs = [])) := by
  have c1 : (D.lst (xs.map fun _ => .int 1)).cmp = true := cmp_gd (by simp only [D.gd]; exact ones_gd _) (by
    simp only [D.py, PyData.depth]
    rw [ones_depth]
    omega)
  unfold oNe oEq
  rw [c1, show (D.lst []).cmp = true from rfl]
  simp only [Bool.and_self, if_true, D.py, PyData.eqv]
  cases xs <;> rfl
theorem isWh_bl {d : D} (h : d.kn = true) (f : Lo) (h1 : f[1]? = some (.im d)) : (tOr (tNot (tIsa [.int] (pV 1))) (tIsa [.bool] (pV 1))) f s = .ok (!isWh d) s := by
  cases d <;> first | (simp [D.kn] at h; done) | simp [h1, isWh]
theorem L_is_no_ok {d : D} (h : d.kn = true) : F_L_is_no [d] s = .ok (.im (.bl (isNum d))) s := by
  by_cases q : ∀ xs, d ≠ .tup xs
  · cases d <;> first | (simp [D.kn] at h; done) | exact absurd rfl (q _) | simp [F_L_is_no, b_L_is_no, isNum]
  · obtain ⟨xs, rfl⟩ : ∃ xs, d = .tup xs := by simpa using q
    obtain ⟨hl, hx⟩ := kn_tup h
    by_cases h2 : xs.length = 2
    · obtain ⟨a, b, rfl⟩ : ∃ a b, xs = [a, b] := by
        match xs, h2 with
        | [a, b], _ => exact ⟨a, b, rfl⟩
      have ka := hx a (by simp)
      have kb := hx b (by simp)
      have lc : ∀ a0, lcL (.nm 1) (tOr (tNot (tIsa [.int] (pV 1))) (tIsa [.bool] (pV 1))) (eC (.int 1)) [a0, .un] [a, b] s = .ok (([a, b].filter fun x => !isWh x).map fun _ => .int 1) s := fun a0 => lcL_filter fun x hx' => ⟨[a0, .im x], rfl, isWh_bl (hx x hx') _ rfl, fun _ => ⟨_, rfl, rfl⟩⟩
      have on := @oNe_one ([a, b].filter fun x => !isWh x) (Nat.lt_of_le_of_lt (List.length_filter_le _ _) (show 2 < 2 ^ 20 by decide))
      have e : isNum (.tup [a, b]) = true → isWh a = true ∧ isWh b = true := by
        cases a <;> cases b <;> first | exact fun _ => ⟨rfl, rfl⟩ | exact fun z => absurd z (by simp [isNum])
      by_cases w : isWh a = true ∧ isWh b = true
      · obtain ⟨wa, wb⟩ := w
        have fe : ([a, b].filter fun x => !isWh x) = [] := by simp [wa, wb]
        rw [fe] at lc on
        obtain ⟨i, rfl⟩ : ∃ i, a = .int i := by cases a <;> first | exact ⟨_, rfl⟩ | (simp [isWh] at wa)
        obtain ⟨j, rfl⟩ : ∃ i, b = .int i := by cases b <;> first | exact ⟨_, rfl⟩ | (simp [isWh] at wb)
        have bj : j.natAbs < 2 ^ 9000 := by
          simp only [D.kn, decide_eq_true_eq] at kb
          exact Nat.lt_trans kb (Nat.pow_lt_pow_right (by omega) (by omega))
        have gc := @Kit.L_common_ok s i j bj
        rw [← q_L_common] at gc
        simp at on lc
        simp [F_L_is_no, b_L_is_no, Kit.idx0, Kit.idx1, wipeOk, wipeE, Tgt.inn, sizeLine, lc, on, isNum]
        by_cases hj : 0 < j
        · simp [hj, gc]
          omega
        · simp [hj]
      · have fe : ([a, b].filter fun x => !isWh x) ≠ [] := by
          intro z
          rw [List.filter_eq_nil_iff] at z
          exact w ⟨by simpa using z a (by simp), by simpa using z b (by simp)⟩
        have en : isNum (.tup [a, b]) = false := by
          cases h : isNum (.tup [a, b]) with
          | false => rfl
          | true => exact absurd (e h) w
        rw [decide_eq_false fe] at on
        rw [en]
        generalize ([a, b].filter fun x => !isWh x).map (fun _ => D.int 1) = G at *
        simp [F_L_is_no, b_L_is_no, wipeOk, wipeE, Tgt.inn, sizeLine, lc, on]
    · have e : isNum (.tup xs) = false := by
        unfold isNum
        split
        · rename_i z
          cases z
          exact absurd rfl h2
        · rfl
      rw [e]
      have h3 : ¬ (xs.length : Int) = 2 := by omega
      simp [F_L_is_no, b_L_is_no, h3]
theorem L_is_poly_ok {d : D} (h : d.kn = true) : F_L_is_poly [d] s = .ok (.im (.bl (isPol d))) s := by
  by_cases q : ∀ xs, d ≠ .tup xs
  · cases d <;> first | (simp [D.kn] at h; done) | exact absurd rfl (q _) | simp [F_L_is_poly, b_L_is_poly, isPol]
  · obtain ⟨xs, rfl⟩ : ∃ xs, d = .tup xs := by simpa using q
    obtain ⟨hl, hx⟩ := kn_tup h
    have l2 : xs.length ≤ 16777216 := by omega
    have lc : ∀ a, lcL (.nm 1) (tNot (tVal (pE (eCall F_L_is_no (aCons (eV 1) aNil))))) (eC (.int 1)) [a, .un] xs s = .ok ((xs.filter fun x => !isNum x).map fun _ => .int 1) s := fun a => lcL_filter fun x hx' => ⟨[a, .im x], rfl, by simp [L_is_no_ok (hx x hx')], fun _ => ⟨_, rfl, rfl⟩⟩
    have on := @oNe_one (xs.filter fun x => !isNum x) (Nat.lt_of_le_of_lt (List.length_filter_le _ _) hl)
    cases hn : xs.all isNum with
    | false =>
      have e : isPol (.tup xs) = false := by simp only [isPol, hn, Bool.false_and]
      have fe : (xs.filter fun x => !isNum x) ≠ [] := by
        intro z
        rw [List.filter_eq_nil_iff] at z
        have : xs.all isNum = true := List.all_eq_true.mpr fun x hx => by simpa using z x hx
        rw [this] at hn
        cases hn
      rw [decide_eq_false fe] at on
      rw [e]
      generalize (xs.filter fun x => !isNum x).map (fun _ => D.int 1) = G at *
      simp [F_L_is_poly, b_L_is_poly, l2, wipeOk, wipeE, Tgt.inn, sizeLine, lc, on]
    | true =>
      have fe : (xs.filter fun x => !isNum x) = [] := by
        rw [List.filter_eq_nil_iff]
        intro x hx
        simp [List.all_eq_true.mp hn x hx]
      rw [fe] at lc on
      obtain ⟨p, rfl⟩ := nums_qs hn
      have e : isPol (.tup (p.map qD)) = !decide (p.getLast? = some 0) := by simp only [isPol, qs_num, lastNz_q, Bool.true_and]
      have z : oEq (.tup (p.map qD)) (.tup []) = some (decide (p = [])) := by
        have z := oNe_tnil p
        unfold oNe at z
        cases h : oEq (.tup (p.map qD)) (.tup []) with
        | none => rw [h] at z; simp at z
        | some b =>
          rw [h] at z
          simp at z
          rw [z]
      rw [e]
      simp at on
      by_cases hp : p = []
      · subst hp
        simp at z lc
        simp [F_L_is_poly, b_L_is_poly, wipeOk, wipeE, Tgt.inn, sizeLine, lc, on, z]
      · have hl := List.getLast?_eq_some_getLast hp
        generalize p.getLast hp = c at hl
        have ix := (oIdx_last (xs := p.map qD) (d := qD c) (by rw [List.getLast?_map, hl]; rfl)).2
        have i0 : oIdx (qD c) (.int 0) = some (.int c.num) := Kit.idx0 _ _
        have nz : decide (c.num = 0) = decide (c = 0) := decide_eq_decide.mpr ⟨fun z => Rat.num_eq_zero.mp z, fun z => by rw [z]; rfl⟩
        rw [hl]
        simp [hp] at z
        simp at lc
        generalize p.map qD = P at *
        simp [F_L_is_poly, b_L_is_poly, l2, wipeOk, wipeE, Tgt.inn, sizeLine, lc, on, z, ix, i0, nz]
end K60

/-! K60Q: fractions judged: own work. -/
namespace Ev
open PySem Ps
theorem oEq_one (q : Rat) : oEq (qD q) (.tup [.int 1, .int 1]) = some (decide (q = 1)) := by
  unfold oEq
  have e1 : D.tup [.int 1, .int 1] = qD 1 := rfl
  rw [qD_cmp, e1, qD_cmp]
  show some (PyData.eqv (qD q).py (qD 1).py) = _
  congr 1
  simp only [qD, D.py, D.py.pyAll, PyData.eqv, PyData.eqvAll, Bool.and_true]
  have e : q = 1 ↔ q.num = (1 : Rat).num ∧ (q.den : Int) = ((1 : Rat).den : Int) := by
    constructor
    · intro h
      rw [h]
      exact ⟨rfl, rfl⟩
    · rintro ⟨h, g⟩
      exact Rat.ext h (by omega)
  show (decide (q.num = 1) && decide ((q.den : Int) = 1)) = decide (q = 1)
  rw [← Bool.decide_and]
  exact (decide_eq_decide.mpr e).symm
theorem oEq_tnil (p : List Rat) : oEq (.tup (p.map qD)) (.tup []) = some (decide (p = [])) := by
  have z := oNe_tnil p
  unfold oNe at z
  cases h : oEq (.tup (p.map qD)) (.tup []) with
  | none => rw [h] at z; simp at z
  | some b =>
    rw [h] at z
    simp at z
    rw [z]
def headOne : D → Bool
  | .tup (.tup [.int a, .int b] :: _) => decide (a = 1) && decide (b = 1)
  | _ => false
theorem headOne_q (q : Rat) (p : List Rat) : headOne (.tup ((q :: p).map qD)) = decide (q = 1) := by
  show (decide (q.num = 1) && decide ((q.den : Int) = 1)) = _
  rw [← Bool.decide_and]
  refine decide_eq_decide.mpr ⟨fun ⟨h, g⟩ => Rat.ext h (by have : (1 : Rat).den = 1 := rfl; omega), fun h => by rw [h]; exact ⟨rfl, rfl⟩⟩
def isFrac : D → Bool
  | .tup [.str x, a, b] => decide (x = "fraction") && (isPol a && (isPol b && (headOne b && (decide (lenT a ≤ 24) && decide (lenT b ≤ 25)))))
  | _ => false
end Ev
namespace K60
open PySem Ev Ps
variable {s : DS}
theorem is_fraction_ok {d : D} (h : d.kn = true) : F_is_fraction [d] s = .ok (.im (.bl (isFrac d))) s := by
  by_cases q : ∀ xs, d ≠ .tup xs
  · cases d <;> first | (simp [D.kn] at h; done) | exact absurd rfl (q _) | simp [F_is_fraction, b_is_fraction, isFrac]
  · obtain ⟨xs, rfl⟩ : ∃ xs, d = .tup xs := by simpa using q
    obtain ⟨hl, hx⟩ := kn_tup h
    by_cases h3 : xs.length = 3
    · obtain ⟨a, b, c, rfl⟩ : ∃ a b c, xs = [a, b, c] := by
        match xs, h3 with
        | [a, b, c], _ => exact ⟨a, b, c, rfl⟩
      obtain ⟨i0, i1, i2⟩ := Kit.idx3 a b c
      have ka := hx a (by simp)
      have kb := hx b (by simp)
      have kc := hx c (by simp)
      by_cases qa : ∀ x, a ≠ .str x
      · have e : isFrac (.tup [a, b, c]) = false := by
          cases a <;> first | rfl | exact absurd rfl (qa _)
        rw [e]
        cases a <;> first | (simp [D.kn] at ka; done) | exact absurd rfl (qa _) | simp [F_is_fraction, b_is_fraction, i0]
      · obtain ⟨x, rfl⟩ : ∃ x, a = .str x := by simpa using qa
        simp only [D.kn] at ka
        have ne := strEq ka (y := "fraction") (strOk_of _)
        have r1 := @is_polynomial_ok s b kb
        have r2 := @is_polynomial_ok s c kc
        by_cases hx : x = "fraction"
        · subst hx
          simp at ne
          cases v1 : isPol b with
          | false => simp [F_is_fraction, b_is_fraction, i0, i1, i2, ne, r1, r2, isFrac, v1]
          | true =>
            cases v2 : isPol c with
            | false => simp [F_is_fraction, b_is_fraction, i0, i1, i2, ne, r1, r2, isFrac, v1, v2]
            | true =>
              rw [v1] at r1
              rw [v2] at r2
              obtain ⟨ys, rfl, _⟩ := isPol_ex v1
              obtain ⟨zs, rfl, _⟩ := isPol_ex v2
              have z := oEq_tnil zs
              cases zs with
              | nil =>
                simp at z r2 i0 i1 i2
                simp [F_is_fraction, b_is_fraction, i0, i1, i2, ne, r1, r2, isFrac, v1, z, headOne]
              | cons c0 cs =>
                have j0 : oIdx (.tup ((c0 :: cs).map qD)) (.int 0) = some (qD c0) := oIdx_t (k := 0) rfl
                have o1 : oNe (qD c0) (.tup [.int 1, .int 1]) = some (!decide (c0 = 1)) := by
                  unfold oNe
                  rw [oEq_one]
                  rfl
                have ho := headOne_q c0 cs
                have l1 : lenT (.tup (ys.map qD)) = ys.length := List.length_map _
                have l2 : lenT (.tup ((c0 :: cs).map qD)) = (c0 :: cs).length := List.length_map _
                have w1 : oLenR (.tup (ys.map qD)) = some (.im (.int ys.length)) := by rw [oLenR_t, List.length_map]
                have w2 : oLenR (.tup ((c0 :: cs).map qD)) = some (.im (.int (c0 :: cs).length)) := by rw [oLenR_t, List.length_map]
                have e : isFrac (.tup [.str "fraction", .tup (ys.map qD), .tup ((c0 :: cs).map qD)]) = (decide (c0 = 1) && (decide (ys.length ≤ 24) && decide ((c0 :: cs).length ≤ 25))) := by
                  simp only [isFrac, v1, v2, ho, l1, l2]
                  simp
                rw [e]
                rw [decide_eq_false (by simp)] at z
                generalize (c0 :: cs).length = n2 at *
                generalize ys.length = n1 at *
                generalize D.tup ((c0 :: cs).map qD) = C at *
                generalize D.tup (ys.map qD) = B at *
                by_cases hc : c0 = 1
                · subst hc
                  simp at o1
                  by_cases h24 : n1 ≤ 24
                  · have h24' : (n1 : Int) ≤ 24 := by omega
                    by_cases h25 : n2 ≤ 25
                    · have h25' : (n2 : Int) ≤ 25 := by omega
                      simp [F_is_fraction, b_is_fraction, c_ONE, c_MOST_ORDER, i0, i1, i2, ne, r1, r2, z, j0, o1, w1, w2, h24, h24', h25, h25']
                    · have h25' : ¬ (n2 : Int) ≤ 25 := by omega
                      simp [F_is_fraction, b_is_fraction, c_ONE, c_MOST_ORDER, i0, i1, i2, ne, r1, r2, z, j0, o1, w1, w2, h24, h24', h25, h25']
                  · have h24' : ¬ (n1 : Int) ≤ 24 := by omega
                    simp [F_is_fraction, b_is_fraction, c_ONE, c_MOST_ORDER, i0, i1, i2, ne, r1, r2, z, j0, o1, w1, w2, h24, h24']
                · simp [F_is_fraction, b_is_fraction, c_ONE, c_MOST_ORDER, i0, i1, i2, ne, r1, r2, z, j0, o1, hc]
        · simp [hx] at ne
          simp [F_is_fraction, b_is_fraction, i0, ne, isFrac, hx]
    · have e : isFrac (.tup xs) = false := by
        unfold isFrac
        split
        · rename_i z
          cases z
          exact absurd rfl h3
        · rfl
      rw [e]
      have h4 : ¬ (xs.length : Int) = 3 := by omega
      simp [F_is_fraction, b_is_fraction, h4]
theorem L_is_fraction_ok {d : D} (h : d.kn = true) : F_L_is_fraction [d] s = .ok (.im (.bl (isFrac d))) s := by
  by_cases q : ∀ xs, d ≠ .tup xs
  · cases d <;> first | (simp [D.kn] at h; done) | exact absurd rfl (q _) | simp [F_L_is_fraction, b_L_is_fraction, isFrac]
  · obtain ⟨xs, rfl⟩ : ∃ xs, d = .tup xs := by simpa using q
    obtain ⟨hl, hx⟩ := kn_tup h
    by_cases h3 : xs.length = 3
    · obtain ⟨a, b, c, rfl⟩ : ∃ a b c, xs = [a, b, c] := by
        match xs, h3 with
        | [a, b, c], _ => exact ⟨a, b, c, rfl⟩
      obtain ⟨i0, i1, i2⟩ := Kit.idx3 a b c
      have ka := hx a (by simp)
      have kb := hx b (by simp)
      have kc := hx c (by simp)
      by_cases qa : ∀ x, a ≠ .str x
      · have e : isFrac (.tup [a, b, c]) = false := by
          cases a <;> first | rfl | exact absurd rfl (qa _)
        rw [e]
        cases a <;> first | (simp [D.kn] at ka; done) | exact absurd rfl (qa _) | simp [F_L_is_fraction, b_L_is_fraction, i0]
      · obtain ⟨x, rfl⟩ : ∃ x, a = .str x := by simpa using qa
        simp only [D.kn] at ka
        have ne := strEq ka (y := "fraction") (strOk_of _)
        have r1 := @L_is_poly_ok s b kb
        have r2 := @L_is_poly_ok s c kc
        by_cases hx : x = "fraction"
        · subst hx
          simp at ne
          cases v1 : isPol b with
          | false => simp [F_L_is_fraction, b_L_is_fraction, i0, i1, i2, ne, r1, r2, isFrac, v1]
          | true =>
            cases v2 : isPol c with
            | false => simp [F_L_is_fraction, b_L_is_fraction, i0, i1, i2, ne, r1, r2, isFrac, v1, v2]
            | true =>
              rw [v1] at r1
              rw [v2] at r2
              obtain ⟨ys, rfl, _⟩ := isPol_ex v1
              obtain ⟨zs, rfl, _⟩ := isPol_ex v2
              have z := oNe_tnil zs
              cases zs with
              | nil =>
                simp at z r2 i0 i1 i2
                simp [F_L_is_fraction, b_L_is_fraction, i0, i1, i2, ne, r1, r2, isFrac, v1, z, headOne]
              | cons c0 cs =>
                have j0 : oIdx (.tup ((c0 :: cs).map qD)) (.int 0) = some (qD c0) := oIdx_t (k := 0) rfl
                have o1 := oEq_one c0
                have ho := headOne_q c0 cs
                have l1 : lenT (.tup (ys.map qD)) = ys.length := List.length_map _
                have l2 : lenT (.tup ((c0 :: cs).map qD)) = (c0 :: cs).length := List.length_map _
                have w1 : oLenR (.tup (ys.map qD)) = some (.im (.int ys.length)) := by rw [oLenR_t, List.length_map]
                have w2 : oLenR (.tup ((c0 :: cs).map qD)) = some (.im (.int (c0 :: cs).length)) := by rw [oLenR_t, List.length_map]
                have e : isFrac (.tup [.str "fraction", .tup (ys.map qD), .tup ((c0 :: cs).map qD)]) = (decide (c0 = 1) && (decide (ys.length ≤ 24) && decide ((c0 :: cs).length ≤ 25))) := by
                  simp only [isFrac, v1, v2, ho, l1, l2]
                  simp
                rw [e]
                rw [decide_eq_false (by simp)] at z
                simp only [Bool.not_false] at z
                generalize (c0 :: cs).length = n2 at *
                generalize ys.length = n1 at *
                generalize D.tup ((c0 :: cs).map qD) = C at *
                generalize D.tup (ys.map qD) = B at *
                by_cases hc : c0 = 1
                · subst hc
                  simp at o1
                  by_cases h24 : n1 ≤ 24
                  · have h24' : (n1 : Int) < 25 := by omega
                    by_cases h25 : n2 ≤ 25
                    · have h25' : (n2 : Int) < 26 := by omega
                      simp [F_L_is_fraction, b_L_is_fraction, c_ONE, c_MOST_ORDER, i0, i1, i2, ne, r1, r2, z, j0, o1, w1, w2, h24, h24', h25, h25']
                    · have h25' : ¬ (n2 : Int) < 26 := by omega
                      simp [F_L_is_fraction, b_L_is_fraction, c_ONE, c_MOST_ORDER, i0, i1, i2, ne, r1, r2, z, j0, o1, w1, w2, h24, h24', h25, h25']
                  · have h24' : ¬ (n1 : Int) < 25 := by omega
                    simp [F_L_is_fraction, b_L_is_fraction, c_ONE, c_MOST_ORDER, i0, i1, i2, ne, r1, r2, z, j0, o1, w1, w2, h24, h24']
                · simp [F_L_is_fraction, b_L_is_fraction, c_ONE, c_MOST_ORDER, i0, i1, i2, ne, r1, r2, z, j0, o1, hc]
        · simp [hx] at ne
          simp [F_L_is_fraction, b_L_is_fraction, i0, ne, isFrac, hx]
    · have e : isFrac (.tup xs) = false := by
        unfold isFrac
        split
        · rename_i z
          cases z
          exact absurd rfl h3
        · rfl
      rw [e]
      have h4 : ¬ (xs.length : Int) = 3 := by omega
      simp [F_L_is_fraction, b_L_is_fraction, h4]
end K60

/-! K60R: the law's sum, cofactors: own work. -/
namespace KP
open PySem Ev Ps
variable {s : DS}
theorem Sq.one : Sq (1 : Rat) := by constructor <;> decide +kernel
theorem L_lc_zip (env : Lo) (h2 : env[2]? = some (.im (qD 1))) (h5 : 6 < env.length) (h6 : 7 < env.length) : ∀ a b : List Rat, (∀ x ∈ a, Sq x) → (∀ x ∈ b, Sq x) →
    lcL (.tp [(.nm 6), (.nm 7)]) tYes (eCall F_L_plus (aCons (eV 6) (aCons (eCall F_L_times (aCons (eV 2) (aCons (eV 7) aNil))) aNil))) env (zipD (a.map qD) (b.map qD)) s = .ok ((List.zipWith (· + ·) a b).map qD) s
  | [], b, _, _ => by simp [zipD, lcL]
  | x :: a, [], _, _ => by simp [zipD, lcL]
  | x :: a, y :: b, ha, hb => by
    have e : zipD ((x :: a).map qD) ((y :: b).map qD) = .tup [qD x, qD y] :: zipD (a.map qD) (b.map qD) := rfl
    have t := @L_times_q s 1 y Sq.one (hb y List.mem_cons_self)
    rw [Rat.one_mul] at t
    have p := @L_plus_q s x y (ha x List.mem_cons_self) (hb y List.mem_cons_self)
    have i := L_lc_zip env h2 h5 h6 a b (fun z hz => ha z (List.mem_cons_of_mem _ hz)) (fun z hz => hb z (List.mem_cons_of_mem _ hz))
    have g5 : ((env.set 6 (.im (qD x))).set 7 (.im (qD y)))[6]? = some (.im (qD x)) := by
      rw [List.getElem?_set_ne (by decide), List.getElem?_set_self h5]
    have g6 : ((env.set 6 (.im (qD x))).set 7 (.im (qD y)))[7]? = some (.im (qD y)) := List.getElem?_set_self (by rw [List.length_set]; exact h6)
    have g2 : ((env.set 6 (.im (qD x))).set 7 (.im (qD y)))[2]? = some (.im (qD 1)) := by
      rw [List.getElem?_set_ne (by decide), List.getElem?_set_ne (by decide), h2]
    rw [e, lcL]
    simp [Tgt.put, Tgt.puts, g5, g6, g2, p, t]
    simp [i]
theorem L_poly_plus_ok {p q : List Rat} (hp : ∀ x ∈ p, Sq x) (hq : ∀ x ∈ q, Sq x) (lp : p.length ≤ 500) (lq : q.length ≤ 500) : ∃ r, F_L_poly_plus [.tup (p.map qD), .tup (q.map qD), qD 1] s = .ok (.im (.tup (r.map qD))) s ∧ Tr r ∧ po r = po p + po q := by
  obtain ⟨a, b, ea, eb, wd⟩ : ∃ a b : Nat, p.length + a = q.length + b ∧ p.length + a ≤ 500 ∧ (if (q.length : Int) > p.length then (q.length : Int) else p.length) = ((p.length + a : Nat) : Int) := by
    by_cases h : p.length < q.length
    · exact ⟨q.length - p.length, 0, by omega, by omega, by rw [if_pos (by omega)]; omega⟩
    · exact ⟨0, p.length - q.length, by omega, by omega, by rw [if_neg (by omega)]; omega⟩
  have m1 := zeros_mul (k := a) (by omega)
  have m2 := zeros_mul (k := b) (by omega)
  have A : ∀ x ∈ p ++ List.replicate a 0, Sq x := fun x hx => by
    rcases List.mem_append.mp hx with h | h
    · exact hp x h
    · rw [(List.mem_replicate.mp h).2]
      exact z0
  have B : ∀ x ∈ q ++ List.replicate b 0, Sq x := fun x hx => by
    rcases List.mem_append.mp hx with h | h
    · exact hq x h
    · rw [(List.mem_replicate.mp h).2]
      exact z0
  have le : (p ++ List.replicate a 0).length = (q ++ List.replicate b 0).length := by
    rw [List.length_append, List.length_append, List.length_replicate, List.length_replicate]
    exact ea
  have lz : (List.zipWith (· + ·) (p ++ List.replicate a 0) (q ++ List.replicate b 0)).length ≤ 10000 := by
    rw [List.length_zipWith, List.length_append, List.length_replicate]
    omega
  have t := @L_trim_ok s _ lz _ (.inr rfl)
  refine ⟨trim (List.zipWith (· + ·) (p ++ List.replicate a 0) (q ++ List.replicate b 0)), ?_, trim_tr _, ?_⟩
  · generalize hW : p.length + a = W at *
    have s1 : (W : Int) - p.length = a := by omega
    have s2 : (W : Int) - q.length = b := by omega
    have k1 : p.length + a ≤ sizeLine := big (by omega)
    have k2 : q.length + b ≤ sizeLine := big (by omega)
    have r1 : p.map qD ++ (List.replicate a (0 : Rat)).map qD = (p ++ List.replicate a 0).map qD := by rw [List.map_append]
    have r2 : q.map qD ++ (List.replicate b (0 : Rat)).map qD = (q ++ List.replicate b 0).map qD := by rw [List.map_append]
    have ea' : (p ++ List.replicate a (0 : Rat)).length = W := by rw [List.length_append, List.length_replicate]; exact hW
    have eb' : (q ++ List.replicate b (0 : Rat)).length = W := by rw [List.length_append, List.length_replicate]; omega
    have u1 : p_L_poly_plus_1 [.im (.tup (p.map qD)), .im (.tup (q.map qD)), .im (qD 1), .un, .un, .un, .un, .un] s = .nx [.im (.tup (p.map qD)), .im (.tup (q.map qD)), .im (qD 1), .im (.int W), .un, .un, .un, .un] s := by
      unfold p_L_poly_plus_1
      simp only [sSet_def, e2_def, pE_def, e1_def, pV_def, List.getElem?_cons_zero, List.getElem?_cons_succ, bind_ok, oLenR_t, lift_some, d_im, List.length_map, oMax_ii, wd, out_ok, slot_im, List.set_cons_zero, List.set_cons_succ]
    have u2 : p_L_poly_plus_2 [.im (.tup (p.map qD)), .im (.tup (q.map qD)), .im (qD 1), .im (.int W), .un, .un, .un, .un] s = .nx [.im (.tup (p.map qD)), .im (.tup (q.map qD)), .im (qD 1), .im (.int W), .mu ((p ++ List.replicate a 0).map qD), .mu ((q ++ List.replicate b 0).map qD), .un, .un] s := by
      have f2 : (RV.mu ((q ++ List.replicate b (0 : Rat)).map qD)).flat = true := qs_flat (q ++ List.replicate b 0)
      rw [← r2] at f2
      rw [← r1, ← r2]
      simp [p_L_poly_plus_2, s1, m1, k1, s2, m2, k2]
      simpa using f2
    generalize p ++ List.replicate a (0 : Rat) = P at *
    generalize q ++ List.replicate b (0 : Rat) = Q at *
    have c := @L_lc_zip s [.im (.tup (p.map qD)), .im (.tup (q.map qD)), .im (qD 1), .im (.int (W : Int)), .im (.lst (P.map qD)), .im (.lst (Q.map qD)), .un, .un] rfl (by show 6 < 8; decide) (by show 7 < 8; decide) _ _ A B
    have lz2 : (zipD (P.map qD) (Q.map qD)).length ≤ sizeLine := by
      unfold zipD
      rw [List.length_map, List.length_zip, List.length_map, List.length_map, ea', eb', Nat.min_self]
      exact big (by omega)
    generalize List.zipWith (· + ·) P Q = Z at *
    have u6 : p_L_poly_plus_5 [.im (.tup (p.map qD)), .im (.tup (q.map qD)), .im (qD 1), .im (.int W), .im (.lst (P.map qD)), .im (.lst (Q.map qD)), .un, .un] s = .rt (.im (.tup ((trim Z).map qD))) s := by
      unfold p_L_poly_plus_5
      simp [zipR, lz2, wipeOk, wipeE, Tgt.inn, Tgt.inns, c, t]
    unfold F_L_poly_plus
    rw [fnOf_def, if_pos (by rfl), b_L_poly_plus_p]
    simp [p_L_poly_plus, u1, u2, u6]
  · rw [trim_po, po_zip le, po_app_zeros, po_app_zeros]
end KP

/-! K60T: cofactors: own work. -/
namespace K60
open PySem Ev Ps
variable {s : DS}
theorem q_with_cofactors : K60.F_with_cofactors = KP.F_with_cofactors := rfl
theorem q_poly_common : K60.F_L_poly_common = KP.F_L_poly_common := rfl
theorem q_poly_plus : K60.F_L_poly_plus = KP.F_L_poly_plus := rfl
theorem q_poly_times : K60.F_L_poly_times = KP.F_L_poly_times := rfl
theorem need_fraction_ok {d : D} (h : d.kn = true) (hf : isFrac d = true) : F_need_fraction [d] s = .ok (.im .non) s := by
  have z := @is_fraction_ok s d h
  rw [hf] at z
  simp [F_need_fraction, b_need_fraction, z]
theorem cofactors_ok {u l g A B : List Rat} (h : (D.tup [.str "fraction", .tup (u.map qD), .tup (l.map qD)]).kn = true) (hf : isFrac (.tup [.str "fraction", .tup (u.map qD), .tup (l.map qD)]) = true) (hw : KP.F_with_cofactors [.tup (u.map qD), .tup (l.map qD)] s = .ok (.im (KP.tri g A B)) s) (hg : oNe (.tup (g.map qD)) (.tup [.tup [.int 1, .int 1]]) = some (!decide (g.length = 1))) :
    F_cofactors [.tup [.str "fraction", .tup (u.map qD), .tup (l.map qD)]] s = .ok (.im (if g.length = 1 then .tup [.tup (A.map qD), .tup (B.map qD)] else .non)) s := by
  have nf := @need_fraction_ok s _ h hf
  obtain ⟨i0, i1, i2⟩ := Kit.idx3 (.str "fraction") (.tup (u.map qD)) (.tup (l.map qD))
  rw [← q_with_cofactors] at hw
  unfold KP.tri at hw
  generalize u.map qD = U at *
  generalize l.map qD = L at *
  generalize A.map qD = PA at *
  generalize B.map qD = PB at *
  generalize g.map qD = G at *
  have k : (1 : Nat) ≤ sizeLine := big (by omega)
  have k2 : (2 : Nat) ≤ sizeLine := big (by omega)
  have u2 : p_cofactors_2 [.im (.tup [.str "fraction", .tup U, .tup L]), .un, .un, .un] s = .nx [.im (.tup [.str "fraction", .tup U, .tup L]), .im (.tup G), .im (.tup PA), .im (.tup PB)] s := by
    unfold p_cofactors_2
    simp only [sPut_def, eCall_def, aCons_def, aNil_def, eIdx_def, pE_def, pV_def, eC_def, List.getElem?_cons_zero, bind_ok, d_im, i1, i2, lift_some, Option.map_some, hw, out_ok]
    rfl
  unfold F_cofactors
  rw [fnOf_def, if_pos (by rfl), b_cofactors_p]
  by_cases e : g.length = 1
  · simp [e] at hg
    simp [p_cofactors, nf, u2, p_cofactors_3, c_ONE, k, k2, hg, e]
  · simp [e] at hg
    simp [p_cofactors, nf, u2, p_cofactors_3, c_ONE, k, k2, hg, e]
end K60

/-! K60N: values near to fractions: own work. -/
namespace Ev
open PySem
mutual
/-- wholes, texts, tuples of at most m such -/
def D.nk (m : Nat) : D → Bool
  | .int i => decide (i.natAbs < 2 ^ 100)
  | .str x => PyData.strOk x
  | .tup xs => decide (xs.length ≤ m) && nkAll m xs
  | .non | .bl _ | .edic | .lst _ | .st | .exc _ _ | .scr _ => false
def nkAll (m : Nat) : List D → Bool
  | [] => true
  | x :: xs => x.nk m && nkAll m xs
end
theorem nkAll_mem {m : Nat} : ∀ {xs : List D}, nkAll m xs = true ↔ ∀ x ∈ xs, x.nk m = true
  | [] => by simp [nkAll]
  | x :: xs => by simp [nkAll, nkAll_mem]
theorem nk_tup {m : Nat} {xs : List D} : (D.tup xs).nk m = true ↔ xs.length ≤ m ∧ ∀ x ∈ xs, x.nk m = true := by
  simp only [D.nk, Bool.and_eq_true, decide_eq_true_eq, nkAll_mem]
mutual
theorem nk_kl {m : Nat} : ∀ d : D, d.nk m = true → d.kl m = true
  | .int i, q => by
    simp only [D.nk, D.kl, decide_eq_true_eq] at q ⊢
    exact Nat.lt_trans q (Nat.pow_lt_pow_right (by omega) (by omega))
  | .str x, q => by simpa [D.kl, D.nk] using q
  | .tup xs, q => by
    simp only [D.nk, D.kl, Bool.and_eq_true, decide_eq_true_eq] at q ⊢
    exact ⟨q.1, nkAll_kl xs q.2⟩
  | .non, q | .bl _, q | .edic, q | .lst _, q | .st, q | .exc _ _, q | .scr _, q => by simp [D.nk] at q
theorem nkAll_kl {m : Nat} : ∀ xs : List D, nkAll m xs = true → klAll m xs = true
  | [], _ => rfl
  | x :: xs, q => by
    simp only [nkAll, klAll, Bool.and_eq_true] at q ⊢
    exact ⟨nk_kl x q.1, nkAll_kl xs q.2⟩
end
theorem cut_len {α : Type} (xs : List α) (a b : Option Int) : (cutD xs a b).length ≤ xs.length := by
  unfold Ev.cutD
  rw [List.length_take, List.length_drop]
  omega
theorem cut_mem {α : Type} {xs : List α} {a b : Option Int} {x : α} (h : x ∈ cutD xs a b) : x ∈ xs := List.mem_of_mem_drop (List.mem_of_mem_take h)
end Ev

/-! K60N2: values near to fractions, the run: own work. -/
namespace K60
open PySem Ev Kit
variable {s : DS}
theorem q_pick : K60.F_L_pick = Kit.F_L_pick := rfl
theorem q_draw : K60.F_L_draw = Kit.F_L_draw := rfl
theorem near_int {r : Fn} {i : Int} {k : Nat} (hi : i.natAbs < 2 ^ 100) (hs : St s (k + 1)) : ∃ (o : D) (s' : DS), p_L_near_2 r [.im .st, .im (.int i), .un, .un] s = .rt (.im o) s' ∧ o.kl 1 = true ∧ St s' k := by
  have lg : i.natAbs.log2 < 1920 := by
    by_cases h0 : i.natAbs = 0
    · rw [h0]
      decide
    · exact Nat.lt_of_lt_of_le ((Nat.log2_lt h0).mpr hi) (by omega)
  have st : oStr (.int i) = some (.im (.str (toString i))) := by
    show (if i.natAbs.log2 < 1920 then some (RV.im (D.str (Str.ofString (toString i)))) else none) = _
    rw [if_pos lg]
  obtain ⟨o, s', e, m, h⟩ := Kit.L_pick_ok (xs := [.int (i + 1), .int (i - 1), .int (-i), .bl true, .non, .tup [.int i], .str i.repr]) hs (by simp) (by show 7 < 2 ^ 60; decide)
  refine ⟨o, s', ?_, ?_, h⟩
  · rw [← q_pick] at e
    simp [p_L_near_2, sizeLine, st, e]
  · have b : ∀ j : Int, j.natAbs ≤ i.natAbs + 1 → j.natAbs < 2 ^ 8000 := fun j hj => by
      have : 2 ^ 100 + 1 < 2 ^ 8000 := by decide
      omega
    have so : ∀ x : String, PyData.strOk x = true := strOk_of
    simp only [List.mem_cons, List.not_mem_nil, or_false] at m
    rcases m with rfl | rfl | rfl | rfl | rfl | rfl | rfl
    · simp only [D.kl, decide_eq_true_eq]; exact b _ (by omega)
    · simp only [D.kl, decide_eq_true_eq]; exact b _ (by omega)
    · simp only [D.kl, decide_eq_true_eq]; exact b _ (by omega)
    · rfl
    · rfl
    · simp only [D.kl, klAll, List.length_singleton, Bool.and_true, Bool.and_eq_true, decide_eq_true_eq]; exact ⟨by omega, b _ (by omega)⟩
    · simp only [D.kl, so]
theorem near_end {r : Fn} {d : D} {L : List D} {k m : Nat} (hd : d = .tup L ∨ (∃ x, d = .str x) ∧ L = [d]) (hL : ∀ x ∈ L, x.kl m = true) (hl : L.length ≤ m) (hm : m ≤ 1000) (m2 : 2 ≤ m) (hs : St s (k + 1)) : ∃ (o : D) (s' : DS), (sSeq (p_L_near_3 r) (sSeq (sFrz 3) (p_L_near_5 r))) [.im .st, .im d, .un, .un] s = .rt (.im o) s' ∧ o.kl (2 * m) = true ∧ St s' k := by
  have u3 : p_L_near_3 r [.im .st, .im d, .un, .un] s = .nx [.im .st, .im d, .un, .mu L] s := by
    unfold p_L_near_3
    rcases hd with rfl | ⟨⟨x, rfl⟩, rfl⟩
    · simp
    · simp [sizeLine]
  obtain ⟨o, s', e, mo, h⟩ := L_pick_ok (xs := [.non, .lst L, .tup (L ++ cutD L (some (-1)) none), .tup (cutD L none (some (-1))), .tup L.reverse, .tup L, .int 0, .tup [.int 0, .int 1]]) hs (by simp) (by show 8 < 2 ^ 60; decide)
  refine ⟨o, s', ?_, ?_, h⟩
  · rw [← q_pick] at e
    have c := cut_len L (some (-1)) none
    have k1 : L.length + (cutD L (some (-1)) none).length ≤ 16777216 := by omega
    rw [sSeq_def, u3]
    simp [p_L_near_5, oSlice, e, k1, oRev, sizeLine]
  · have al : ∀ x ∈ L, x.kl (2 * m) = true := fun x hx => kl_mono (by omega) x (hL x hx)
    have c := cut_len L (some (-1)) none
    have c2 := cut_len L none (some (-1))
    simp only [List.mem_cons, List.not_mem_nil, or_false] at mo
    rcases mo with rfl | rfl | rfl | rfl | rfl | rfl | rfl | rfl
    · rfl
    · exact kl_lst.mpr ⟨by omega, al⟩
    · refine kl_tup.mpr ⟨by rw [List.length_append]; omega, fun x hx => ?_⟩
      rcases List.mem_append.mp hx with z | z
      · exact al x z
      · exact al x (cut_mem z)
    · exact kl_tup.mpr ⟨by omega, fun x hx => al x (cut_mem hx)⟩
    · exact kl_tup.mpr ⟨by rw [List.length_reverse]; omega, fun x hx => al x (List.mem_reverse.mp hx)⟩
    · exact kl_tup.mpr ⟨by omega, al⟩
    · simp [D.kl]
    · exact kl_mono (show 2 ≤ 2 * m by omega) _ (by simp [D.kl, klAll])
end K60

/-! K60N3: values near to fractions, the recursion: own work. -/
namespace Ev
open PySem
mutual
theorem nk_lay {m : Nat} : ∀ d : D, d.nk m = true → d.ok = true ∧ d.py.canLay0 = true
  | .int i, q => by simp [D.ok, D.py, PyData.canLay0]
  | .str x, q => by
    simp only [D.nk] at q
    simp [D.ok, D.py, PyData.canLay0, q]
  | .tup xs, q => by
    simp only [D.nk, Bool.and_eq_true] at q
    simp only [D.ok, D.py, PyData.canLay0]
    exact nkAll_lay xs q.2
  | .non, q | .bl _, q | .edic, q | .lst _, q | .st, q | .exc _ _, q | .scr _, q => by simp [D.nk] at q
theorem nkAll_lay {m : Nat} : ∀ xs : List D, nkAll m xs = true → D.ok.okAll xs = true ∧ PyData.canLayAll0 (D.py.pyAll xs) = true
  | [], _ => ⟨rfl, rfl⟩
  | x :: xs, q => by
    simp only [nkAll, Bool.and_eq_true] at q
    obtain ⟨a, b⟩ := nk_lay x q.1
    obtain ⟨c, d⟩ := nkAll_lay xs q.2
    simp only [D.ok.okAll, D.py.pyAll, PyData.canLayAll0, a, b, c, d, Bool.and_self, and_self]
end
theorem nk_cmp {m : Nat} {d : D} (h : d.nk m = true) (hd : d.py.depth ≤ 64) : d.cmp = true := cmp_lay (nk_lay d h).1 (nk_lay d h).2 hd
end Ev
namespace K60
open PySem Ev Kit
variable {s : DS} {m : Nat}
theorem near_of {n : Nat} {d o : D} {s' : DS} (e : p_L_near (F_L_near n) [.im .st, .im d, .un, .un] s = .rt (.im o) s') : F_L_near (n + 1) [.st, d] s = .ok (.im o) s' := by
  rw [F_L_near, fnOf_def, if_pos (by rfl), b_L_near_p]
  show (match p_L_near (F_L_near n) [.im .st, .im d, .un, .un] s with
    | .nx _ s => Res.ok (RV.im .non) s
    | .rt r s => .ok r s
    | .exc c p s => .exc c p s
    | _ => .stuck) = _
  rw [e]
theorem seq_rt {a b : Stm} {e e' : Lo} {s s' : DS} {o : Out} (h1 : a e s = .nx e' s') (h2 : b e' s' = o) : (sSeq a b) e s = o := by
  rw [sSeq_def, h1]
  exact h2
theorem seq_st {a b : Stm} {e : Lo} {s s' : DS} {r : RV} (h1 : a e s = .rt r s') : (sSeq a b) e s = .rt r s' := by
  rw [sSeq_def, h1]
theorem near_no2 {r : Fn} {d : D} (h : ∀ i, d ≠ .int i) (hb : d.nk m = true) : p_L_near_2 r [.im .st, .im d, .un, .un] s = .nx [.im .st, .im d, .un, .un] s := by
  cases d <;> first | (simp [D.nk] at hb; done) | exact absurd rfl (h _) | simp [p_L_near_2]
theorem near_1_pass {r : Fn} {d : D} (h : ∀ xs, d ≠ .tup xs) (hb : d.nk m = true) : p_L_near_1 r [.im .st, .im d, .un, .un] s = .nx [.im .st, .im d, .un, .un] s := by
  cases d <;> first | (simp [D.nk] at hb; done) | exact absurd rfl (h _) | simp [p_L_near_1]
theorem near_ok : ∀ (n : Nat) (d : D) (m k : Nat) (s : DS), d.nk m = true → d.py.depth ≤ n → d.py.depth ≤ 60 → 2 ≤ m → m ≤ 1000 → St s (k + 3 * (n + 1)) → ∃ (o : D) (s' : DS), F_L_near (n + 1) [.st, d] s = .ok (.im o) s' ∧ o.kl (2 * m) = true ∧ St s' k := by
  intro n
  induction n with
  | zero =>
    intro d m k s hk hd hn h2 hm hs
    cases d with
    | int i =>
      simp only [D.nk, decide_eq_true_eq] at hk
      obtain ⟨o, s', e, ko, st⟩ := @near_int s (F_L_near 0) i k hk (hs.less (by omega))
      refine ⟨o, s', near_of ?_, kl_mono (by omega) o ko, st⟩
      rw [p_L_near]
      exact seq_rt (near_1_pass (m := m) (by simp) (by simp [D.nk, hk])) (seq_st e)
    | str x =>
      obtain ⟨o, s', e, ko, st⟩ := @near_end s (F_L_near 0) (.str x) [.str x] k m (.inr ⟨⟨x, rfl⟩, rfl⟩) (fun y hy => by rw [List.mem_singleton.mp hy]; exact nk_kl _ hk) (by simp; omega) hm h2 (hs.less (by omega))
      refine ⟨o, s', near_of ?_, ko, st⟩
      rw [p_L_near]
      exact seq_rt (near_1_pass (m := m) (by simp) hk) (seq_rt (near_no2 (m := m) (by simp) hk) e)
    | tup xs => simp [D.py, PyData.depth] at hd
    | _ => simp [D.nk] at hk
  | succ n ih =>
    intro d m k s hk hd hn h2 hm hs
    by_cases ht : ∀ xs, d ≠ .tup xs
    · cases d with
      | int i =>
        simp only [D.nk, decide_eq_true_eq] at hk
        obtain ⟨o, s', e, ko, st⟩ := @near_int s (F_L_near (n + 1)) i k hk (hs.less (by omega))
        refine ⟨o, s', near_of ?_, kl_mono (by omega) o ko, st⟩
        rw [p_L_near]
        exact seq_rt (near_1_pass (m := m) (by simp) (by simp [D.nk, hk])) (seq_st e)
      | str x =>
        obtain ⟨o, s', e, ko, st⟩ := @near_end s (F_L_near (n + 1)) (.str x) [.str x] k m (.inr ⟨⟨x, rfl⟩, rfl⟩) (fun y hy => by rw [List.mem_singleton.mp hy]; exact nk_kl _ hk) (by simp; omega) hm h2 (hs.less (by omega))
        refine ⟨o, s', near_of ?_, ko, st⟩
        rw [p_L_near]
        exact seq_rt (near_1_pass (m := m) (by simp) hk) (seq_rt (near_no2 (m := m) (by simp) hk) e)
      | tup xs => exact absurd rfl (ht _)
      | _ => simp [D.nk] at hk
    · obtain ⟨xs, rfl⟩ : ∃ xs, d = .tup xs := by simpa using ht
      have ne := oNe_nil (nk_cmp hk (by omega))
      obtain ⟨hl, hx⟩ := nk_tup.mp hk
      have kx : ∀ x ∈ xs, x.kl m = true := fun x h => nk_kl x (hx x h)
      -- no way in
      have out : ∀ {s1 : DS}, p_L_near_1 (F_L_near (n + 1)) [.im .st, .im (.tup xs), .un, .un] s = .nx [.im .st, .im (.tup xs), .un, .un] s1 → St s1 (k + 1) → ∃ (o : D) (s' : DS), F_L_near (n + 1 + 1) [.st, .tup xs] s = .ok (.im o) s' ∧ o.kl (2 * m) = true ∧ St s' k := by
        intro s1 e1 st1
        obtain ⟨o, s', e, ko, st⟩ := @near_end s1 (F_L_near (n + 1)) (.tup xs) xs k m (.inl rfl) kx hl hm h2 st1
        refine ⟨o, s', near_of ?_, ko, st⟩
        rw [p_L_near]
        exact seq_rt e1 (seq_rt (near_no2 (m := m) (by simp) hk) e)
      by_cases hx0 : xs = []
      · subst hx0
        refine out (s1 := s) ?_ (hs.less (by omega))
        simp at ne
        simp [p_L_near_1, sizeLine, ne]
      · simp [hx0] at ne
        have hpos : 0 < xs.length := List.length_pos_iff.mpr hx0
        obtain ⟨k2, s2, e2, l2, st2⟩ := L_draw_ok (room := 5) (n := k + 3 * (n + 1) + 2) (hs.less (by omega)) (by decide) (by decide)
        by_cases hk2 : k2 = 0
        · subst hk2
          refine out (s1 := s2) ?_ (st2.less (by omega))
          simp at e2
          simp [p_L_near_1, sizeLine, ne, q_draw, e2]
        · have p2 : 0 < k2 := by omega
          obtain ⟨at_, s3, e3, l3, st3⟩ := L_draw_ok (room := xs.length) (n := k + 3 * (n + 1)) (st2.less (by omega)) (by omega) (by
            rw [Int.natAbs_natCast]
            have : 1000 < 2 ^ 8000 := by decide
            omega)
          have lt : at_ < xs.length := by omega
          have c1 := cut_take xs at_
          have c2 : cutD xs (some ((at_ : Int) + 1)) none = xs.drop (at_ + 1) := cut_drop xs (at_ + 1)
          have len1 : min at_ xs.length = at_ := by omega
          have hat : xs[at_]? = some xs[at_] := List.getElem?_eq_getElem lt
          have mat : xs[at_] ∈ xs := List.getElem_mem lt
          simp only [D.py, PyData.depth] at hd
          simp only [D.py, PyData.depth] at hn
          obtain ⟨o, s5, e5, k5, st5⟩ := ih xs[at_] m k s3 (hx _ mat) (depth_mem (by omega) _ mat) (depth_mem (by omega) _ mat) h2 hm st3
          have ix := oIdx_t hat
          refine ⟨.tup (xs.take at_ ++ o :: xs.drop (at_ + 1)), s5, near_of ?_, ?_, st5⟩
          · have q1 : at_ + 1 ≤ 16777216 := by omega
            have q : at_ + 1 + (xs.length - (at_ + 1)) ≤ 16777216 := by omega
            rw [p_L_near]
            refine seq_st ?_
            generalize xs[at_] = y at ix e5
            simp [p_L_near_1, p_L_near_1t_1, p_L_near_1t_2, sizeLine, ne, q_draw, e2, p2, e3, oSlice, c1, c2, ix, e5, len1, q, q1]
          · refine kl_tup.mpr ⟨by rw [List.length_append, List.length_take, List.length_cons, List.length_drop]; omega, fun x hx' => ?_⟩
            rcases List.mem_append.mp hx' with z | z
            · exact kl_mono (by omega) x (kx x (List.mem_of_mem_take z))
            · rcases List.mem_cons.mp z with rfl | z
              · exact k5
              · exact kl_mono (by omega) x (kx x (List.mem_of_mem_drop z))
end K60

/-! K60L: a lap's drawn fraction: own work. -/
namespace K60
open PySem Ev Ps
open Kit (St)
variable {s : DS}
theorem q_some_number : K60.F_L_some_number = Kit.F_L_some_number := rfl
theorem q_trim : K60.F_L_trim = KP.F_L_trim := rfl
theorem q_is : K60.F_L_is = Kit.F_L_is := rfl
theorem hb_cd {q : Rat} (h : HB 1 12 q) : CD 6 12 q := ⟨by decide, by
  obtain ⟨n, a, b⟩ := HB.rat.mp h
  exact ⟨n, by simpa using a, b⟩⟩
/-- drawn numbers, in any frame -/
theorem draws {i : Nat} (hi : i ≠ 1) : ∀ (xs : List D) (n : Nat) (env : Lo) (s : DS), env[1]? = some (.im .st) → St s (n + 2 * xs.length) →
    ∃ (qs : List Rat) (s' : DS), lcL (.nm i) tYes (eCall F_L_some_number (aCons (eV 1) (aCons (eC (.int 2)) aNil))) env xs s = .ok (qs.map qD) s' ∧ qs.length = xs.length ∧ (∀ q ∈ qs, CD 6 12 q) ∧ St s' n
  | [], n, env, s, _, h => ⟨[], s, rfl, rfl, (fun q hq => by cases hq), h.less (by omega)⟩
  | x :: xs, n, env, s, he, h => by
    obtain ⟨q, s1, e1, b1, st1⟩ := Kit.L_some_number_ok (wide := 2) (by omega) (n := n + 2 * xs.length) (h.less (by rw [List.length_cons]; omega))
    obtain ⟨qs, s2, e2, l2, b2, st2⟩ := draws hi xs n env s1 he st1
    refine ⟨q :: qs, s2, ?_, by rw [List.length_cons, List.length_cons, l2], fun y hy => ?_, st2⟩
    · rw [lcL]
      have g : (env.set i (.im x))[1]? = some (.im .st) := by rw [List.getElem?_set_ne (by omega), he]
      rw [← q_some_number] at e1
      simp at e1
      simp [Tgt.put, g, e1, e2]
    · rcases List.mem_cons.mp hy with rfl | hy
      · exact hb_cd b1
      · exact b2 y hy
/-- drawn numbers, as many as are drawn, without the noughts at the end -/
theorem drawn {room : Nat} (h0 : 0 < room) (h1 : room ≤ 20) {k : Nat} (env : Lo) (he : env[1]? = some (.im .st)) (hw : wipeOk env [10] = true) (h : St s (k + 2 * room + 1)) :
    ∃ (p : List Rat) (s' : DS), eCall F_L_trim (aCons (eLc (iRange1 (pE (eCall F_L_draw (aCons (eV 1) (aCons (eC (.int room)) aNil))))) (.nm 10) tYes (eCall F_L_some_number (aCons (eV 1) (aCons (eC (.int 2)) aNil))) [10]) aNil) env s = .ok (.im (.tup (p.map qD))) s' ∧ p.length < room ∧ (∀ q ∈ p, CD 6 12 q) ∧ Tr p ∧ St s' k := by
  obtain ⟨n, s1, e1, l1, st1⟩ := Kit.L_draw_ok (room := room) (n := k + 2 * room) h (by omega) (by
    rw [Int.natAbs_natCast]
    have : 20 < 2 ^ 8000 := by decide
    omega)
  have lr : (rangeD 0 n).length = n := by unfold rangeD; rw [List.length_map, List.length_range]
  obtain ⟨qs, s2, e2, l2, b2, st2⟩ := draws (i := 10) (by omega) (rangeD 0 n) k (wipeE env [10]) s1 (by
    show (env.set 10 .un)[1]? = _
    rw [List.getElem?_set_ne (by omega), he]) (st1.less (by omega))
  have t := @KP.L_trim_ok s2 qs (by omega) _ (.inr rfl)
  rw [← q_trim] at t
  rw [← q_draw] at e1
  refine ⟨trim qs, s2, ?_, by have := trim_len qs; omega, fun q hq => b2 q (trim_mem q hq), trim_tr _, st2⟩
  have c1 : (n : Int) ≤ 16777216 := by omega
  have c3 : n ≤ 16777216 := by omega
  have c2 : -4611686018427387904 ≤ (n : Int) := by omega
  simp [he, iRange1, sizeLine, e1, c1, c2, c3, lr, hw, Tgt.inn, e2, t]
abbrev E (a0 a2 a3 x4 x5 x6 x7 x8 x9 : Slot) : Lo := [a0, .im .st, a2, a3, x4, x5, x6, x7, x8, x9, .un, .un]
variable (a0 a2 a3 x4 x5 x6 x7 x8 x9 : Slot)
theorem lap1 {k : Nat} (h : St s (k + 11)) : ∃ (u : List Rat) (s' : DS), p_law_3b_1 (E a0 a2 a3 x4 x5 x6 x7 x8 x9) s = .nx (E a0 a2 a3 (.im (.tup (u.map qD))) x5 x6 x7 x8 x9) s' ∧ u.length ≤ 4 ∧ (∀ q ∈ u, CD 6 12 q) ∧ Tr u ∧ St s' k := by
  obtain ⟨p, s', e, l, b, t, st⟩ := drawn (room := 5) (by omega) (by omega) (k := k) (E a0 a2 a3 x4 x5 x6 x7 x8 x9) rfl rfl (h.less (by omega))
  refine ⟨p, s', ?_, by omega, b, t, st⟩
  unfold p_law_3b_1
  rw [sSet_def]
  simp only [show ((5 : Nat) : Int) = 5 from rfl] at e
  rw [e]
  rfl
theorem one_cd : CD 6 12 (1 : Rat) := ⟨by decide, 6, by grind, by decide⟩
theorem tr_cons1 {p : List Rat} (h : Tr p) : Tr (1 :: p) := by
  cases p with
  | nil => simp [Tr]
  | cons x p => simpa [Tr] using h
theorem one_more {room : Nat} (i : Nat) (h0 : 0 < room) (h1 : room ≤ 20) {k : Nat} (env : Lo) (he : env[1]? = some (.im .st)) (hw : wipeOk env [10] = true) (h : St s (k + 2 * room + 1)) :
    ∃ (p : List Rat) (s' : DS), sSet i (e2 oAdd (pE (eTup (aCons (eTup (aCons (eC (.int 1)) (aCons (eC (.int 1)) aNil))) aNil))) (pE (eCall F_L_trim (aCons (eLc (iRange1 (pE (eCall F_L_draw (aCons (eV 1) (aCons (eC (.int room)) aNil))))) (.nm 10) tYes (eCall F_L_some_number (aCons (eV 1) (aCons (eC (.int 2)) aNil))) [10]) aNil)))) env s = .nx (env.set i (.im (.tup ((1 :: p).map qD)))) s' ∧ (1 :: p).length ≤ room ∧ (∀ q ∈ 1 :: p, CD 6 12 q) ∧ Tr (1 :: p) ∧ St s' k := by
  obtain ⟨p, s', e, l, b, t, st⟩ := drawn h0 h1 (k := k) env he hw h
  refine ⟨p, s', ?_, by rw [List.length_cons]; omega, fun q hq => ?_, (tr_cons1 t), st⟩
  · have k1 : 1 + p.length ≤ 16777216 := by omega
    simp only [sSet_def, e2_def, pE_def, eTup_def, aCons_def, aNil_def, eC_def, bind_ok, d_im, e, List.length_cons, List.length_nil, Nat.zero_add, Nat.reduceAdd, sz_1, sz_2, if_true, oAdd_tt, List.length_map, show (1 + p.length ≤ sizeLine) = True from eq_true (big (by omega)), lift_some, out_ok, slot_im]
    rfl
  · rcases List.mem_cons.mp hq with rfl | hq
    · exact one_cd
    · exact b q hq
theorem lap2 {k : Nat} (h : St s (k + 11)) : ∃ (p : List Rat) (s' : DS), p_law_3b_2 (E a0 a2 a3 x4 x5 x6 x7 x8 x9) s = .nx (E a0 a2 a3 x4 (.im (.tup ((1 :: p).map qD))) x6 x7 x8 x9) s' ∧ (1 :: p).length ≤ 5 ∧ (∀ q ∈ 1 :: p, CD 6 12 q) ∧ Tr (1 :: p) ∧ St s' k := one_more (room := 5) 5 (by omega) (by omega) (E a0 a2 a3 x4 x5 x6 x7 x8 x9) rfl rfl (h.less (by omega))
theorem lap3t1 {k : Nat} (h : St s (k + 7)) : ∃ (p : List Rat) (s' : DS), p_law_3b_3t_1 (E a0 a2 a3 x4 x5 x6 x7 x8 x9) s = .nx (E a0 a2 a3 x4 x5 (.im (.tup ((1 :: p).map qD))) x7 x8 x9) s' ∧ (1 :: p).length ≤ 3 ∧ (∀ q ∈ 1 :: p, CD 6 12 q) ∧ Tr (1 :: p) ∧ St s' k := one_more (room := 3) 6 (by omega) (by omega) (E a0 a2 a3 x4 x5 x6 x7 x8 x9) rfl rfl (h.less (by omega))
/-- the drawn fraction's upper and lower -/
structure Fr (u l : List Rat) : Prop where
  cu : ∀ y ∈ u, CD 36 432 y
  cl : ∀ y ∈ l, CD 36 432 y
  tu : Tr u
  tl : Tr l
  lu : u.length ≤ 6
  ll : l.length ≤ 7
  hd : ∃ p, l = 1 :: p
theorem cd_sq6 {q : Rat} (h : CD 6 12 q) : Sq q := h.sq (Nat.lt_of_lt_of_le (show 12 < 2 ^ 4 by decide) (Nat.pow_le_pow_right (by decide) (by decide))) (Nat.lt_of_lt_of_le (show 6 < 2 ^ 4 by decide) (Nat.pow_le_pow_right (by decide) (by decide)))
theorem cd_to36 {q : Rat} (h : CD 6 12 q) : CD 36 432 q := (h.up (e := 6) (by decide)).mono (by decide)
theorem con_mul_at (c : Rat) (f : PS) (n : Nat) : (con c * f).at_ n = c * f.at_ n := by
  rw [mul_at, mulA_con]
theorem mul_cd {dd P : Nat} (hd : 0 < dd) {f : PS} : ∀ (v : List Rat) (n : Nat), (∀ y ∈ v, ∀ i, CD dd P (y * f.at_ i)) → CD dd (P * v.length) ((po v * f).at_ n)
  | [], n, _ => by
    rw [po_nil, mul_at, mulA_zero_l]
    exact CD.mono (N := 0) (CD.zero hd) (Nat.zero_le _)
  | y :: v, n, h => by
    have e : po (y :: v) * f = con y * f + mono 1 1 * (po v * f) := by rw [po_cons]; grind
    have a : ((mono 1 1) * (po v * f)).at_ n = if 1 ≤ n then 1 * (po v * f).at_ (n - 1) else 0 := mono_mul_at 1 1 _ n
    rw [e]
    show CD dd _ ((con y * f).at_ n + (mono 1 1 * (po v * f)).at_ n)
    rw [con_mul_at, a, List.length_cons, Nat.mul_add, Nat.mul_one, Nat.add_comm]
    refine (h y List.mem_cons_self n).add ?_
    split
    · rw [Rat.one_mul]
      exact mul_cd hd v _ fun z hz => h z (List.mem_cons_of_mem _ hz)
    · exact CD.mono (N := 0) (CD.zero hd) (Nat.zero_le _)
theorem tr_mul_len {r u v : List Rat} (t : Tr r) (e : po r = po u * po v) : r.length ≤ u.length + v.length - 1 := by
  by_cases hu : u = []
  · subst hu
    have : r = [] := Tr.zero t (by rw [e, po_nil]; grind)
    subst this
    exact Nat.zero_le _
  · have pu := List.length_pos_iff.mpr hu
    exact Tr.len t fun i hi => by
      rw [e]
      exact Lt.mul u.length _ _ v.length i (Lt.po u) (Lt.po v) (by omega)
/-- times a part -/
theorem by_part {u v : List Rat} (cu : ∀ q ∈ u, CD 6 12 q) (cv : ∀ q ∈ v, CD 6 12 q) (lu : u.length ≤ 5) (lv : v.length ≤ 3) : ∃ r, F_L_poly_times [.tup (u.map qD), .tup (v.map qD)] s = .ok (.im (.tup (r.map qD))) s ∧ Tr r ∧ po r = po u * po v ∧ (∀ y ∈ r, CD 36 432 y) ∧ r.length ≤ u.length + v.length - 1 := by
  have pr : ∀ x ∈ u, ∀ y ∈ v, CD 36 144 (x * y) := fun x hx y hy => (cu x hx).mul (cv y hy)
  have b1 : 144 * v.length * u.length < BN := by
    have : 144 * v.length * u.length ≤ 144 * 3 * 5 := Nat.mul_le_mul (Nat.mul_le_mul (Nat.le_refl _) lv) lu
    exact Nat.lt_of_le_of_lt this (by decide +kernel)
  obtain ⟨r, e, t, p, c⟩ := @KP.L_poly_times_ok s 36 144 u v (by decide) pr (fun y hy => cd_sq6 (cu y hy)) (fun y hy => cd_sq6 (cv y hy)) (by omega) (by omega) b1 (by decide +kernel)
  refine ⟨r, by rw [q_poly_times]; exact e, t, p, fun y hy => ?_, tr_mul_len t p⟩
  refine all_at (P := fun y => CD 36 432 y) (fun i => ?_) y hy
  have p' : po r = po v * po u := by rw [p, mul_comm']
  rw [p']
  refine (mul_cd (dd := 36) (P := 144) (by decide) v i fun y hy j => ?_).mono (by omega)
  refine at_all (P := fun z => CD 36 144 (y * z)) (fun x hx => by rw [Rat.mul_comm]; exact pr x hx y hy) ?_ j
  rw [Rat.mul_zero]
  exact CD.zero (by decide)
theorem po_mul0 (u v : List Rat) : (po u * po v).at_ 0 = (po u).at_ 0 * (po v).at_ 0 := rfl
theorem lap3 {u p : List Rat} {k : Nat} (cu : ∀ q ∈ u, CD 6 12 q) (cl : ∀ q ∈ 1 :: p, CD 6 12 q) (tu : Tr u) (tl : Tr (1 :: p)) (lu : u.length ≤ 4) (ll : (1 :: p).length ≤ 5) (h : St s (k + 8)) : ∃ (u' l' : List Rat) (y6 : Slot) (s' : DS), p_law_3b_3 (E a0 a2 a3 (.im (.tup (u.map qD))) (.im (.tup ((1 :: p).map qD))) x6 x7 x8 x9) s = .nx (E a0 a2 a3 (.im (.tup (u'.map qD))) (.im (.tup (l'.map qD))) y6 x7 x8 x9) s' ∧ Fr u' l' ∧ St s' k := by
  obtain ⟨n, s1, e1, l1, st1⟩ := Kit.L_draw_ok (room := 3) (n := k + 7) h (by decide) (by decide)
  rw [← q_draw] at e1
  by_cases hn : n = 0
  · subst hn
    obtain ⟨v, s2, e2, lv, cv, tv, st2⟩ := @lap3t1 s1 a0 a2 a3 (.im (.tup (u.map qD))) (.im (.tup ((1 :: p).map qD))) x6 x7 x8 x9 k st1
    obtain ⟨r, er, tr, pr, cr, lr⟩ := @by_part s2 u (1 :: v) cu cv (by omega) lv
    obtain ⟨q, eq, tq, pq, cq, lq⟩ := @by_part s2 (1 :: p) (1 :: v) cl cv ll lv
    have hq : ∃ z, q = 1 :: z := by
      have h0 : (po q).at_ 0 = 1 := by
        rw [pq, po_mul0]
        show (1 : Rat) * 1 = 1
        grind
      cases q with
      | nil => rw [po_nil] at h0; exact absurd h0 (by decide)
      | cons x z =>
        have : x = 1 := h0
        exact ⟨z, by rw [this]⟩
    refine ⟨r, q, .im (.tup ((1 :: v).map qD)), s2, ?_, ⟨cr, cq, tr, tq, by omega, by omega, hq⟩, st2⟩
    have f : (RV.im (.tup (r.map qD))).flat = true := KP.qs_flat r
    unfold p_law_3b_3
    simp only [sIf_def, tCmp_def, pE_def, eCall_def, aCons_def, aNil_def, eV_def, eC_def, List.getElem?_cons_zero, List.getElem?_cons_succ, bind_ok, d_im, e1]
    rw [show oEq (.int ((0 : Nat) : Int)) (.int 0) = some true from rfl, lift_some, out_ok]
    simp only [if_true]
    refine seq_rt e2 ?_
    unfold p_law_3b_3t_2
    generalize u.map qD = U at *
    generalize (1 :: p).map qD = L at *
    generalize (1 :: v).map qD = V at *
    generalize r.map qD = R at *
    generalize q.map qD = Q at *
    simp only [sPar_def, eCall_def, aCons_def, aNil_def, eV_def, List.getElem?_cons_zero, List.getElem?_cons_succ, bind_ok, d_im, er, eq, out_ok]
    rfl
  · have nz : oEq (.int (n : Int)) (.int 0) = some false := by
      rw [Kit.oEq_i0]
      congr 1
      exact decide_eq_false (by omega)
    refine ⟨u, 1 :: p, x6, s1, ?_, ⟨fun y hy => cd_to36 (cu y hy), fun y hy => cd_to36 (cl y hy), tu, tl, by omega, by omega, ⟨p, rfl⟩⟩, st1.less (by omega)⟩
    unfold p_law_3b_3
    simp only [sIf_def, tCmp_def, pE_def, eCall_def, aCons_def, aNil_def, eV_def, eC_def, List.getElem?_cons_zero, List.getElem?_cons_succ, bind_ok, d_im, e1, nz, lift_some, out_ok]
    rfl
end K60

/-! K60M: a lap's cofactors: own work. -/
namespace K60
open PySem Ev Ps
open Kit (St)
variable {s : DS}
theorem L_plain_int (n : Nat) (i : Int) : F_L_plain (n + 1) [.int i] s = .ok (.im (.bl true)) s := by
  rw [F_L_plain]
  simp [b_L_plain]
theorem L_plain_tup (n : Nat) {xs : List D} (l : xs.length ≤ 10000) (h : ∀ x ∈ xs, F_L_plain n [x] s = .ok (.im (.bl true)) s) : F_L_plain (n + 1) [.tup xs] s = .ok (.im (.bl true)) s := by
  have lc : ∀ a : Slot, lcL (.nm 1) (tNot (tVal (pE (eCall (F_L_plain n) (aCons (eV 1) aNil))))) (eC (.int 1)) [a, .un] xs s = .ok [] s := fun a => Kit.lcL_none fun x hx => ⟨[a, .im x], rfl, by simp [h x hx]⟩
  have l2 : xs.length ≤ 16777216 := by omega
  rw [F_L_plain]
  simp [b_L_plain, l2, wipeOk, wipeE, Tgt.inn, lc, sizeLine, Kit.oEq_nil]
theorem L_plain_q (n : Nat) (q : Rat) : F_L_plain (n + 2) [qD q] s = .ok (.im (.bl true)) s := L_plain_tup (n + 1) (by show 2 ≤ 10000; decide) fun x hx => by
  simp only [List.mem_cons, List.not_mem_nil, or_false] at hx
  rcases hx with rfl | rfl <;> exact L_plain_int n _
theorem L_plain_qs (n : Nat) {p : List Rat} (l : p.length ≤ 10000) : F_L_plain (n + 3) [.tup (p.map qD)] s = .ok (.im (.bl true)) s := L_plain_tup (n + 2) (by rw [List.length_map]; exact l) fun x hx => by
  obtain ⟨q, _, rfl⟩ := List.mem_map.mp hx
  exact L_plain_q n q
theorem L_is_no_q {q : Rat} (h : q.den < 2 ^ 9000) : F_L_is_no [qD q] s = .ok (.im (.bl true)) s := by
  have gc := @Kit.L_common_ok s q.num q.den h
  rw [show Nat.gcd q.num.natAbs (q.den : Int).natAbs = 1 from q.reduced, ← q_L_common] at gc
  have d0 : (0 : Int) < q.den := by have := q.den_pos; omega
  have on := @oNe_one [] (by decide)
  simp at on gc
  show F_L_is_no [.tup [.int q.num, .int q.den]] s = _
  generalize (q.den : Int) = d at *
  simp [F_L_is_no, b_L_is_no, Kit.idx0, Kit.idx1, wipeOk, wipeE, Tgt.inn, sizeLine, lcL, Tgt.put, on, d0, gc]
theorem L_is_poly_q {p : List Rat} (t : Tr p) (h : ∀ y ∈ p, y.den < 2 ^ 9000) (l : p.length ≤ 10000) : F_L_is_poly [.tup (p.map qD)] s = .ok (.im (.bl true)) s := by
  have l2 : (p.map qD).length ≤ 16777216 := by rw [List.length_map]; omega
  have lc : ∀ a, lcL (.nm 1) (tNot (tVal (pE (eCall F_L_is_no (aCons (eV 1) aNil))))) (eC (.int 1)) [a, .un] (p.map qD) s = .ok [] s := fun a => Kit.lcL_none fun x hx => ⟨[a, .im x], rfl, by
    obtain ⟨q, hq, rfl⟩ := List.mem_map.mp hx
    simp [L_is_no_q (h q hq)]⟩
  have on := @oNe_one [] (by decide)
  simp at on
  have z := oEq_tnil p
  by_cases hp : p = []
  · subst hp
    simp at z lc
    simp [F_L_is_poly, b_L_is_poly, wipeOk, wipeE, Tgt.inn, sizeLine, lc, on, z]
  · have hl := List.getLast?_eq_some_getLast hp
    generalize p.getLast hp = c at hl
    have ix := (oIdx_last (xs := p.map qD) (d := qD c) (by rw [List.getLast?_map, hl]; rfl)).2
    have i0 : oIdx (qD c) (.int 0) = some (.int c.num) := Kit.idx0 _ _
    have nz : c.num ≠ 0 := fun z => t (by rw [hl, Rat.num_eq_zero.mp z])
    simp [hp] at z
    generalize p.map qD = P at *
    simp [F_L_is_poly, b_L_is_poly, l2, wipeOk, wipeE, Tgt.inn, sizeLine, lc, on, z, ix, i0, nz]
theorem oEq_one_poly {g : List Rat} (hl : g.getLast? = some 1) : oEq (.tup (g.map qD)) (.tup [.tup [.int 1, .int 1]]) = some (decide (g.length = 1)) := by
  have c1 := (qs_cmp g).2
  have c2 : (D.tup [.tup [.int 1, .int 1]]).cmp = true := (qs_cmp [1]).2
  unfold oEq
  rw [c1, c2]
  simp only [Bool.and_self, if_true]
  congr 1
  match g, hl with
  | [x], hl =>
    have : x = 1 := by simpa using hl
    subst this
    rfl
  | x :: y :: t, _ =>
    simp [D.py, D.py.pyAll, PyData.eqv, PyData.eqvAll]
theorem oNe_one_poly {g : List Rat} (hl : g.getLast? = some 1) : oNe (.tup (g.map qD)) (.tup [.tup [.int 1, .int 1]]) = some (!decide (g.length = 1)) := by
  unfold oNe
  rw [oEq_one_poly hl]
  rfl
theorem seq_same {a b : Stm} {e : Lo} {s : DS} {o : Out} (h1 : a e s = .nx e s) (h2 : b e s = o) : (sSeq a b) e s = o := by
  rw [sSeq_def, h1]
  exact h2
theorem oNe_bb (a b : Bool) : oNe (.bl a) (.bl b) = some (!(a == b)) := by cases a <;> cases b <;> rfl
abbrev frD (u l : List Rat) : D := .tup [.str "fraction", .tup (u.map qD), .tup (l.map qD)]
theorem cd_sz100 {q : Rat} (h : CD 36 432 q) : Sz 100 q := h.sz (n := 100) (by decide) (by decide)
theorem Sz_up {n m : Nat} {q : Rat} (h : Sz n q) (l : n ≤ m) : Sz m q := ⟨Nat.lt_of_lt_of_le h.1 (Nat.pow_le_pow_right (by decide) l), Nat.lt_of_lt_of_le h.2 (Nat.pow_le_pow_right (by decide) l)⟩
theorem poly_kn {p : List Rat} (h : ∀ y ∈ p, CD 36 432 y) (l : p.length ≤ 10) : (D.tup (p.map qD)).kn = true := Kit.nums_kn (fun q hq => Sz_up (cd_sz100 (h q hq)) (by omega)) (by
  have : 10 < 2 ^ 20 := by decide
  omega)
theorem poly_nk {p : List Rat} (h : ∀ y ∈ p, CD 36 432 y) (l : p.length ≤ 8) : (D.tup (p.map qD)).nk 8 = true := nk_tup.mpr ⟨by rw [List.length_map]; exact l, fun x hx => by
  obtain ⟨q, hq, rfl⟩ := List.mem_map.mp hx
  have z := cd_sz100 (h q hq)
  refine nk_tup.mpr ⟨by show 2 ≤ 8; decide, fun y hy => ?_⟩
  simp only [List.mem_cons, List.not_mem_nil, or_false] at hy
  rcases hy with rfl | rfl
  · simpa [D.nk] using z.1
  · simpa [D.nk] using z.2⟩
theorem fr_str : PyData.strOk ("fraction" : Str) = true := strOk_of _
theorem Fr.kn {u l : List Rat} (f : Fr u l) : (frD u l).kn = true := by
  have a := poly_kn f.cu (by have := f.lu; omega)
  have b := poly_kn f.cl (by have := f.ll; omega)
  have c := fr_str
  unfold frD
  generalize D.tup (u.map qD) = U at *
  generalize D.tup (l.map qD) = L at *
  simp [D.kn, knAll, a, b, c]
theorem Fr.nk {u l : List Rat} (f : Fr u l) : (frD u l).nk 8 = true := by
  have a := poly_nk f.cu (by have := f.lu; omega)
  have b := poly_nk f.cl (by have := f.ll; omega)
  have c := fr_str
  refine nk_tup.mpr ⟨by show 3 ≤ 8; decide, fun y hy => ?_⟩
  simp only [List.mem_cons, List.not_mem_nil, or_false] at hy
  rcases hy with rfl | rfl | rfl
  · simpa [D.nk] using c
  · exact a
  · exact b
theorem Fr.frac {u l : List Rat} (f : Fr u l) : isFrac (frD u l) = true := by
  obtain ⟨p, rfl⟩ := f.hd
  have a := (isPol_q u).mpr f.tu
  have b := (isPol_q (1 :: p)).mpr f.tl
  have c := headOne_q 1 p
  have l1 : lenT (.tup (u.map qD)) = u.length := List.length_map _
  have l2 : lenT (.tup ((1 :: p).map qD)) = (1 :: p).length := List.length_map _
  have := f.lu
  have := f.ll
  simp only [isFrac, a, b, c, l1, l2, decide_true, Bool.true_and, Bool.and_eq_true, decide_eq_true_eq]
  omega
theorem Fr.ne {u l : List Rat} (f : Fr u l) : l ≠ [] := by
  obtain ⟨p, rfl⟩ := f.hd
  simp
variable (a0 a2 a3 x4 x5 x6 x7 x8 x9 : Slot)
theorem lap4 (U L : D) : p_law_3b_4 (E a0 a2 a3 (.im U) (.im L) x6 x7 x8 x9) s = .nx (E a0 a2 a3 (.im U) (.im L) x6 (.im (.tup [.str "fraction", U, L])) x8 x9) s := by
  unfold p_law_3b_4
  simp
/-- what is told of cofactors is right -/
theorem lap567 {u l : List Rat} (f : Fr u l) (r : Stm) : ∃ y8, (sSeq (sSet 8 (eCall F_cofactors (aCons (eV 7) aNil))) (sSeq p_law_3b_6 (sSeq p_law_3b_7 r))) (E a0 a2 a3 (.im (.tup (u.map qD))) (.im (.tup (l.map qD))) x6 (.im (frD u l)) x8 x9) s = r (E a0 a2 a3 (.im (.tup (u.map qD))) (.im (.tup (l.map qD))) x6 (.im (frD u l)) (.im y8) x9) s := by
  obtain ⟨g, A, B, g0, L, K, e, tA, tB, hp, hl, eu, lg, last, tg, L0, b1, b2, cA, cB, lA, lB⟩ := @KP.cof_ok s u l f.cu f.cl f.tu f.tl f.lu f.ll f.ne
  obtain ⟨g', g0', e', eu', lg'⟩ := @KP.com_ok s u l f.cu f.cl f.tu f.tl f.lu f.ll f.ne
  have gg : g'.length = g.length := by rw [lg', lg, eu.one eu']
  have on := oNe_one_poly last
  have co := cofactors_ok (s := s) f.kn f.frac e on
  have g1 : 1 ≤ g.length := by
    cases g with
    | nil => simp at last
    | cons => simp
  rw [← q_poly_common] at e'
  refine ⟨if g.length = 1 then .tup [.tup (A.map qD), .tup (B.map qD)] else .non, seq_rt (e' := E a0 a2 a3 (.im (.tup (u.map qD))) (.im (.tup (l.map qD))) x6 (.im (frD u l)) (.im (if g.length = 1 then .tup [.tup (A.map qD), .tup (B.map qD)] else .non)) x9) (s' := s) ?_ ?_⟩
  · simp only [sSet_def, eCall_def, aCons_def, aNil_def, eV_def, List.getElem?_cons_zero, List.getElem?_cons_succ, bind_ok, d_im, co, out_ok, slot_im, List.set_cons_succ, List.set_cons_zero]
  · by_cases h1 : g.length = 1
    · rw [if_pos h1]
      have hg : g = [1] := by
        match g, h1, last with
        | [x], _, last =>
          have : x = 1 := by simpa using last
          rw [this]
      have w : oLenR (.tup (g'.map qD)) = some (.im (.int 1)) := by rw [oLenR_t, List.length_map, gg, h1]; rfl
      refine seq_same (a := p_law_3b_6) ?_ ?_
      · unfold p_law_3b_6
        generalize D.tup (A.map qD) = PA at *
        generalize D.tup (B.map qD) = PB at *
        generalize D.tup (u.map qD) = U at *
        generalize D.tup (l.map qD) = LL at *
        generalize D.tup (g'.map qD) = G at *
        simp only [sIf_def, tCmp_def, pE_def, eT_def, tIsN_def, pV_def, e1_def, eCall_def, aCons_def, aNil_def, eV_def, eC_def, List.getElem?_cons_zero, List.getElem?_cons_succ, bind_ok, d_im, e', w, lift_some, isNon_tup, oGt_ii, oNe_bb, out_ok]
        rfl
      · refine seq_same (a := p_law_3b_7) ?_ rfl
        have BD9 : BD ≤ 2 ^ 9000 := Nat.pow_le_pow_right (by decide) (by decide)
        have K0 : K < BN := Nat.lt_of_le_of_lt (Nat.le_mul_of_pos_right K (by decide)) b2
        have LD : L < BD := by omega
        have L36 : L * 36 < BD := by omega
        have sA : ∀ y ∈ A, Sq y := fun y hy => (cA y hy).sq K0 LD
        have sB : ∀ y ∈ B, Sq y := fun y hy => (cB y hy).sq K0 LD
        have s36 : ∀ y, CD 36 432 y → Sq y := fun y hy => hy.sq (by decide +kernel) (by decide +kernel)
        have pA := @L_is_poly_q s A tA (fun y hy => Nat.lt_of_lt_of_le (sA y hy).2 BD9) (by omega)
        have pB := @L_is_poly_q s B tB (fun y hy => Nat.lt_of_lt_of_le (sB y hy).2 BD9) (by omega)
        have k1 : K * 432 * u.length * A.length < BN := by
          have : K * 432 * u.length * A.length ≤ K * 432 * 6 * 200 := Nat.mul_le_mul (Nat.mul_le_mul (Nat.le_refl _) f.lu) lA
          have : K * 432 * 6 * 200 ≤ K * 2 ^ 20 := by omega
          omega
        have k2 : K * 432 * l.length * B.length < BN := by
          have : K * 432 * l.length * B.length ≤ K * 432 * 7 * 200 := Nat.mul_le_mul (Nat.mul_le_mul (Nat.le_refl _) f.ll) lB
          have : K * 432 * 7 * 200 ≤ K * 2 ^ 20 := by omega
          omega
        have lu := f.lu
        have ll := f.ll
        obtain ⟨m1, em1, tm1, pm1, cm1⟩ := @KP.L_poly_times_ok s (L * 36) (K * 432) A u (by omega) (fun x hx y hy => (cA x hx).mul (f.cu y hy)) sA (fun y hy => s36 y (f.cu y hy)) (by omega) (by omega) k1 L36
        obtain ⟨m2, em2, tm2, pm2, cm2⟩ := @KP.L_poly_times_ok s (L * 36) (K * 432) B l (by omega) (fun x hx y hy => (cB x hx).mul (f.cl y hy)) sB (fun y hy => s36 y (f.cl y hy)) (by omega) (by omega) k2 L36
        have n1 := tr_mul_len tm1 pm1
        have n2 := tr_mul_len tm2 pm2
        obtain ⟨m3, em3, tm3, pm3⟩ := @KP.L_poly_plus_ok s m1 m2 (fun y hy => (cm1 y hy).sq k1 L36) (fun y hy => (cm2 y hy).sq k2 L36) (by omega) (by omega)
        have h3 : m3 = [1] := Tr.ext tm3 KP.Tr.one (by rw [pm3, pm1, pm2, hp, hg])
        subst h3
        have lt : A.length < l.length := by omega
        have q0 := @L_plain_qs s 96 A (by omega)
        have q1 := @L_plain_qs s 96 B (by omega)
        have qp := @L_plain_tup s 99 [.tup (A.map qD), .tup (B.map qD)] (by show 2 ≤ 10000; decide) (fun x hx => by
          simp only [List.mem_cons, List.not_mem_nil, or_false] at hx
          rcases hx with rfl | rfl
          · exact q0
          · exact q1)
        have wA : oLenR (.tup (A.map qD)) = some (.im (.int A.length)) := by rw [oLenR_t, List.length_map]
        have wl : oLenR (.tup (l.map qD)) = some (.im (.int l.length)) := by rw [oLenR_t, List.length_map]
        have ne1 : oNe (.tup ([1].map qD)) (.tup [.tup [.int 1, .int 1]]) = some false := oNe_one_poly rfl
        rw [← q_poly_times] at em1 em2
        rw [← q_poly_plus] at em3
        have i0 := fun a b => Kit.idx0 (a : D) b
        have i1 := fun a b => Kit.idx1 (a : D) b
        have ge : oGe (.int (A.length : Int)) (.int (l.length : Int)) = some false := by
          rw [oGe_ii]
          congr 1
          exact decide_eq_false (by omega)
        have o1 : qD 1 = .tup [.int 1, .int 1] := rfl
        rw [o1] at em3
        generalize D.tup (A.map qD) = PA at *
        generalize D.tup (B.map qD) = PB at *
        generalize D.tup (u.map qD) = U at *
        generalize D.tup (l.map qD) = LL at *
        generalize D.tup (m1.map qD) = M1 at *
        generalize D.tup (m2.map qD) = M2 at *
        generalize D.tup (([1] : List Rat).map qD) = M3 at *
        unfold p_law_3b_7
        simp only [sIf_def, tNot_def, tIsN_def, pV_def, List.getElem?_cons_zero, List.getElem?_cons_succ, bind_ok, isNon_tup, Bool.not_false, out_ok, if_true]
        refine seq_same (a := p_law_3b_7t_1) ?_ ?_
        · unfold p_law_3b_7t_1
          simp only [sIf_def, tOr_def, tNot_def, tVal_def, tCmp_def, pE_def, pV_def, e1_def, eIdx_def, eCall_def, aCons_def, aNil_def, eV_def, eC_def, List.getElem?_cons_zero, List.getElem?_cons_succ, bind_ok, d_im, qp, lift_some, truth_b, Bool.not_true, oLenR_t, List.length_cons, List.length_nil, Nat.zero_add, Nat.reduceAdd, oNe_ii, i0, i1, Option.map_some, pA, pB, wA, wl, ge, out_ok, Int.cast_ofNat_Int, decide_true, if_false, Bool.false_eq_true]
          rfl
        · unfold p_law_3b_7t_2
          simp only [sIf_def, tCmp_def, pE_def, pV_def, eTup_def, eIdx_def, eCall_def, aCons_def, aNil_def, eV_def, eC_def, List.getElem?_cons_zero, List.getElem?_cons_succ, bind_ok, d_im, lift_some, i0, i1, Option.map_some, em1, em2, List.length_cons, List.length_nil, Nat.zero_add, Nat.reduceAdd, sz_1, sz_2, if_true, em3, ne1, out_ok, Bool.false_eq_true, if_false]
          rfl
    · rw [if_neg h1]
      have w : oLenR (.tup (g'.map qD)) = some (.im (.int g.length)) := by rw [oLenR_t, List.length_map, gg]
      have gt : oGt (.int (g.length : Int)) (.int 1) = some true := by
        rw [oGt_ii]
        congr 1
        exact decide_eq_true (by omega)
      generalize D.tup (u.map qD) = U at *
      generalize D.tup (l.map qD) = LL at *
      generalize D.tup (g'.map qD) = G at *
      refine seq_same (a := p_law_3b_6) ?_ ?_
      · unfold p_law_3b_6
        simp only [sIf_def, tCmp_def, pE_def, eT_def, tIsN_def, pV_def, e1_def, eCall_def, aCons_def, aNil_def, eV_def, eC_def, List.getElem?_cons_zero, List.getElem?_cons_succ, bind_ok, d_im, e', w, gt, lift_some, isNon_non, oNe_bb, out_ok]
        rfl
      · refine seq_same (a := p_law_3b_7) ?_ rfl
        unfold p_law_3b_7
        simp only [sIf_def, tNot_def, tIsN_def, pV_def, List.getElem?_cons_zero, List.getElem?_cons_succ, bind_ok, isNon_non, Bool.not_true, out_ok, Bool.false_eq_true, if_false]
        rfl
end K60

/-! K60U: the law answers true: own work. -/
namespace K60
open PySem Ev Ps
open Kit (St)
variable {s : DS}
theorem kn_mk {xs : List D} (l : xs.length < 1000) (h : ∀ x ∈ xs, x.kn = true) : (D.tup xs).kn = true ∧ (D.lst xs).kn = true := by
  have a := knAll_mem.mpr h
  have b : decide (xs.length < 2 ^ 20) = true := decide_eq_true (by
    have : 1000 < 2 ^ 20 := by decide
    omega)
  simp only [D.kn, a, b, Bool.and_self, and_self]
theorem qs_depth : ∀ p : List Rat, PyData.depthAll (D.py.pyAll (p.map qD)) ≤ 1
  | [] => by decide
  | q :: p => by
    have := qs_depth p
    simp only [List.map_cons, D.py.pyAll, PyData.depthAll, qD, D.py, PyData.depth]
    omega
theorem fr_depth (u l : List Rat) : (frD u l).py.depth ≤ 3 := by
  have a := qs_depth u
  have b := qs_depth l
  simp only [frD, D.py, D.py.pyAll, PyData.depthAll, PyData.depth] at a b ⊢
  omega
variable (a0 a2 a3 x4 x5 x6 x7 x8 x9 : Slot)
theorem nears {u l : List Rat} (f : Fr u l) : ∀ (xs : List D) (n : Nat) (env : Lo) (s : DS), env[1]? = some (.im .st) → env[7]? = some (.im (frD u l)) → St s (n + 300 * xs.length) →
    ∃ (ds : List D) (s' : DS), lcL (.nm 11) tYes (eCall (F_L_near 100) (aCons (eV 1) (aCons (eV 7) aNil))) env xs s = .ok ds s' ∧ ds.length = xs.length ∧ (∀ d ∈ ds, d.kn = true) ∧ St s' n
  | [], n, env, s, _, _, h => ⟨[], s, rfl, rfl, (fun q hq => by cases hq), h.less (by omega)⟩
  | x :: xs, n, env, s, he, h7, h => by
    have dp := fr_depth u l
    obtain ⟨o, s1, e1, b1, st1⟩ := near_ok 99 (frD u l) 8 (n + 300 * xs.length) s f.nk (by omega) (by omega) (by omega) (by omega) (h.less (by rw [List.length_cons]; omega))
    obtain ⟨ds, s2, e2, l2, b2, st2⟩ := nears f xs n env s1 he h7 st1
    refine ⟨o :: ds, s2, ?_, by rw [List.length_cons, List.length_cons, l2], fun y hy => ?_, st2⟩
    · rw [lcL]
      have g : (env.set 11 (.im x))[1]? = some (.im .st) := by rw [List.getElem?_set_ne (by omega), he]
      have g7 : (env.set 11 (.im x))[7]? = some (.im (frD u l)) := by rw [List.getElem?_set_ne (by omega), h7]
      generalize frD u l = F at *
      simp only [Tgt.put, tYes_def, eCall_def, aCons_def, aNil_def, eV_def, g, g7, bind_ok, d_im, e1, e2]
    · rcases List.mem_cons.mp hy with rfl | hy
      · exact kl_kn (by omega) _ b1
      · exact b2 y hy
theorem is_bl (b : Bool) : F_L_is [.bl b, .bl b] s = .ok (.im (.bl true)) s := by
  rw [q_is]
  exact Kit.L_is_ok (d := .bl b) rfl (by cases b <;> decide) (by show 5 ≤ sizeLine; decide)
theorem loop9 : ∀ (vs : List D) (x9 : Slot), (∀ v ∈ vs, v.kn = true) → ∃ y9, forL (.nm 9) p_law_3b_8b_1 vs (E a0 a2 a3 x4 x5 x6 x7 x8 x9) s = .nx (E a0 a2 a3 x4 x5 x6 x7 x8 y9) s
  | [], x9, _ => ⟨x9, rfl⟩
  | v :: vs, x9, h => by
    have a := @is_fraction_ok s v (h v List.mem_cons_self)
    have b := @L_is_fraction_ok s v (h v List.mem_cons_self)
    have c := @is_bl s (isFrac v)
    obtain ⟨y9, e⟩ := loop9 vs (.im v) (fun w hw => h w (List.mem_cons_of_mem _ hw))
    refine ⟨y9, ?_⟩
    rw [forL]
    have z : p_law_3b_8b_1 (E a0 a2 a3 x4 x5 x6 x7 x8 (.im v)) s = .nx (E a0 a2 a3 x4 x5 x6 x7 x8 (.im v)) s := by
      unfold p_law_3b_8b_1
      simp only [sIf_def, tNot_def, tVal_def, pE_def, eCall_def, aCons_def, aNil_def, eV_def, List.getElem?_cons_zero, List.getElem?_cons_succ, bind_ok, d_im, a, b, c, lift_some, truth_b, Bool.not_true, out_ok, Bool.false_eq_true, if_false]
      rfl
    simp only [Tgt.put, List.set_cons_succ, List.set_cons_zero, z]
    exact e
theorem lap8 {u l : List Rat} {k : Nat} (f : Fr u l) (h : St s (k + 2400)) : ∃ (y9 : Slot) (s' : DS), p_law_3b_8 (E a0 a2 a3 (.im (.tup (u.map qD))) (.im (.tup (l.map qD))) x6 (.im (frD u l)) x8 x9) s = .nx (E a0 a2 a3 (.im (.tup (u.map qD))) (.im (.tup (l.map qD))) x6 (.im (frD u l)) x8 y9) s' ∧ St s' k := by
  obtain ⟨ds, s', e, ld, kd, st⟩ := nears f (rangeD 0 8) k (E a0 a2 a3 (.im (.tup (u.map qD))) (.im (.tup (l.map qD))) x6 (.im (frD u l)) x8 x9) s rfl rfl (h.less (by
    rw [show (rangeD 0 8).length = 8 from rfl]
    omega))
  have ld : ds.length = 8 := ld
  have kU := poly_kn f.cu (by have := f.lu; omega)
  have kL := poly_kn f.cl (by have := f.ll; omega)
  have kU1 : (D.tup (u.map qD ++ [.tup [.int 0, .int 1]])).kn = true := by
    obtain ⟨a, b⟩ := kn_tup kU
    refine (kn_mk (by rw [List.length_append, List.length_map]; have := f.lu; simp; omega) fun x hx => ?_).1
    rcases List.mem_append.mp hx with z | z
    · exact b x z
    · rw [List.mem_singleton.mp z]
      decide +kernel
  have lu1 : (u.map qD).length + 1 ≤ sizeLine := by rw [List.length_map]; have := f.lu; exact big (by omega)
  have ks : (D.str ("fraction" : Str)).kn = true := by simp only [D.kn]; exact fr_str
  have kn0 : (D.tup []).kn = true := by decide +kernel
  have kl0 : (D.int 0).kn = true := by decide +kernel
  have all : ∀ v ∈ [D.tup [.str "fraction", .tup (u.map qD), .tup (l.map qD)], .tup [.str "fraction", .tup (u.map qD)], .lst [.str "fraction", .tup (u.map qD), .tup (l.map qD)], .tup [.str "fraction", .tup (u.map qD), .tup (l.map qD), .tup []], .tup [.str "fraction", .tup (l.map qD), .tup (u.map qD)], .tup [.str "fraction", .tup (u.map qD ++ [.tup [.int 0, .int 1]]), .tup (l.map qD)]] ++ ds, v.kn = true := fun v hv => by
    rcases List.mem_append.mp hv with hv | hv
    · generalize D.tup (u.map qD) = U at *
      generalize D.tup (l.map qD) = L at *
      generalize D.tup (u.map qD ++ [.tup [.int 0, .int 1]]) = U1 at *
      generalize D.str ("fraction" : Str) = F at *
      simp only [List.mem_cons, List.not_mem_nil, or_false] at hv
      rcases hv with rfl | rfl | rfl | rfl | rfl | rfl
      all_goals simp [D.kn, knAll, kU, kL, kU1, ks]
    · exact kd v hv
  obtain ⟨y9, e9⟩ := @loop9 s' a0 a2 a3 (.im (.tup (u.map qD))) (.im (.tup (l.map qD))) x6 (.im (frD u l)) x8 _ x9 all
  refine ⟨y9, s', ?_, st⟩
  unfold p_law_3b_8
  rw [sFor_def]
  have r8 : iRange1 (pE (eC (.int 8))) (E a0 a2 a3 (.im (.tup (u.map qD))) (.im (.tup (l.map qD))) x6 (.im (frD u l)) x8 x9) s = .ok (rangeD 0 8) s := by
    unfold iRange1
    simp only [pE_def, eC_def, bind_ok, d_im]
    rw [if_pos ⟨by decide, by decide⟩]
    rfl
  have c2 : cutD [D.str ("fraction" : Str), .tup (u.map qD), .tup (l.map qD)] none (some 2) = [D.str "fraction", .tup (u.map qD)] := Kit.cut_take _ 2
  have cells : (rangeD 0 8).length ≤ sizeLine ∧ wipeOk (E a0 a2 a3 (.im (.tup (u.map qD))) (.im (.tup (l.map qD))) x6 (.im (frD u l)) x8 x9) [11] = true ∧ (Tgt.nm 11).inn [11] = true := ⟨by decide, rfl, rfl⟩
  have wp : wipeE (E a0 a2 a3 (.im (.tup (u.map qD))) (.im (.tup (l.map qD))) x6 (.im (frD u l)) x8 x9) [11] = E a0 a2 a3 (.im (.tup (u.map qD))) (.im (.tup (l.map qD))) x6 (.im (frD u l)) x8 x9 := rfl
  have tot : 6 + ds.length ≤ sizeLine := by rw [ld]; decide
  have lu2 : ((u.map qD).length + 1 ≤ sizeLine) = True := eq_true lu1
  have it : iP (e2 oAdd (pE (eLst (aCons (eV 7) (aCons (eSl (pV 7) none (some (pE (eC (.int 2))))) (aCons (e1 oList (pV 7)) (aCons (e2 oAdd (pV 7) (pE (eTup (aCons (eTup aNil) aNil)))) (aCons (eTup (aCons (eC (.str "fraction")) (aCons (eV 5) (aCons (eV 4) aNil)))) (aCons (eTup (aCons (eC (.str "fraction")) (aCons (e2 oAdd (pV 4) (pE (eTup (aCons (eTup (aCons (eC (.int 0)) (aCons (eC (.int 1)) aNil))) aNil)))) (aCons (eV 5) aNil)))) aNil)))))))) (pE (eLc (iRange1 (pE (eC (.int 8)))) (.nm 11) tYes (eCall (F_L_near 100) (aCons (eV 1) (aCons (eV 7) aNil))) [11]))) (E a0 a2 a3 (.im (.tup (u.map qD))) (.im (.tup (l.map qD))) x6 (.im (frD u l)) x8 x9) s = .ok ([D.tup [.str "fraction", .tup (u.map qD), .tup (l.map qD)], .tup [.str "fraction", .tup (u.map qD)], .lst [.str "fraction", .tup (u.map qD), .tup (l.map qD)], .tup [.str "fraction", .tup (u.map qD), .tup (l.map qD), .tup []], .tup [.str "fraction", .tup (l.map qD), .tup (u.map qD)], .tup [.str "fraction", .tup (u.map qD ++ [.tup [.int 0, .int 1]]), .tup (l.map qD)]] ++ ds) s' := by
    simp only [frD] at *
    generalize u.map qD = U at *
    generalize l.map qD = L at *
    generalize ("fraction" : Str) = F at *
    generalize F_L_near 100 = N at *
    have hA : eLst (aCons (eV 7) (aCons (eSl (pV 7) none (some (pE (eC (.int 2))))) (aCons (e1 oList (pV 7)) (aCons (e2 oAdd (pV 7) (pE (eTup (aCons (eTup aNil) aNil)))) (aCons (eTup (aCons (eC (.str F)) (aCons (eV 5) (aCons (eV 4) aNil)))) (aCons (eTup (aCons (eC (.str F)) (aCons (e2 oAdd (pV 4) (pE (eTup (aCons (eTup (aCons (eC (.int 0)) (aCons (eC (.int 1)) aNil))) aNil)))) (aCons (eV 5) aNil)))) aNil)))))) (E a0 a2 a3 (.im (.tup U)) (.im (.tup L)) x6 (.im (.tup [.str F, .tup U, .tup L])) x8 x9) s = .ok (.mu [D.tup [.str F, .tup U, .tup L], .tup [.str F, .tup U], .lst [.str F, .tup U, .tup L], .tup [.str F, .tup U, .tup L, .tup []], .tup [.str F, .tup L, .tup U], .tup [.str F, .tup (U ++ [.tup [.int 0, .int 1]]), .tup L]]) s := by
      simp only [eLst_def, eTup_def, aCons_def, aNil_def, eV_def, eSl_def, e1_def, e2_def, pV_def, pE_def, eC_def, optI_none, optI_some, List.getElem?_cons_zero, List.getElem?_cons_succ, bind_ok, d_im, d_mu, oSlice, c2, lift_some, oList_t, oAdd_tt, List.length_cons, List.length_nil, Nat.zero_add, Nat.reduceAdd, sz_0, sz_1, sz_2, sz_3, sz_4, sz_6, if_true, lu2, List.cons_append, List.nil_append]
    have hB : eLc (iRange1 (pE (eC (.int 8)))) (.nm 11) tYes (eCall N (aCons (eV 1) (aCons (eV 7) aNil))) [11] (E a0 a2 a3 (.im (.tup U)) (.im (.tup L)) x6 (.im (.tup [.str F, .tup U, .tup L])) x8 x9) s = .ok (.mu ds) s' := by
      rw [eLc_def, r8, bind_ok, if_pos cells, wp, e]
      rfl
    simp only [iP_def, e2_def, pE_def]
    rw [hA, bind_ok, bind_ok, hB]
    simp only [bind_ok, d_mu, oAdd_ll, List.length_cons, List.length_nil, Nat.zero_add, Nat.reduceAdd, tot, if_true, lift_some, seq_l]
  rw [it]
  exact e9
/-- one lap -/
theorem turn {k : Nat} (h : St s (k + 2500)) : ∃ (y4 y5 y6 y7 y8 y9 : Slot) (s' : DS), (sSeq p_law_3b_1 (sSeq p_law_3b_2 (sSeq p_law_3b_3 (sSeq p_law_3b_4 (sSeq (sSet 8 (eCall F_cofactors (aCons (eV 7) aNil))) (sSeq p_law_3b_6 (sSeq p_law_3b_7 p_law_3b_8))))))) (E a0 a2 a3 x4 x5 x6 x7 x8 x9) s = .nx (E a0 a2 a3 y4 y5 y6 y7 y8 y9) s' ∧ St s' k := by
  obtain ⟨u, s1, e1, lu, cu, tu, st1⟩ := @lap1 s a0 a2 a3 x4 x5 x6 x7 x8 x9 (k + 2450) (h.less (by omega))
  obtain ⟨p, s2, e2, ll, cl, tl, st2⟩ := @lap2 s1 a0 a2 a3 (.im (.tup (u.map qD))) x5 x6 x7 x8 x9 (k + 2430) (st1.less (by omega))
  obtain ⟨u', l', y6, s3, e3, f, st3⟩ := @lap3 s2 a0 a2 a3 x6 x7 x8 x9 u p (k + 2410) cu cl tu tl lu ll (st2.less (by omega))
  have e4 := @lap4 s3 a0 a2 a3 y6 x7 x8 x9 (.tup (u'.map qD)) (.tup (l'.map qD))
  obtain ⟨y8, e5⟩ := @lap567 s3 a0 a2 a3 y6 x8 x9 u' l' f p_law_3b_8
  obtain ⟨y9, s4, e8, st4⟩ := @lap8 s3 a0 a2 a3 y6 (.im y8) x9 u' l' k f (st3.less (by omega))
  exact ⟨_, _, _, _, _, _, s4, seq_rt e1 (seq_rt e2 (seq_rt e3 (seq_rt e4 (e5.trans e8)))), st4⟩
theorem turns_ok : ∀ (xs : List D) (k : Nat) (a3 x4 x5 x6 x7 x8 x9 : Slot) (s : DS), St s (k + 2500 * xs.length) → ∃ (env : Lo) (s' : DS),
    forL (.nm 3) (sSeq p_law_3b_1 (sSeq p_law_3b_2 (sSeq p_law_3b_3 (sSeq p_law_3b_4 (sSeq (sSet 8 (eCall F_cofactors (aCons (eV 7) aNil))) (sSeq p_law_3b_6 (sSeq p_law_3b_7 p_law_3b_8))))))) xs (E a0 a2 a3 x4 x5 x6 x7 x8 x9) s = .nx env s'
  | [], k, a3, x4, x5, x6, x7, x8, x9, s, h => ⟨_, s, rfl⟩
  | x :: xs, k, a3, x4, x5, x6, x7, x8, x9, s, h => by
    obtain ⟨y4, y5, y6, y7, y8, y9, s1, e1, st1⟩ := @turn s a0 a2 (.im x) x4 x5 x6 x7 x8 x9 (k + 2500 * xs.length) (h.less (by rw [List.length_cons]; omega))
    obtain ⟨env, s', e⟩ := turns_ok xs k (.im x) y4 y5 y6 y7 y8 y9 s1 st1
    refine ⟨env, s', ?_⟩
    rw [forL]
    simp only [Tgt.put, List.set_cons_succ, List.set_cons_zero, e1]
    exact e
def half : D := .tup [.str "fraction", .tup [.tup [.int 1, .int 1]], .tup [.tup [.int 1, .int 1], .tup [.int (-1), .int 2]]]
theorem w1 (n : Nat) (s : DS) : p_law_1 (E (.im (.scr n)) .un .un .un .un .un .un .un .un) s = .nx (E (.im (.scr n)) (.im half) .un .un .un .un .un .un .un) s := by kernel_rfl
theorem w2 (n : Nat) (s : DS) : p_law_2 (E (.im (.scr n)) (.im half) .un .un .un .un .un .un .un) s = .nx (E (.im (.scr n)) (.im half) .un .un .un .un .un .un .un) s := by kernel_rfl
/-- THE LAW answers true -/
theorem plain (ns : List Int) (hn : ns.length ≤ 63) : ∃ s', b_law ([.im (.scr ns.length), .im .st] ++ List.replicate 10 .un) (begun ns) = .rt (.im (.bl true)) s' := by
  generalize hs : begun ns = s
  have st : St s 200000 := by
    rw [← hs]
    exact ⟨by show (0 : Int) ≤ 0; decide, by show (0 : Int) + 200000 < 2 ^ 40; decide⟩
  have en : ([.im (.scr ns.length), .im .st] ++ List.replicate 10 .un : Lo) = E (.im (.scr ns.length)) .un .un .un .un .un .un .un .un := rfl
  rw [en, b_law_p]
  obtain ⟨j, hj, hr⟩ : ∃ j : Nat, j ≤ 16 ∧ (8 : Int) + (if (8 : Int) < (ns.length : Int) then 8 else (ns.length : Int)) = (j : Int) := by
    by_cases h : 8 < ns.length
    · exact ⟨16, by omega, by rw [if_pos (by omega)]; rfl⟩
    · exact ⟨8 + ns.length, by omega, by rw [if_neg (by omega)]; omega⟩
  obtain ⟨env, s', e⟩ := @turns_ok (.im (.scr ns.length)) (.im half) (rangeD 0 j) 0 .un .un .un .un .un .un .un s (st.less (by
    rw [show (rangeD 0 j).length = j by unfold rangeD; rw [List.length_map, List.length_range]]
    omega))
  have e3 : p_law_3 (E (.im (.scr ns.length)) (.im half) .un .un .un .un .un .un .un) s = .nx env s' := by
    unfold p_law_3
    generalize (sSeq p_law_3b_1 (sSeq p_law_3b_2 (sSeq p_law_3b_3 (sSeq p_law_3b_4 (sSeq (sSet 8 (eCall F_cofactors (aCons (eV 7) aNil))) (sSeq p_law_3b_6 (sSeq p_law_3b_7 p_law_3b_8))))))) = b at e ⊢
    have c1 : (j : Int).toNat ≤ sizeLine := Nat.le_trans (show _ ≤ 25 by omega) (by decide)
    have c2 : -(2 ^ 62) ≤ (j : Int) := by omega
    have r : iRange1 (pE (e2 oAdd (pE (eC (.int 8))) (pE (e2 oMin (pE (e1 oLenR (pV 0))) (pE (eC (.int 8))))))) (E (.im (.scr ns.length)) (.im half) .un .un .un .un .un .un .un) s = .ok (rangeD 0 j) s := by
      unfold iRange1
      simp only [pE_def, e2_def, eC_def, bind_ok, d_im, e1_def, pV_def, List.getElem?_cons_zero, oLenR_scr, lift_some, oMin_ii, oAdd_ii, hr]
      rw [if_pos ⟨c1, c2⟩]
      rfl
    rw [sFor_def, r]
    exact e
  exact ⟨s', seq_rt (w1 _ s) (seq_rt (w2 _ s) (seq_rt e3 rfl))⟩
end K60

open PySem PySem.W PyProof.Rows
theorem PySem.Challenge.cw_entrybook_k60_cofactors_and_fractions_ju_holds : PySem.Challenge.rw_entrybook_k60_cofactors_and_fractions_ju.Holds := by
  exact K60.holds_of K60.plain
