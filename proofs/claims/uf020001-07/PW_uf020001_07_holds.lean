import PyProof.Rows.All
import Wide.All
import Open.Line
import Wide.FinOn
import PyProof.Claim2
import PyProof.P3Statements
import PyProof.Seq
import PyProof.Cells
import PyProof.TupleIter
import PyProof.PlainList
import PyProof.DictRoads
import PyProof.DictKinds
import PyProof.DictIter
import PyProof.Methods
import PyProof.NoPylong
import PyProof.DictTruth
import PyProof.CompFree
import PyProof.SliceSyntax
import PyProof.SliceList
import PyProof.Rows.TupMore
import PyProof.MinMaxWalk
import PyProof.WalkInts
import PyProof.Rows.CallKwBuiltin
import PyProof.TupleOfSeq
import PySem.Challenge.RW_uf020001_07
set_option Elab.async false
section
set_option autoImplicit false
set_option linter.unusedVariables false
set_option linter.unusedSimpArgs false
namespace Mine
open PySem

/-- abstract values: tuples by value, lists / dicts / instances by location -/
inductive V where
  | none
  | bool (b : Bool)
  | int (i : Int)
  | tup (vs : List V)
  | ref (l : Nat)
  | script
  deriving Inhabited

inductive Cell where
  | list (vs : List V)
  deriving Inhabited

noncomputable def isNoneV : V → Bool
  | .none => true
  | _ => false
noncomputable instance : DecidableEq V := fun a b => Classical.propDecidable (a = b)
noncomputable instance : DecidableEq Cell := fun a b => Classical.propDecidable (a = b)

abbrev Hp := List Cell
abbrev Env' := List (Option V)

inductive R (α : Type) where
  | ok (a : α) (h : Hp)
  | stuck

noncomputable def R.bind {α β : Type} : R α → (α → Hp → R β) → R β
  | .ok a h, f => f a h
  | .stuck, _ => .stuck

inductive Out where
  | next (ρ : Env') (h : Hp)
  | ret (v : V) (h : Hp)
  | stuck

noncomputable def R.out {α : Type} (ρ : Env') (f : α → Hp → Out) : R α → Out
  | .ok a h => f a h
  | .stuck => .stuck

inductive BOp where | add | sub | mul | fdiv | mod | pow
inductive COp where | eq | ne | lt | le | gt | isIn | notIn

/-- built-ins of the fragment -/
inductive Bi where
  | len | isInt | isBool | isTuple | tupleOf | maxL | max2
inductive Me where
  | append

inductive Tgt where
  | var (i : Nat)
  | tup (ts : List Tgt)

mutual
inductive E where
  | k (v : V)
  | var (i : Nat)
  | bin (op : BOp) (a b : E)
  | neg (a : E)
  | not (a : E)
  | and (es : List E)
  | or (es : List E)
  | ife (c a b : E)
  | cmp (op : COp) (a b : E)
  | cmp2 (a : E) (o1 : COp) (b : E) (o2 : COp) (c : E)
  | isNone (a : E)
  | notNone (a : E)
  | tup (es : List E)
  | lst (es : List E)
  | idx (a i : E)
  | slc (a : E) (lo hi : Option E)
  | call (f : Nat) (es : List E)
  | bi (b : Bi) (es : List E)
  | minD (a d : E)
  | meth (m : Me) (a : E) (es : List E)
  | comp (nl : Nat) (elt : E) (t : Tgt) (it : It) (cs : List E)
  | listOf (e : E)
inductive It where
  | of (e : E)
  | range (a b : E)
  | enum (e : E)
end

inductive S where
  | expr (e : E)
  | asg (t : Tgt) (e : E)
  | setIdx (a i e : E)
  | ret (e : E)
  | ife (c : E) (a b : List S)
  | for (t : Tgt) (it : It) (body : List S)
  | while (c : E) (body : List S)

/-- reading a value as plain data, `n` levels -/
noncomputable def rdL (f : V → Option PyData) : List V → Option (List PyData)
  | [] => some []
  | v :: r => match f v, rdL f r with
    | some d, some ds => some (d :: ds)
    | _, _ => none
noncomputable def rd (scr : List Int) : Nat → Hp → V → Option PyData
  | _, _, .none => some .none
  | _, _, .bool b => some (.bool b)
  | _, _, .int i => some (.int i)
  | 0, _, _ => none
  | n + 1, H, .tup vs => (rdL (rd scr n H) vs).map .tuple
  | n + 1, H, .ref l => match H[l]? with
    | some (.list vs) => (rdL (rd scr n H) vs).map .list
    | _ => none
  | _ + 1, _, .script => some (.list (scr.map .int))

noncomputable def truthy (scr : List Int) (H : Hp) : V → Option Bool
  | .none => some false
  | .bool b => some b
  | .int i => some (i != 0)
  | .tup vs => some (!vs.isEmpty)
  | .ref l => match H[l]? with
    | some (.list vs) => some (!vs.isEmpty)
    | _ => none
  | .script => some (!scr.isEmpty)

end Mine

end
section
set_option autoImplicit false
set_option linter.unusedVariables false
set_option linter.unusedSimpArgs false
namespace Mine
open PySem

structure Ctx where
  scr : List Int
  gks : List V
  call : Nat → List V → Hp → R V

noncomputable def szOk {α : Type} (l : List α) : Bool := decide (l.length < 1000000)
noncomputable def alloc (c : Cell) (H : Hp) : R V := .ok (.ref H.length) (H ++ [c])
noncomputable def allocL (vs : List V) (H : Hp) : R V := if szOk vs then alloc (.list vs) H else .stuck

/-- the items of a list / a tuple / the script -/
noncomputable def itemsOf (scr : List Int) (H : Hp) : V → Option (List V)
  | .tup vs => some vs
  | .ref l => match H[l]? with
    | some (.list vs) => some vs
    | _ => none
  | .script => some (scr.map .int)
  | _ => none

/-- the items of a tuple, a list or the script -/
noncomputable def seqOf (scr : List Int) (H : Hp) : V → Option (List V)
  | .tup vs => some vs
  | .ref l => match H[l]? with
    | some (.list vs) => some vs
    | _ => none
  | .script => some (scr.map .int)
  | _ => none
/-- the items of a list or of the script -/
noncomputable def lstOf (scr : List Int) (H : Hp) : V → Option (List V)
  | .ref l => match H[l]? with
    | some (.list vs) => some vs
    | _ => none
  | .script => some (scr.map .int)
  | _ => none

noncomputable def mulOk (a b : Int) : Bool := !(decide (Builtin.Int.intBits a > shortFactorBits) && decide (Builtin.Int.intBits b > shortFactorBits) && Builtin.Int.intTooBig (Builtin.Int.intBits a + Builtin.Int.intBits b))

noncomputable def onInt (x : V) (f : Int → R V) : R V := match x with
  | .int i => f i
  | _ => .stuck
/-- a list's items -/
noncomputable def onL (H : Hp) (x : V) (f : List V → R V) : R V := match x with
  | .ref l => match H[l]? with
    | some (.list vs) => f vs
    | _ => .stuck
  | _ => .stuck
noncomputable def onO {α β : Type} (o : Option α) (f : α → R β) : R β := match o with
  | some a => f a
  | none => .stuck
noncomputable def binI (op : BOp) (a b : Int) (H : Hp) : R V := match op with
  | .add => .ok (.int (a + b)) H
  | .sub => .ok (.int (a - b)) H
  | .mul => if mulOk a b then .ok (.int (a * b)) H else .stuck
  | .fdiv => if b = 0 then .stuck else .ok (.int (a.fdiv b)) H
  | .mod => if b = 0 then .stuck else .ok (.int (a.fmod b)) H
  | .pow => if 0 ≤ b ∧ b ≤ 1000 ∧ a.natAbs < 1000 then .ok (.int (a ^ b.toNat)) H else .stuck
noncomputable def binL (op : BOp) (x y : V) (H : Hp) : R V := match op with
  | .add => onL H x fun xs => onL H y fun ys => allocL (xs ++ ys) H
  | _ => .stuck
noncomputable def binop (op : BOp) (x y : V) (H : Hp) : R V := match x with
  | .int a => onInt y fun b => binI op a b H
  | .ref l => binL op (.ref l) y H
  | _ => .stuck

noncomputable def eqV (scr : List Int) (H : Hp) (x y : V) : Option Bool :=
  match rd scr 10 H x, rd scr 10 H y with
  | some d, some e => some (PyData.eqv d e)
  | _, _ => none

noncomputable def allInts : List V → Option (List Int)
  | [] => some []
  | .int i :: r => (allInts r).map (i :: ·)
  | _ => none

noncomputable def int2 (x y : V) (f : Int → Int → Bool) : Option Bool := match x with
  | .int a => match y with
    | .int b => some (f a b)
    | _ => none
  | _ => none

noncomputable def inV (scr : List Int) (H : Hp) (x y : V) : Option Bool :=
  match itemsOf scr H y with
  | some vs => match rdL (rd scr 10 H) vs, rd scr 10 H x with
    | some ds, some d => some (ds.any fun e => PyData.eqv e d)
    | _, _ => none
  | none => none

noncomputable def cmpV (scr : List Int) (op : COp) (x y : V) (H : Hp) : Option Bool :=
  match op with
  | .eq => eqV scr H x y
  | .ne => (eqV scr H x y).map (!·)
  | .lt => int2 x y fun a b => decide (a < b)
  | .gt => int2 x y fun a b => decide (a > b)
  | .le => int2 x y fun a b => decide (a ≤ b)
  | .isIn => inV scr H x y
  | .notIn => (inV scr H x y).map (!·)

noncomputable def ofOpt {α : Type} (H : Hp) : Option α → R α
  | some a => .ok a H
  | none => .stuck

noncomputable def seqAt {α : Type} (l : List α) (k : Int) : Option α :=
  if 0 ≤ k then l[k.toNat]? else if -(l.length : Int) ≤ k then l[(k + l.length).toNat]? else none

noncomputable def idxV (scr : List Int) (x i : V) (H : Hp) : Option V :=
  match itemsOf scr H x, i with
  | some vs, .int k => seqAt vs k
  | _, _ => none

noncomputable def sliceEnd (n : Nat) (d : Nat) : Option Int → Nat
  | none => d
  | some k => if k < 0 then (k + n).toNat else min k.toNat n
noncomputable def pySlice {α : Type} (l : List α) (lo hi : Option Int) : List α :=
  (l.take (sliceEnd l.length l.length hi)).drop (sliceEnd l.length 0 lo)

/-- None or an int -/
noncomputable def partOf : V → Option (Option Int)
  | .none => some none
  | .int k => if k.natAbs < 2 ^ 60 then some (some k) else none
  | _ => none

noncomputable def slcV (scr : List Int) (x lo hi : V) (H : Hp) : R V :=
  match partOf lo, partOf hi with
  | some l, some h => match x with
    | .tup vs => .ok (.tup (pySlice vs l h)) H
    | .ref _ | .script => match itemsOf scr H x with
      | some vs => allocL (pySlice vs l h) H
      | _ => .stuck
    | _ => .stuck
  | _, _ => .stuck

noncomputable def pairOf : V → Option (Int × Int)
  | .tup [.int a, .int b] => some (a, b)
  | _ => none
noncomputable def pairsOf : List V → Option (List (Int × Int))
  | [] => some []
  | v :: r => (pairOf v).bind fun p => (pairsOf r).map (p :: ·)
noncomputable def gtP (x y : Int × Int) : Bool := if x.1 = y.1 then decide (x.2 > y.2) else decide (x.1 > y.1)
noncomputable def bestOf (m : Int × Int) (r : List (Int × Int)) : Int × Int := r.foldl (fun m x => if gtP x m then x else m) m
noncomputable def pairV (p : Int × Int) : V := .tup [.int p.1, .int p.2]
/-- one argument, two arguments -/
noncomputable def bi1 (vs : List V) (f : V → R V) : R V := match vs with
  | [x] => f x
  | _ => .stuck
noncomputable def bi2 (vs : List V) (f : V → V → R V) : R V := match vs with
  | [x, y] => f x y
  | _ => .stuck
noncomputable def maxOf : List (Int × Int) → Option (Int × Int)
  | [] => none
  | m :: r => some (bestOf m r)
noncomputable def biV (scr : List Int) (b : Bi) (vs : List V) (H : Hp) : R V := match b with
  | .len => bi1 vs fun x => onO (itemsOf scr H x) fun l => .ok (.int l.length) H
  | .isInt => bi1 vs fun x => onInt x fun _ => .ok (.bool true) H
  | .isBool => bi1 vs fun x => onInt x fun _ => .ok (.bool false) H
  | .isTuple => bi1 vs fun x => match x with
    | .tup _ => .ok (.bool true) H
    | _ => .stuck
  | .tupleOf => bi1 vs fun x => onO (itemsOf scr H x) fun l => if szOk l then .ok (.tup l) H else .stuck
  | .maxL => bi1 vs fun x => onL H x fun l => onO ((pairsOf l).bind maxOf) fun m => .ok (pairV m) H
  | .max2 => bi2 vs fun x y => onInt x fun a => onInt y fun b => .ok (.int (max a b)) H

noncomputable def minDV (x d : V) (H : Hp) : R V :=
  match x with
  | .ref l => match H[l]? with
    | some (.list []) => .ok d H
    | some (.list (x :: r)) => match allInts (x :: r) with
      | some (a :: is) => .ok (.int (is.foldl min a)) H
      | _ => .stuck
    | _ => .stuck
  | _ => .stuck

noncomputable def isListB (H : Hp) : V → Bool
  | .ref l => match H[l]? with
    | some (.list _) => true
    | _ => false
  | _ => false
/-- the object of a method's call, when it is fetched -/
noncomputable def meKind (m : Me) (H : Hp) (x : V) : Bool := isListB H x
noncomputable def methV (m : Me) (x : V) (vs : List V) (H : Hp) : R V := match x with
  | .ref l => onL H x fun xs => bi1 vs fun v => if szOk xs then .ok .none (H.set l (.list (xs ++ [v]))) else .stuck
  | _ => .stuck

mutual
noncomputable def asg : Tgt → V → Env' → Option Env'
  | .var i, v, ρ => if i < ρ.length then some (ρ.set i (some v)) else none
  | .tup ts, .tup vs, ρ => asgs ts vs ρ
  | .tup _, _, _ => none
noncomputable def asgs : List Tgt → List V → Env' → Option Env'
  | [], [], ρ => some ρ
  | t :: ts, v :: vs, ρ => (asg t v ρ).bind (asgs ts vs)
  | _, _, _ => none
end

noncomputable def setIdxV (x i v : V) (H : Hp) : Option Hp :=
  match x with
  | .ref l => match H[l]? with
    | some (.list xs) => match i with
      | .int k => if 0 ≤ k ∧ k < xs.length then some (H.set l (.list (xs.set k.toNat v))) else none
      | _ => none
    | _ => none
  | _ => none

/-- what is watched while a loop goes over it -/
noncomputable def watch : V → List Nat
  | .ref l => [l]
  | _ => []

noncomputable def stands (ws : List Nat) (H₀ H : Hp) : Bool := ws.all fun l => decide (H[l]? = H₀[l]?)

noncomputable def rangeV (a b : Int) : List V := (List.range (b - a).toNat).map fun (i : Nat) => .int (a + (i : Int))
noncomputable def enumV : Nat → List V → List V
  | _, [] => []
  | k, v :: r => .tup [.int k, v] :: enumV (k + 1) r

noncomputable def compG (ws : List Nat) (H₀ : Hp) (t : Tgt) (test : Env' → Hp → R Bool) (elt : Env' → Hp → R V) : List V → Env' → Hp → List V → R (List V)
  | [], _, H, acc => .ok acc H
  | v :: vs, ρ, H, acc => match asg t v ρ with
    | none => .stuck
    | some ρ' => (test ρ' H).bind fun b H₁ =>
      if b then (elt ρ' H₁).bind fun y H₂ => if stands ws H₀ H₂ then compG ws H₀ t test elt vs ρ' H₂ (acc ++ [y]) else .stuck
      else if stands ws H₀ H₁ then compG ws H₀ t test elt vs ρ' H₁ acc else .stuck

mutual
noncomputable def evalE (C : Ctx) : E → Env' → Hp → R V
  | .k v, _, H => .ok v H
  | .var i, ρ, H => ofOpt H (ρ[i]?.join)
  | .bin op a b, ρ, H => (evalE C a ρ H).bind fun x H => (evalE C b ρ H).bind fun y H => binop op x y H
  | .neg a, ρ, H => (evalE C a ρ H).bind fun x H => match x with
    | .int i => .ok (.int (-i)) H
    | _ => .stuck
  | .not a, ρ, H => (evalE C a ρ H).bind fun x H => (ofOpt H (truthy C.scr H x)).bind fun b H => .ok (.bool (!b)) H
  | .and es, ρ, H => evalAnd C es ρ H
  | .or es, ρ, H => evalOr C es ρ H
  | .ife c a b, ρ, H => (evalE C c ρ H).bind fun x H => (ofOpt H (truthy C.scr H x)).bind fun t H => if t then evalE C a ρ H else evalE C b ρ H
  | .cmp op a b, ρ, H => (evalE C a ρ H).bind fun x H => (evalE C b ρ H).bind fun y H => (ofOpt H (cmpV C.scr op x y H)).bind fun t H => .ok (.bool t) H
  | .cmp2 a o1 b o2 c, ρ, H => (evalE C a ρ H).bind fun x H => (evalE C b ρ H).bind fun y H => (ofOpt H (cmpV C.scr o1 x y H)).bind fun t H =>
      if t then (evalE C c ρ H).bind fun z H => (ofOpt H (cmpV C.scr o2 y z H)).bind fun t H => .ok (.bool t) H else .ok (.bool false) H
  | .isNone a, ρ, H => (evalE C a ρ H).bind fun x H => .ok (.bool (isNoneV x)) H
  | .notNone a, ρ, H => (evalE C a ρ H).bind fun x H => .ok (.bool (!isNoneV x)) H
  | .tup es, ρ, H => (evalEs C es ρ H).bind fun vs H => .ok (.tup vs) H
  | .lst es, ρ, H => (evalEs C es ρ H).bind fun vs H => alloc (.list vs) H
  | .idx a i, ρ, H => (evalE C a ρ H).bind fun x H => (evalE C i ρ H).bind fun y H => ofOpt H (idxV C.scr x y H)
  | .slc a lo hi, ρ, H => (evalE C a ρ H).bind fun x H => (evalO C lo ρ H).bind fun l H => (evalO C hi ρ H).bind fun h H => slcV C.scr x l h H
  | .call f es, ρ, H => (evalEs C es ρ H).bind fun vs H => C.call f vs H
  | .bi b es, ρ, H => (evalEs C es ρ H).bind fun vs H => biV C.scr b vs H
  | .minD a d, ρ, H => (evalE C a ρ H).bind fun x H => (evalE C d ρ H).bind fun y H => minDV x y H
  | .meth m a es, ρ, H => (evalE C a ρ H).bind fun x H => if meKind m H x then (evalEs C es ρ H).bind fun vs H => methV m x vs H else .stuck
  | .comp nl elt t it cs, ρ, H => (evalIt C it ρ H).bind fun p H =>
      (compG p.2 H t (fun ρ H => tests C cs ρ H) (fun ρ H => evalE C elt ρ H) p.1 (List.replicate nl none ++ ρ) H []).bind fun vs H => allocL vs H
  | .listOf e, ρ, H => (evalE C e ρ H).bind fun x H => (ofOpt H (itemsOf C.scr H x)).bind fun vs H => allocL vs H
noncomputable def evalEs (C : Ctx) : List E → Env' → Hp → R (List V)
  | [], _, H => .ok [] H
  | e :: r, ρ, H => (evalE C e ρ H).bind fun v H => (evalEs C r ρ H).bind fun vs H => .ok (v :: vs) H
noncomputable def evalO (C : Ctx) : Option E → Env' → Hp → R V
  | none, _, H => .ok .none H
  | some e, ρ, H => evalE C e ρ H
noncomputable def evalAnd (C : Ctx) : List E → Env' → Hp → R V
  | [], _, _ => .stuck
  | e :: r, ρ, H => (evalE C e ρ H).bind fun x H => match r with
    | [] => .ok x H
    | _ :: _ => (ofOpt H (truthy C.scr H x)).bind fun t H => if t then evalAnd C r ρ H else .ok x H
noncomputable def evalOr (C : Ctx) : List E → Env' → Hp → R V
  | [], _, _ => .stuck
  | e :: r, ρ, H => (evalE C e ρ H).bind fun x H => match r with
    | [] => .ok x H
    | _ :: _ => (ofOpt H (truthy C.scr H x)).bind fun t H => if t then .ok x H else evalOr C r ρ H
noncomputable def tests (C : Ctx) : List E → Env' → Hp → R Bool
  | [], _, H => .ok true H
  | e :: r, ρ, H => (evalE C e ρ H).bind fun x H => (ofOpt H (truthy C.scr H x)).bind fun t H => if t then tests C r ρ H else .ok false H
noncomputable def evalIt (C : Ctx) : It → Env' → Hp → R (List V × List Nat)
  | .of e, ρ, H => (evalE C e ρ H).bind fun x H => (ofOpt H (seqOf C.scr H x)).bind fun vs H => .ok (vs, watch x) H
  | .range a b, ρ, H => (evalE C a ρ H).bind fun x H => (evalE C b ρ H).bind fun y H => match x, y with
    | .int i, .int j => if i.natAbs < 2 ^ 60 ∧ j.natAbs < 2 ^ 60 then .ok (rangeV i j, []) H else .stuck
    | _, _ => .stuck
  | .enum e, ρ, H => (evalE C e ρ H).bind fun x H => (ofOpt H (lstOf C.scr H x)).bind fun vs H => .ok (enumV 0 vs, watch x) H
end

noncomputable def tst (C : Ctx) (e : E) (ρ : Env') (H : Hp) : R Bool := (evalE C e ρ H).bind fun x H => ofOpt H (truthy C.scr H x)

noncomputable def forG (ws : List Nat) (H₀ : Hp) (t : Tgt) (body : Env' → Hp → Out) : List V → Env' → Hp → Out
  | [], ρ, H => .next ρ H
  | v :: vs, ρ, H => match asg t v ρ with
    | none => .stuck
    | some ρ' => match body ρ' H with
      | .next ρ₁ H₁ => if stands ws H₀ H₁ then forG ws H₀ t body vs ρ₁ H₁ else .stuck
      | .ret v H₁ => .ret v H₁
      | .stuck => .stuck

noncomputable def whileG (test : Env' → Hp → R Bool) (body : Env' → Hp → Out) : Nat → Env' → Hp → Out
  | 0, _, _ => .stuck
  | n + 1, ρ, H => (test ρ H).out ρ fun b H => if b then match body ρ H with
      | .next ρ₁ H₁ => whileG test body n ρ₁ H₁
      | .ret v H₁ => .ret v H₁
      | .stuck => .stuck
    else .next ρ H

noncomputable def weight : Env' → Nat
  | [] => 1000
  | some (.int i) :: r => i.natAbs + weight r
  | _ :: r => weight r

mutual
noncomputable def execS (C : Ctx) : S → Env' → Hp → Out
  | .expr e, ρ, H => (evalE C e ρ H).out ρ fun _ H => .next ρ H
  | .asg t e, ρ, H => (evalE C e ρ H).out ρ fun v H => match asg t v ρ with
    | some ρ' => .next ρ' H
    | none => .stuck
  | .setIdx a i e, ρ, H => (evalE C e ρ H).out ρ fun v H => (evalE C a ρ H).out ρ fun x H => (evalE C i ρ H).out ρ fun k H => match setIdxV x k v H with
    | some H' => .next ρ H'
    | none => .stuck
  | .ret e, ρ, H => (evalE C e ρ H).out ρ fun v H => .ret v H
  | .ife c a b, ρ, H => (tst C c ρ H).out ρ fun t H => if t then execSs C a ρ H else execSs C b ρ H
  | .for t it body, ρ, H => (evalIt C it ρ H).out ρ fun p H => forG p.2 H t (fun ρ H => execSs C body ρ H) p.1 ρ H
  | .while c body, ρ, H => whileG (fun ρ H => tst C c ρ H) (fun ρ H => execSs C body ρ H) (weight ρ) ρ H
noncomputable def execSs (C : Ctx) : List S → Env' → Hp → Out
  | [], ρ, H => .next ρ H
  | s :: r, ρ, H => match execS C s ρ H with
    | .next ρ' H' => execSs C r ρ' H'
    | o => o
end

/-- a def: how many names it has, how many of them are parameters, its body -/
structure Fn where
  name : Str
  np : Nat
  nl : Nat
  body : List S

noncomputable def endOut : Out → R V
  | .ret v H => .ok v H
  | .next _ H => .ok .none H
  | .stuck => .stuck

/-- a call with `n` levels of room -/
noncomputable def callF (scr : List Int) (gks : List V) (fns : List Fn) : Nat → Nat → List V → Hp → R V
  | 0, _, _, _ => .stuck
  | n + 1, f, vs, H => match fns[f]? with
    | some d => if vs.length = d.np ∧ d.np ≠ 999 then endOut (execSs ⟨scr, gks, callF scr gks fns n⟩ d.body (vs.map some ++ List.replicate d.nl none) H) else .stuck
    | none => .stuck
end Mine

end
section
set_option autoImplicit false
set_option linter.unusedVariables false
set_option linter.unusedSimpArgs false
namespace Mine
open PySem

abbrev tupObj (xs : List Value) (n : Nat) : Obj := { cls := .type "tuple", data := .seq xs.toArray n }
abbrev lstObj (xs : List Value) (n : Nat) : Obj := { cls := .type "list", data := .seq xs.toArray n }

theorem nodup_inj {α : Type} {l : List α} (hn : l.Nodup) {i j : Nat} (hi : i < l.length) (hj : j < l.length) (e : l[i] = l[j]) : i = j := by
  have := List.pairwise_iff_getElem.mp hn
  rcases Nat.lt_trichotomy i j with h | h | h
  · exact absurd e (this i j hi hj h)
  · exact h
  · exact absurd e.symm (this j i hj hi h)

mutual
/-- the value `x` stands for the abstract value -/
inductive Rep (scr : Addr) (φ : List Addr) (h : Heap) : V → Value → Prop
  | none : Rep scr φ h .none .none
  | bool (b : Bool) : Rep scr φ h (.bool b) (.bool b)
  | int (i : Int) (t : Tok) : Rep scr φ h (.int i) (.int i t)
  | tup {a : Addr} {n : Nat} {vs : List V} {xs : List Value} : h.get? a = some (tupObj xs n) → RepL scr φ h vs xs → vs.length ≤ 1000000 → Rep scr φ h (.tup vs) (.ref a)
  | ref {l : Nat} {a : Addr} : φ[l]? = some a → Rep scr φ h (.ref l) (.ref a)
  | script : Rep scr φ h .script (.ref scr)
inductive RepL (scr : Addr) (φ : List Addr) (h : Heap) : List V → List Value → Prop
  | nil : RepL scr φ h [] []
  | cons {v : V} {x : Value} {vs : List V} {xs : List Value} : Rep scr φ h v x → RepL scr φ h vs xs → RepL scr φ h (v :: vs) (x :: xs)
end

noncomputable def NotTup (o : Obj) : Prop := ∀ xs n, o ≠ tupObj xs n
theorem notTup_dict {o : Obj} {es : Array DictEntry} {ep : Nat} (h : o.data = .dict es ep) : NotTup o := fun xs n e => by rw [e] at h; cases h
theorem notTup_cell {o : Obj} {v : Option Value} (h : o.data = .cell v) : NotTup o := fun xs n e => by rw [e] at h; cases h
theorem notTup_fields {o : Obj} {vs : Array Value} (h : o.data = .fields vs) : NotTup o := fun xs n e => by rw [e] at h; cases h
theorem notTup_cls {o : Obj} (h : o.cls ≠ .type "tuple") : NotTup o := fun xs n e => h (by rw [e])

structure Stp (own : List Addr) (φ : List Addr) (h : Heap) (φ' : List Addr) (h' : Heap) : Prop where
  pre : ∃ t, φ' = φ ++ t
  keep : ∀ a o, h.get? a = some o → a ∉ φ → a ∉ own → h'.get? a = some o
  fresh : ∀ a ∈ φ', a ∉ φ → h.get? a = none
  tup : ∀ a xs n, h.get? a = some (tupObj xs n) → h'.get? a = some (tupObj xs n)
  alive : ∀ a o, h.get? a = some o → ∃ o', h'.get? a = some o'

section
variable {own own' : List Addr} {scr : Addr} {φ φ' φ'' : List Addr} {h h' h'' : Heap}

theorem Stp.refl : Stp own φ h φ h := ⟨⟨[], by simp⟩, fun _ _ e _ _ => e, fun a h1 h2 => absurd h1 h2, fun _ _ _ e => e, fun _ o e => ⟨o, e⟩⟩
theorem Stp.mem {a : Addr} (S : Stp own φ h φ' h') (ha : a ∈ φ) : a ∈ φ' := by
  obtain ⟨t, rfl⟩ := S.pre
  exact List.mem_append_left _ ha
theorem Stp.notMem {a : Addr} {o : Obj} (S : Stp own φ h φ' h') (ho : h.get? a = some o) (ha : a ∉ φ) : a ∉ φ' := fun hm => by
  rw [S.fresh a hm ha] at ho; cases ho
theorem Stp.trans (S : Stp own φ h φ' h') (T : Stp own φ' h' φ'' h'') : Stp own φ h φ'' h'' := by
  refine ⟨?_, fun a o e h1 h2 => T.keep a o (S.keep a o e h1 h2) (S.notMem e h1) h2, fun a h1 h2 => ?_, fun a xs n e => T.tup a xs n (S.tup a xs n e), fun a o e => ?_⟩
  · obtain ⟨t, rfl⟩ := S.pre
    obtain ⟨u, rfl⟩ := T.pre
    exact ⟨t ++ u, by simp⟩
  · by_cases h3 : a ∈ φ'
    · exact S.fresh a h3 h2
    · have h4 := T.fresh a h1 h3
      cases h5 : h.get? a with
      | none => rfl
      | some o =>
        obtain ⟨o', e⟩ := S.alive a o h5
        rw [e] at h4; cases h4
  · obtain ⟨o', e'⟩ := S.alive a o e
    exact T.alive a o' e'
theorem Stp.sub (S : Stp own φ h φ' h') (hs : ∀ a ∈ own, a ∈ own') : Stp own' φ h φ' h' :=
  ⟨S.pre, fun a o e h1 h2 => S.keep a o e h1 fun hm => h2 (hs a hm), S.fresh, S.tup, S.alive⟩
theorem Stp.nil (S : Stp [] φ h φ' h') : Stp own φ h φ' h' := S.sub (fun _ hm => nomatch hm)
/-- own things that were not there before don't count -/
theorem Stp.drop (S : Stp own φ h φ' h') (hs : ∀ a ∈ own, a ∉ own' → h.get? a = none) : Stp own' φ h φ' h' :=
  ⟨S.pre, fun a o e h1 h2 => by
    by_cases hm : a ∈ own
    · rw [hs a hm h2] at e; cases e
    · exact S.keep a o e h1 hm, S.fresh, S.tup, S.alive⟩
theorem Stp.ext (hk : ∀ a o, h.get? a = some o → h'.get? a = some o) : Stp own φ h φ h' :=
  ⟨⟨[], by simp⟩, fun a o e _ _ => hk a o e, fun a h1 h2 => absurd h1 h2, fun a _ _ e => hk a _ e, fun a o e => ⟨o, hk a o e⟩⟩
theorem Stp.push (o : Obj) : Stp own φ h φ (h.push o) := .ext fun _ _ e => Heap.get?_push_of_some o e
/-- one object changed, that is not a tuple -/
theorem Stp.but {a : Addr} {o o' : Obj} (ha : a ∈ own ∨ a ∈ φ) (ho : h.get? a = some o) (hn : NotTup o) (ho' : h'.get? a = some o') (hs : Heap.ExtBut a h h') : Stp own φ h φ h' := by
  refine ⟨⟨[], by simp⟩, fun b o₂ e h1 h2 => ?_, fun b h1 h2 => absurd h1 h2, fun b xs n e => ?_, fun b o₂ e => ?_⟩
  · by_cases hb : b = a
    · subst hb; exact (ha.elim h2 h1).elim
    · exact hs b o₂ hb e
  · by_cases hb : b = a
    · subst hb; rw [ho] at e; exact absurd (Option.some.inj e) (hn xs n)
    · exact hs b _ hb e
  · by_cases hb : b = a
    · subst hb; exact ⟨o', ho'⟩
    · exact ⟨o₂, hs b o₂ hb e⟩

/-- tuples stay, cells stay at their places -/
structure Kp (φ : List Addr) (h : Heap) (φ' : List Addr) (h' : Heap) : Prop where
  pre : ∃ t, φ' = φ ++ t
  tup : ∀ a xs n, h.get? a = some (tupObj xs n) → h'.get? a = some (tupObj xs n)
theorem Kp.trans (S : Kp φ h φ' h') (T : Kp φ' h' φ'' h'') : Kp φ h φ'' h'' := by
  refine ⟨?_, fun a xs n e => T.tup a xs n (S.tup a xs n e)⟩
  obtain ⟨t, rfl⟩ := S.pre
  obtain ⟨u, rfl⟩ := T.pre
  exact ⟨t ++ u, by simp⟩
theorem Kp.refl : Kp φ h φ h := ⟨⟨[], by simp⟩, fun _ _ _ e => e⟩
theorem Stp.kp (S : Stp own φ h φ' h') : Kp φ h φ' h' := ⟨S.pre, S.tup⟩
mutual
theorem Rep.kp (S : Kp φ h φ' h') : ∀ {v : V} {x : Value}, Rep scr φ h v x → Rep scr φ' h' v x
  | _, _, .none => .none
  | _, _, .bool b => .bool b
  | _, _, .int i t => .int i t
  | _, _, .tup e r z => .tup (S.tup _ _ _ e) (RepL.kp S r) z
  | _, _, .ref e => .ref (by
      obtain ⟨t, rfl⟩ := S.pre
      rw [List.getElem?_append_left (by obtain ⟨hl, _⟩ := List.getElem?_eq_some_iff.mp e; exact hl)]; exact e)
  | _, _, .script => .script
theorem RepL.kp (S : Kp φ h φ' h') : ∀ {vs : List V} {xs : List Value}, RepL scr φ h vs xs → RepL scr φ' h' vs xs
  | _, _, .nil => .nil
  | _, _, .cons r rs => .cons (Rep.kp S r) (RepL.kp S rs)
end
theorem Rep.mono (S : Stp own φ h φ' h') {v : V} {x : Value} (r : Rep scr φ h v x) : Rep scr φ' h' v x := r.kp S.kp
theorem RepL.mono (S : Stp own φ h φ' h') {v : List V} {x : List Value} (r : RepL scr φ h v x) : RepL scr φ' h' v x := r.kp S.kp
end

section
variable {scr : Addr} {φ : List Addr} {h : Heap} {vs ws : List V} {xs ys : List Value} {v : V} {x : Value}
theorem RepL.length (r : RepL scr φ h vs xs) : vs.length = xs.length := by
  induction vs generalizing xs with
  | nil => cases r; rfl
  | cons v vs ih => cases r with | cons _ r => rw [List.length_cons, List.length_cons, ih r]
theorem RepL.append (r : RepL scr φ h vs xs) (q : RepL scr φ h ws ys) : RepL scr φ h (vs ++ ws) (xs ++ ys) := by
  induction vs generalizing xs with
  | nil => cases r; exact q
  | cons v vs ih => cases r with | cons h1 r => exact .cons h1 (ih r)
theorem RepL.get {i : Nat} (r : RepL scr φ h vs xs) (e : vs[i]? = some v) : ∃ x, xs[i]? = some x ∧ Rep scr φ h v x := by
  induction vs generalizing xs i with
  | nil => simp at e
  | cons u vs ih =>
    cases r with
    | cons h1 r =>
      cases i with
      | zero => cases e; exact ⟨_, rfl, h1⟩
      | succ i => simpa using ih (i := i) r (by simpa using e)
theorem RepL.take (k : Nat) (r : RepL scr φ h vs xs) : RepL scr φ h (vs.take k) (xs.take k) := by
  induction vs generalizing xs k with
  | nil => cases r; simpa using RepL.nil
  | cons u vs ih =>
    cases r with
    | cons h1 r =>
      cases k with
      | zero => simpa using RepL.nil
      | succ k => exact .cons h1 (ih k r)
theorem RepL.drop (k : Nat) (r : RepL scr φ h vs xs) : RepL scr φ h (vs.drop k) (xs.drop k) := by
  induction vs generalizing xs k with
  | nil => cases r; simpa using RepL.nil
  | cons u vs ih =>
    cases r with
    | cons h1 r =>
      cases k with
      | zero => exact .cons h1 r
      | succ k => exact ih k r
theorem RepL.one (r : Rep scr φ h v x) : RepL scr φ h [v] [x] := .cons r .nil
theorem RepL.reverse (r : RepL scr φ h vs xs) : RepL scr φ h vs.reverse xs.reverse := by
  induction vs generalizing xs with
  | nil => cases r; exact .nil
  | cons u vs ih =>
    cases r with
    | cons h1 r => rw [List.reverse_cons, List.reverse_cons]; exact (ih r).append (.one h1)
theorem RepL.set (r : RepL scr φ h vs xs) (k : Nat) (q : Rep scr φ h v x) : RepL scr φ h (vs.set k v) (xs.set k x) := by
  induction vs generalizing xs k with
  | nil => cases r; exact .nil
  | cons u vs ih =>
    cases r with
    | cons h1 r =>
      cases k with
      | zero => exact .cons q r
      | succ k => exact .cons h1 (ih r k)
theorem RepL.ints {ns : List Int} (r : RepL scr φ h (ns.map .int) xs) : ∃ ts : List Tok, ts.length = ns.length ∧ xs = (ns.zip ts).map fun p => Value.int p.1 p.2 := by
  induction ns generalizing xs with
  | nil => cases r; exact ⟨[], rfl, rfl⟩
  | cons n ns ih =>
    cases r with
    | cons h1 r =>
      cases h1
      rename_i t
      obtain ⟨ts, e1, rfl⟩ := ih r
      exact ⟨t :: ts, by simp [e1], by simp⟩
end

/-- what stays the same through a whole run: the heap ahead of it, where the script lies, how keys are hashed -/
structure Wo where
  h₀ : Heap
  scr : Addr
  prog : Program
  w : World

noncomputable def CellAt (W : Wo) (φ : List Addr) (h : Heap) (a : Addr) : Cell → Prop
  | .list vs => ∃ xs n, h.get? a = some (lstObj xs n) ∧ RepL W.scr φ h vs xs ∧ vs.length ≤ 1000000

structure SR (W : Wo) (φ : List Addr) (H : Hp) (h : Heap) : Prop where
  keep : ∀ a o, W.h₀.get? a = some o → h.get? a = some o
  fresh : ∀ a ∈ φ, W.h₀.get? a = none
  nodup : φ.Nodup
  len : φ.length = H.length
  cell : ∀ (l : Nat) (c : Cell), H[l]? = some c → ∃ a, φ[l]? = some a ∧ CellAt W φ h a c

section
variable {W : Wo} {own φ φ' : List Addr} {h h' : Heap} {H : Hp}
theorem CellAt.kp {a : Addr} {c : Cell} (S : Kp φ h φ' h') (ha : ∀ o, h.get? a = some o → h'.get? a = some o) (r : CellAt W φ h a c) : CellAt W φ' h' a c := by
  cases c with
  | list vs => obtain ⟨xs, n, e, q, z⟩ := r; exact ⟨xs, n, ha _ e, q.kp S, z⟩
theorem CellAt.mono {a : Addr} {c : Cell} (S : Stp own φ h φ' h') (ha : ∀ o, h.get? a = some o → h'.get? a = some o) (r : CellAt W φ h a c) : CellAt W φ' h' a c := r.kp S.kp ha
theorem CellAt.obj {a : Addr} {c : Cell} (r : CellAt W φ h a c) : ∃ o, h.get? a = some o ∧ NotTup o := by
  cases c with
  | list vs => obtain ⟨xs, n, e, _⟩ := r; exact ⟨_, e, fun _ _ e => by simp at e⟩
theorem SR.lt {l : Nat} (R : SR W φ H h) (hl : l < φ.length) : ∃ c, H[l]? = some c := ⟨H[l]'(R.len ▸ hl), by simp⟩
theorem SR.obj {a : Addr} (R : SR W φ H h) (ha : a ∈ φ) : ∃ o, h.get? a = some o ∧ NotTup o := by
  obtain ⟨l, hl, rfl⟩ := List.getElem_of_mem ha
  obtain ⟨c, hc⟩ := R.lt hl
  obtain ⟨b, hb, r⟩ := R.cell l c hc
  have : φ[l] = b := by rw [List.getElem?_eq_getElem hl] at hb; exact Option.some.inj hb
  rw [this]; exact r.obj
/-- all else stays -/
theorem SR.ext (R : SR W φ H h) (hk : ∀ a o, h.get? a = some o → h'.get? a = some o) : SR W φ H h' :=
  ⟨fun a o e => hk a o (R.keep a o e), R.fresh, R.nodup, R.len, fun l c e => let ⟨a, ha, r⟩ := R.cell l c e; ⟨a, ha, r.mono (own := []) (.ext hk) fun o => hk a o⟩⟩
/-- an object apart changed -/
theorem SR.but {b : Addr} {o o' : Obj} (R : SR W φ H h) (hb : b ∉ φ) (h0 : W.h₀.get? b = none) (ho : h.get? b = some o) (hn : NotTup o) (ho' : h'.get? b = some o') (hs : Heap.ExtBut b h h') : SR W φ H h' := by
  have S : Stp [b] φ h φ h' := .but (.inl (by simp)) ho hn ho' hs
  refine ⟨fun a o e => hs a o (fun e' => by subst e'; rw [h0] at e; cases e) (R.keep a o e), R.fresh, R.nodup, R.len, fun l c e => ?_⟩
  obtain ⟨a, ha, r⟩ := R.cell l c e
  exact ⟨a, ha, r.mono S fun o e => hs a o (fun e' => hb (e' ▸ List.mem_of_getElem? ha)) e⟩
/-- things apart have gone, or changed in any way -/
structure Fin (io : List Addr) (h h' : Heap) : Prop where
  keep : ∀ a o, a ∉ io → h.get? a = some o → h'.get? a = some o
  not : ∀ a ∈ io, ∀ o, h.get? a = some o → NotTup o
theorem Fin.kp {io : List Addr} (S : Fin io h h') : Kp φ h φ h' := ⟨⟨[], by simp⟩, fun a xs n e => S.keep a _ (fun hm => S.not a hm _ e xs n rfl) e⟩
theorem SR.fin {io : List Addr} (R : SR W φ H h) (hio : ∀ a ∈ io, a ∉ φ ∧ W.h₀.get? a = none) (S : Fin io h h') : SR W φ H h' := by
  refine ⟨fun a o e => S.keep a o (fun hm => by rw [(hio a hm).2] at e; cases e) (R.keep a o e), R.fresh, R.nodup, R.len, fun l c e => ?_⟩
  obtain ⟨a, ha, r⟩ := R.cell l c e
  exact ⟨a, ha, r.kp S.kp fun o e => S.keep a o (fun hm => (hio a hm).1 (List.mem_of_getElem? ha)) e⟩
theorem Stp.fin {io : List Addr} {h₁ h₂ : Heap} {φ₁ : List Addr} (S : Stp own φ h φ₁ h₁) (T : Fin io h₁ h₂) (hn : ∀ a ∈ io, h.get? a = none) : Stp own φ h φ₁ h₂ :=
  ⟨S.pre, fun a o e h1 h2 => T.keep a o (fun hm => by rw [hn a hm] at e; cases e) (S.keep a o e h1 h2), S.fresh, fun a xs n e => T.kp (φ := φ).tup _ _ _ (S.tup a xs n e),
    fun a o e => let ⟨o', e'⟩ := S.alive a o e; ⟨o', T.keep a o' (fun hm => by rw [hn a hm] at e; cases e) e'⟩⟩
/-- a new cell -/
theorem SR.alloc {o : Obj} {c : Cell} (R : SR W φ H h) (hf : o.isFreed = false) (hc : CellAt W (φ ++ [h.objs.size]) (h.push o) h.objs.size c) : SR W (φ ++ [h.objs.size]) (H ++ [c]) (h.push o) := by
  have hnew : h.get? h.objs.size = none := by
    cases e : h.get? h.objs.size with
    | none => rfl
    | some o => exact absurd (Heap.lt_size e) (Nat.lt_irrefl _)
  have hnm : h.objs.size ∉ φ := fun hm => by
    obtain ⟨o, e, _⟩ := R.obj hm
    rw [hnew] at e; cases e
  have S : Stp [] φ h (φ ++ [h.objs.size]) (h.push o) := by
    refine ⟨⟨_, rfl⟩, fun a o' e _ _ => Heap.get?_push_of_some o e, fun a h1 h2 => ?_, fun a _ _ e => Heap.get?_push_of_some o e, fun a o' e => ⟨o', Heap.get?_push_of_some o e⟩⟩
    rcases List.mem_append.mp h1 with h1 | h1
    · exact absurd h1 h2
    · rw [List.mem_singleton.mp h1]; exact hnew
  refine ⟨fun a o' e => Heap.get?_push_of_some o (R.keep a o' e), ?_, ?_, by simp [R.len], fun l c' e => ?_⟩
  · intro a ha
    rcases List.mem_append.mp ha with ha | ha
    · exact R.fresh a ha
    · rw [List.mem_singleton.mp ha]
      cases e : W.h₀.get? h.objs.size with
      | none => rfl
      | some o => rw [R.keep _ _ e] at hnew; cases hnew
  · rw [List.nodup_append]
    exact ⟨R.nodup, by simp, fun a ha b hb e => hnm (by rw [List.mem_singleton] at hb; rw [← hb, ← e]; exact ha)⟩
  · by_cases hl : l < H.length
    · rw [List.getElem?_append_left hl] at e
      obtain ⟨a, ha, r⟩ := R.cell l c' e
      exact ⟨a, by rw [List.getElem?_append_left (by rw [R.len]; exact hl)]; exact ha, r.mono S fun o' e => Heap.get?_push_of_some o e⟩
    · have e2 : l = H.length := by
        have := (List.getElem?_eq_some_iff.mp e).1
        simp at this; omega
      subst e2
      rw [List.getElem?_append_right (Nat.le_refl _)] at e
      simp at e
      subst e
      exact ⟨h.objs.size, by rw [← R.len, List.getElem?_append_right (Nat.le_refl _)]; simp, hc⟩
theorem SR.allocStp (R : SR W φ H h) (o : Obj) : Stp own φ h (φ ++ [h.objs.size]) (h.push o) := by
  refine ⟨⟨_, rfl⟩, fun a o' e _ _ => Heap.get?_push_of_some o e, fun a h1 h2 => ?_, fun a _ _ e => Heap.get?_push_of_some o e, fun a o' e => ⟨o', Heap.get?_push_of_some o e⟩⟩
  rcases List.mem_append.mp h1 with h1 | h1
  · exact absurd h1 h2
  · rw [List.mem_singleton.mp h1]
    cases e : h.get? h.objs.size with
    | none => rfl
    | some o => exact absurd (Heap.lt_size e) (Nat.lt_irrefl _)
/-- a cell changed -/
theorem SR.set {l : Nat} {a : Addr} {c : Cell} (R : SR W φ H h) (ha : φ[l]? = some a) (hs : Heap.ExtBut a h h') (hc : CellAt W φ h' a c) : SR W φ (H.set l c) h' := by
  have hm := List.mem_of_getElem? ha
  obtain ⟨o, ho, hn⟩ := R.obj hm
  obtain ⟨o', ho', _⟩ := hc.obj
  have S : Stp [] φ h φ h' := .but (.inr hm) ho hn ho' hs
  refine ⟨fun b o e => hs b o (fun e' => by subst e'; rw [R.fresh _ hm] at e; cases e) (R.keep b o e), R.fresh, R.nodup, by simp [R.len], fun k c' e => ?_⟩
  by_cases hk : k = l
  · subst hk
    have hlt : k < H.length := by rw [← R.len]; exact (List.getElem?_eq_some_iff.mp ha).1
    rw [List.getElem?_set_self hlt] at e
    cases e
    exact ⟨a, ha, hc⟩
  · rw [List.getElem?_set_ne (Ne.symm hk)] at e
    obtain ⟨b, hb, r⟩ := R.cell k c' e
    refine ⟨b, hb, r.mono S fun o e => hs b o (fun e' => hk ?_) e⟩
    subst e'
    have h1 := (List.getElem?_eq_some_iff.mp ha)
    have h2 := (List.getElem?_eq_some_iff.mp hb)
    exact nodup_inj R.nodup h2.1 h1.1 (h2.2.trans h1.2.symm)
end
end Mine

end
section
set_option autoImplicit false
set_option linter.unusedVariables false
set_option linter.unusedSimpArgs false
namespace Mine
open PySem

noncomputable def lk (ns : List Str) (ρ : Env') (x : Str) : Option V := (ρ[ns.idxOf x]?).join

inductive OptRep (scr : Addr) (φ : List Addr) (h : Heap) : Option V → Option Value → Prop
  | none : OptRep scr φ h none none
  | some {v : V} {x : Value} : Rep scr φ h v x → OptRep scr φ h (some v) (some x)

theorem OptRep.mono {own : List Addr} {scr : Addr} {φ φ' : List Addr} {h h' : Heap} (S : Stp own φ h φ' h') {v : Option V} {x : Option Value} (r : OptRep scr φ h v x) : OptRep scr φ' h' v x := by
  cases r with
  | none => exact .none
  | some r => exact .some (r.mono S)

noncomputable def isCellK (k : Option NameKind) : Prop := k = some .cell ∨ k = some .free

structure FR (W : Wo) (env : Env) (ns : List Str) (ρ : Env') (φ : List Addr) (h : Heap) : Prop where
  fn : env.scope.kind = .function
  glob : env.globals = mainGlobals
  blt : env.builtins = builtinsNs
  gen : env.scope.isGenerator = false ∧ env.scope.isCoroutine = false ∧ interactive env = false
  len : ρ.length = ns.length
  loc : ∃ m, h.Ns env.locals m ∧ ∀ x ∈ ns, env.kindOf x = some .local → OptRep W.scr φ h (lk ns ρ x) (m x)
  locA : env.locals ∉ φ ∧ W.h₀.get? env.locals = none
  cel : ∀ x ∈ ns, isCellK (env.kindOf x) → ∃ c v, env.cells.lookup x = some c ∧ c ∉ φ ∧ c ≠ env.locals ∧ W.h₀.get? c = none ∧ h.IsCell c v ∧ OptRep W.scr φ h (lk ns ρ x) v
  apart : ∀ x y c, env.cells.lookup x = some c → env.cells.lookup y = some c → x = y
  alive : ∀ p ∈ env.cells, p.2 ∉ φ ∧ ∃ o, h.get? p.2 = some o

section
variable {W : Wo} {env : Env} {ns : List Str} {ρ : Env'} {own φ φ' : List Addr} {h h' : Heap}

theorem Ns_at {h h' : Heap} {a : Addr} {m : Str → Option Value} (hn : h.Ns a m) (e : ∀ o, h.get? a = some o → h'.get? a = some o) : h'.Ns a m :=
  let ⟨o, es, ep, x, r⟩ := hn; ⟨o, es, ep, e _ x, r⟩
theorem IsCell_at {h h' : Heap} {a : Addr} {v : Option Value} (hn : h.IsCell a v) (e : ∀ o, h.get? a = some o → h'.get? a = some o) : h'.IsCell a v :=
  let ⟨o, x, r⟩ := hn; ⟨o, e _ x, r⟩

/-- what others do leaves the frame as it is -/
theorem FR.mono (F : FR W env ns ρ φ h) (S : Stp own φ h φ' h') (hL : env.locals ∉ own) (hC : ∀ x c, env.cells.lookup x = some c → c ∉ own) : FR W env ns ρ φ' h' := by
  obtain ⟨m, hm, hr⟩ := F.loc
  obtain ⟨o, es, ep, ho, _⟩ := id hm
  have eL : ∀ o, h.get? env.locals = some o → h'.get? env.locals = some o := fun o e => S.keep _ o e F.locA.1 hL
  refine ⟨F.fn, F.glob, F.blt, F.gen, F.len, ?_, ⟨S.notMem ho F.locA.1, F.locA.2⟩, ?_, F.apart, fun p hp => ?_⟩
  · exact ⟨m, Ns_at hm eL, fun x hx hk => (hr x hx hk).mono S⟩
  · intro x hx hk
    obtain ⟨c, v, h1, h2, h3, h4, h5, h6⟩ := F.cel x hx hk
    obtain ⟨o, ho, _⟩ := id h5
    have eC : ∀ o, h.get? c = some o → h'.get? c = some o := fun o e => S.keep _ o e h2 (hC x c h1)
    exact ⟨c, v, h1, S.notMem ho h2, h3, h4, IsCell_at h5 eC, h6.mono S⟩
  · obtain ⟨q1, o, q2⟩ := F.alive p hp
    exact ⟨S.notMem q2 q1, S.alive _ _ q2⟩
theorem OptRep.kp {scr : Addr} {φ φ' : List Addr} {h h' : Heap} (S : Kp φ h φ' h') {v : Option V} {x : Option Value} (r : OptRep scr φ h v x) : OptRep scr φ' h' v x := by
  cases r with
  | none => exact .none
  | some r => exact .some (r.kp S)
theorem FR.fin {io : List Addr} (F : FR W env ns ρ φ h) (S : Fin io h h') (hL : env.locals ∉ io) (hC : ∀ p ∈ env.cells, p.2 ∉ io) : FR W env ns ρ φ h' := by
  have hC' : ∀ x c, env.cells.lookup x = some c → c ∉ io := by
    have : ∀ (l : List (Str × Addr)), (∀ p ∈ l, p.2 ∉ io) → ∀ x c, l.lookup x = some c → c ∉ io := by
      intro l
      induction l with
      | nil => intro _ x c h; cases h
      | cons p l ih =>
        intro hl x c h
        rw [List.lookup_cons] at h
        split at h
        · cases h; exact hl p (.head _)
        · exact ih (fun q hq => hl q (.tail _ hq)) x c h
    exact this _ hC
  obtain ⟨m, hm, hr⟩ := F.loc
  refine ⟨F.fn, F.glob, F.blt, F.gen, F.len, ?_, F.locA, ?_, F.apart, fun p hp => ?_⟩
  · exact ⟨m, Ns_at hm fun o e => S.keep _ o hL e, fun x hx hk => (hr x hx hk).kp S.kp⟩
  · intro x hx hk
    obtain ⟨c, v, h1, h2, h3, h4, h5, h6⟩ := F.cel x hx hk
    exact ⟨c, v, h1, h2, h3, h4, IsCell_at h5 fun o e => S.keep _ o (hC' x c h1) e, h6.kp S.kp⟩
  · obtain ⟨q1, o, q2⟩ := F.alive p hp
    exact ⟨q1, o, S.keep _ _ (hC p hp) q2⟩
theorem FR.mono0 (F : FR W env ns ρ φ h) (S : Stp [] φ h φ' h') : FR W env ns ρ φ' h' := F.mono S (by simp) (by simp)

theorem lk_set {i : Nat} {x y : Str} {v : Option V} (hx : ns.idxOf x = i) (hi : i < ρ.length) : lk ns (ρ.set i v) y = if ns.idxOf y = i then v else lk ns ρ y := by
  unfold lk
  by_cases e : ns.idxOf y = i
  · rw [if_pos e, e, List.getElem?_set_self hi]; rfl
  · rw [if_neg e, List.getElem?_set_ne (Ne.symm e)]

theorem idxOf_inj {x y : Str} (hx : x ∈ ns) (hy : y ∈ ns) (e : ns.idxOf x = ns.idxOf y) : x = y := by
  have h1 := List.idxOf_lt_length_of_mem hx
  have h2 := List.idxOf_lt_length_of_mem hy
  have e1 : ns[ns.idxOf x]? = some x := by rw [List.getElem?_eq_getElem h1]; simp
  have e2 : ns[ns.idxOf y]? = some y := by rw [List.getElem?_eq_getElem h2]; simp
  rw [e] at e1
  exact Option.some.inj (e1.symm.trans e2)
end
end Mine

end
section
set_option autoImplicit false
set_option linter.unusedVariables false
set_option linter.unusedSimpArgs false
namespace Mine
open PySem
theorem evalE_k (C : Ctx) (v : V) (ρ : Env') (H : Hp) : evalE C (.k v) ρ H = (.ok v H) := rfl
theorem evalE_var (C : Ctx) (i : Nat) (ρ : Env') (H : Hp) : evalE C (.var i) ρ H = (ofOpt H (ρ[i]?.join)) := rfl
theorem evalE_bin (C : Ctx) (op : BOp) (a b : E) (ρ : Env') (H : Hp) : evalE C (.bin op a b) ρ H = ((evalE C a ρ H).bind fun x H => (evalE C b ρ H).bind fun y H => binop op x y H) := rfl
theorem evalE_neg (C : Ctx) (a : E) (ρ : Env') (H : Hp) : evalE C (.neg a) ρ H = ((evalE C a ρ H).bind fun x H => match x with
      | .int i => .ok (.int (-i)) H
      | _ => .stuck) := rfl
theorem evalE_not (C : Ctx) (a : E) (ρ : Env') (H : Hp) : evalE C (.not a) ρ H = ((evalE C a ρ H).bind fun x H => (ofOpt H (truthy C.scr H x)).bind fun b H => .ok (.bool (!b)) H) := rfl
theorem evalE_and (C : Ctx) (es : List E) (ρ : Env') (H : Hp) : evalE C (.and es) ρ H = (evalAnd C es ρ H) := rfl
theorem evalE_or (C : Ctx) (es : List E) (ρ : Env') (H : Hp) : evalE C (.or es) ρ H = (evalOr C es ρ H) := rfl
theorem evalE_ife (C : Ctx) (c a b : E) (ρ : Env') (H : Hp) : evalE C (.ife c a b) ρ H = ((evalE C c ρ H).bind fun x H => (ofOpt H (truthy C.scr H x)).bind fun t H => if t then evalE C a ρ H else evalE C b ρ H) := rfl
theorem evalE_cmp (C : Ctx) (op : COp) (a b : E) (ρ : Env') (H : Hp) : evalE C (.cmp op a b) ρ H = ((evalE C a ρ H).bind fun x H => (evalE C b ρ H).bind fun y H => (ofOpt H (cmpV C.scr op x y H)).bind fun t H => .ok (.bool t) H) := rfl
theorem evalE_cmp2 (C : Ctx) (a : E) (o1 : COp) (b : E) (o2 : COp) (c : E) (ρ : Env') (H : Hp) : evalE C (.cmp2 a o1 b o2 c) ρ H = ((evalE C a ρ H).bind fun x H => (evalE C b ρ H).bind fun y H => (ofOpt H (cmpV C.scr o1 x y H)).bind fun t H =>
        if t then (evalE C c ρ H).bind fun z H => (ofOpt H (cmpV C.scr o2 y z H)).bind fun t H => .ok (.bool t) H else .ok (.bool false) H) := rfl
theorem evalE_isNone (C : Ctx) (a : E) (ρ : Env') (H : Hp) : evalE C (.isNone a) ρ H = ((evalE C a ρ H).bind fun x H => .ok (.bool (isNoneV x)) H) := rfl
theorem evalE_notNone (C : Ctx) (a : E) (ρ : Env') (H : Hp) : evalE C (.notNone a) ρ H = ((evalE C a ρ H).bind fun x H => .ok (.bool (!isNoneV x)) H) := rfl
theorem evalE_tup (C : Ctx) (es : List E) (ρ : Env') (H : Hp) : evalE C (.tup es) ρ H = ((evalEs C es ρ H).bind fun vs H => .ok (.tup vs) H) := rfl
theorem evalE_lst (C : Ctx) (es : List E) (ρ : Env') (H : Hp) : evalE C (.lst es) ρ H = ((evalEs C es ρ H).bind fun vs H => alloc (.list vs) H) := rfl
theorem evalE_idx (C : Ctx) (a i : E) (ρ : Env') (H : Hp) : evalE C (.idx a i) ρ H = ((evalE C a ρ H).bind fun x H => (evalE C i ρ H).bind fun y H => ofOpt H (idxV C.scr x y H)) := rfl
theorem evalE_slc (C : Ctx) (a : E) (lo hi : Option E) (ρ : Env') (H : Hp) : evalE C (.slc a lo hi) ρ H = ((evalE C a ρ H).bind fun x H => (evalO C lo ρ H).bind fun l H => (evalO C hi ρ H).bind fun h H => slcV C.scr x l h H) := rfl
theorem evalE_call (C : Ctx) (f : Nat) (es : List E) (ρ : Env') (H : Hp) : evalE C (.call f es) ρ H = ((evalEs C es ρ H).bind fun vs H => C.call f vs H) := rfl
theorem evalE_bi (C : Ctx) (b : Bi) (es : List E) (ρ : Env') (H : Hp) : evalE C (.bi b es) ρ H = ((evalEs C es ρ H).bind fun vs H => biV C.scr b vs H) := rfl
theorem evalE_minD (C : Ctx) (a d : E) (ρ : Env') (H : Hp) : evalE C (.minD a d) ρ H = ((evalE C a ρ H).bind fun x H => (evalE C d ρ H).bind fun y H => minDV x y H) := rfl
theorem evalE_meth (C : Ctx) (m : Me) (a : E) (es : List E) (ρ : Env') (H : Hp) : evalE C (.meth m a es) ρ H = ((evalE C a ρ H).bind fun x H => if meKind m H x then (evalEs C es ρ H).bind fun vs H => methV m x vs H else .stuck) := rfl
theorem evalE_listOf_of (C : Ctx) (e : E) (ρ : Env') (H : Hp) : evalE C (.listOf e) ρ H = ((evalE C e ρ H).bind fun x H => (ofOpt H (itemsOf C.scr H x)).bind fun vs H => allocL vs H) := rfl
theorem execS_expr (C : Ctx) (e : E) (ρ : Env') (H : Hp) : execS C (.expr e) ρ H = ((evalE C e ρ H).out ρ fun _ H => .next ρ H) := rfl
theorem execS_asg (C : Ctx) (t : Tgt) (e : E) (ρ : Env') (H : Hp) : execS C (.asg t e) ρ H = ((evalE C e ρ H).out ρ fun v H => match asg t v ρ with
    | some ρ' => .next ρ' H
    | none => .stuck) := rfl
theorem execS_setIdx (C : Ctx) (a i e : E) (ρ : Env') (H : Hp) : execS C (.setIdx a i e) ρ H = ((evalE C e ρ H).out ρ fun v H => (evalE C a ρ H).out ρ fun x H => (evalE C i ρ H).out ρ fun k H => match setIdxV x k v H with
    | some H' => .next ρ H'
    | none => .stuck) := rfl
theorem execS_ret (C : Ctx) (e : E) (ρ : Env') (H : Hp) : execS C (.ret e) ρ H = ((evalE C e ρ H).out ρ fun v H => .ret v H) := rfl
theorem execS_ife (C : Ctx) (c : E) (a b : List S) (ρ : Env') (H : Hp) : execS C (.ife c a b) ρ H = ((tst C c ρ H).out ρ fun t H => if t then execSs C a ρ H else execSs C b ρ H) := rfl
theorem evalE_comp0 (C : Ctx) (nl : Nat) (elt : E) (t : Tgt) (it : It) (cs : List E) (ρ : Env') (H : Hp) : evalE C (.comp nl elt t it cs) ρ H = ((evalIt C it ρ H).bind fun p H => (compG p.2 H t (fun ρ H => tests C cs ρ H) (fun ρ H => evalE C elt ρ H) p.1 (List.replicate nl none ++ ρ) H []).bind fun vs H => allocL vs H) := rfl
theorem execS_for0 (C : Ctx) (t : Tgt) (it : It) (body : List S) (ρ : Env') (H : Hp) : execS C (.for t it body) ρ H = ((evalIt C it ρ H).out ρ fun p H => forG p.2 H t (fun ρ H => execSs C body ρ H) p.1 ρ H) := rfl
theorem execS_while0 (C : Ctx) (c : E) (body : List S) (ρ : Env') (H : Hp) : execS C (.while c body) ρ H = whileG (fun ρ H => tst C c ρ H) (fun ρ H => execSs C body ρ H) (weight ρ) ρ H := rfl
theorem evalEs_nil (C : Ctx) (ρ : Env') (H : Hp) : evalEs C [] ρ H = .ok [] H := rfl
theorem evalEs_cons (C : Ctx) (e : E) (r : List E) (ρ : Env') (H : Hp) : evalEs C (e :: r) ρ H = ((evalE C e ρ H).bind fun v H => (evalEs C r ρ H).bind fun vs H => .ok (v :: vs) H) := rfl
theorem evalAnd_nil (C : Ctx) (ρ : Env') (H : Hp) : evalAnd C [] ρ H = .stuck := rfl
theorem evalOr_nil (C : Ctx) (ρ : Env') (H : Hp) : evalOr C [] ρ H = .stuck := rfl
theorem evalAnd_cons (C : Ctx) (e : E) (r : List E) (ρ : Env') (H : Hp) : evalAnd C (e :: r) ρ H = ((evalE C e ρ H).bind fun x H => match r with
    | [] => .ok x H
    | _ :: _ => (ofOpt H (truthy C.scr H x)).bind fun t H => if t then evalAnd C r ρ H else .ok x H) := rfl
theorem evalOr_cons (C : Ctx) (e : E) (r : List E) (ρ : Env') (H : Hp) : evalOr C (e :: r) ρ H = ((evalE C e ρ H).bind fun x H => match r with
    | [] => .ok x H
    | _ :: _ => (ofOpt H (truthy C.scr H x)).bind fun t H => if t then .ok x H else evalOr C r ρ H) := rfl
theorem tests_nil (C : Ctx) (ρ : Env') (H : Hp) : tests C [] ρ H = .ok true H := rfl
theorem tests_cons (C : Ctx) (e : E) (r : List E) (ρ : Env') (H : Hp) : tests C (e :: r) ρ H = ((evalE C e ρ H).bind fun x H => (ofOpt H (truthy C.scr H x)).bind fun t H => if t then tests C r ρ H else .ok false H) := rfl
theorem evalO_none (C : Ctx) (ρ : Env') (H : Hp) : evalO C none ρ H = .ok .none H := rfl
theorem evalO_some (C : Ctx) (e : E) (ρ : Env') (H : Hp) : evalO C (some e) ρ H = evalE C e ρ H := rfl
theorem evalIt_of (C : Ctx) (e : E) (ρ : Env') (H : Hp) : evalIt C (.of e) ρ H = ((evalE C e ρ H).bind fun x H => (ofOpt H (seqOf C.scr H x)).bind fun vs H => .ok (vs, watch x) H) := rfl
theorem evalIt_range (C : Ctx) (a b : E) (ρ : Env') (H : Hp) : evalIt C (.range a b) ρ H = ((evalE C a ρ H).bind fun x H => (evalE C b ρ H).bind fun y H => match x, y with
    | .int i, .int j => if i.natAbs < 2 ^ 60 ∧ j.natAbs < 2 ^ 60 then .ok (rangeV i j, []) H else .stuck
    | _, _ => .stuck) := rfl
theorem evalIt_enum (C : Ctx) (e : E) (ρ : Env') (H : Hp) : evalIt C (.enum e) ρ H = ((evalE C e ρ H).bind fun x H => (ofOpt H (lstOf C.scr H x)).bind fun vs H => .ok (enumV 0 vs, watch x) H) := rfl
theorem execSs_nil0 (C : Ctx) (ρ : Env') (H : Hp) : execSs C [] ρ H = .next ρ H := rfl
theorem execSs_cons0 (C : Ctx) (s : S) (r : List S) (ρ : Env') (H : Hp) : execSs C (s :: r) ρ H = (match execS C s ρ H with
    | .next ρ' H' => execSs C r ρ' H'
    | o => o) := rfl
end Mine

end
section
set_option autoImplicit false
set_option linter.unusedVariables false
set_option linter.unusedSimpArgs false
namespace Mine
open PySem

/-- the text's own names: defs, constants -/
structure CK where
  fns : List Str
  gks : List Str

noncomputable def isVarK : Option NameKind → Bool
  | some .local => true
  | some .cell => true
  | some .free => true
  | _ => false
noncomputable def isGlobK : Option NameKind → Bool
  | some .globalImplicit => true
  | _ => false

noncomputable def okVar (ns : List Str) (i : Nat) (x : Str) : Bool := decide (ns.idxOf x = i) && decide (i < ns.length)
noncomputable def okGlob (sc : Scope) (x : Str) : Bool := isGlobK (sc.names.lookup x) && !(x == ("__debug__" : Str))

noncomputable def chkC (v : V) (c : Const) : Bool := match v with
  | .none => decide (c = .none)
  | .bool b => decide (c = .bool b)
  | .int i => decide (c = .int i)
  | _ => false
noncomputable def opOf : BOp → Operator
  | .add => .Add
  | .sub => .Sub
  | .mul => .Mult
  | .fdiv => .FloorDiv
  | .mod => .Mod
  | .pow => .Pow
noncomputable def opOk (op : BOp) (o : Operator) : Bool := decide (o = opOf op)
noncomputable def copOf : COp → CmpOp
  | .eq => .Eq
  | .ne => .NotEq
  | .lt => .Lt
  | .le => .LtE
  | .gt => .Gt
  | .isIn => .In
  | .notIn => .NotIn
noncomputable def copOk (op : COp) (o : CmpOp) : Bool := decide (o = copOf op)

/-- the type that isinstance asks for -/
noncomputable def isiName : Bi → Option String
  | .isInt => some "int"
  | .isBool => some "bool"
  | .isTuple => some "tuple"
  | _ => none
/-- built-ins called by their own name with plain arguments -/
noncomputable def biName : Bi → Option (Str × Nat)
  | .len => some ("len", 1)
  | .maxL => some ("max", 1)
  | .max2 => some ("max", 2)
  | .tupleOf => some ("tuple", 1)
  | _ => none
noncomputable def isNameE (x : Expr) : Bool := decide (x.ctorIdx = 23)
noncomputable def isTupE (x : Expr) : Bool := decide (x.ctorIdx = 25)

theorem got {c : Prop} [i : Decidable c] {t : c → Bool} (h : (if hc : c then t hc else false) = true) : c :=
  match i, h with
  | .isTrue hc, _ => hc
noncomputable def ifConst (x : Expr) (f : Const → Bool) : Bool := if h : x.ctorIdx = 19 then Expr.Constant.elim (motive_1 := fun _ => Bool) x h (fun c _ _ => f c) else false
theorem ifConst.spec {x : Expr} {f : Const → Bool} (h : ifConst x f = true) : ∃ c k p, x = .Constant c k p ∧ f c = true :=
  Expr.Constant.elim (motive_1 := fun x => ifConst x f = true → ∃ c k p, x = .Constant c k p ∧ f c = true) x (got h) (fun a0 a1 a2 h => ⟨a0, a1, a2, rfl, h⟩) h
noncomputable def ifName (x : Expr) (f : Str → Bool) : Bool := if h : x.ctorIdx = 23 then Expr.Name.elim (motive_1 := fun _ => Bool) x h (fun y _ => f y) else false
theorem ifName.spec {x : Expr} {f : Str → Bool} (h : ifName x f = true) : ∃ y p, x = .Name y p ∧ f y = true :=
  Expr.Name.elim (motive_1 := fun x => ifName x f = true → ∃ y p, x = .Name y p ∧ f y = true) x (got h) (fun a0 a1 h => ⟨a0, a1, rfl, h⟩) h
noncomputable def ifBin (x : Expr) (f : Expr → Operator → Expr → Bool) : Bool := if h : x.ctorIdx = 2 then Expr.BinOp.elim (motive_1 := fun _ => Bool) x h (fun l o r _ => f l o r) else false
theorem ifBin.spec {x : Expr} {f : Expr → Operator → Expr → Bool} (h : ifBin x f = true) : ∃ l o r p, x = .BinOp l o r p ∧ f l o r = true :=
  Expr.BinOp.elim (motive_1 := fun x => ifBin x f = true → ∃ l o r p, x = .BinOp l o r p ∧ f l o r = true) x (got h) (fun a0 a1 a2 a3 h => ⟨a0, a1, a2, a3, rfl, h⟩) h
noncomputable def ifUn (x : Expr) (f : UnaryOp → Expr → Bool) : Bool := if h : x.ctorIdx = 3 then Expr.UnaryOp.elim (motive_1 := fun _ => Bool) x h (fun o y _ => f o y) else false
theorem ifUn.spec {x : Expr} {f : UnaryOp → Expr → Bool} (h : ifUn x f = true) : ∃ o y p, x = .UnaryOp o y p ∧ f o y = true :=
  Expr.UnaryOp.elim (motive_1 := fun x => ifUn x f = true → ∃ o y p, x = .UnaryOp o y p ∧ f o y = true) x (got h) (fun a0 a1 a2 h => ⟨a0, a1, a2, rfl, h⟩) h
noncomputable def ifBool (x : Expr) (f : BoolOp → List Expr → Bool) : Bool := if h : x.ctorIdx = 0 then Expr.BoolOp.elim (motive_1 := fun _ => Bool) x h (fun o ys _ => f o ys) else false
theorem ifBool.spec {x : Expr} {f : BoolOp → List Expr → Bool} (h : ifBool x f = true) : ∃ o ys p, x = .BoolOp o ys p ∧ f o ys = true :=
  Expr.BoolOp.elim (motive_1 := fun x => ifBool x f = true → ∃ o ys p, x = .BoolOp o ys p ∧ f o ys = true) x (got h) (fun a0 a1 a2 h => ⟨a0, a1, a2, rfl, h⟩) h
noncomputable def ifIfe (x : Expr) (f : Expr → Expr → Expr → Bool) : Bool := if h : x.ctorIdx = 5 then Expr.IfExp.elim (motive_1 := fun _ => Bool) x h (fun t y z _ => f t y z) else false
theorem ifIfe.spec {x : Expr} {f : Expr → Expr → Expr → Bool} (h : ifIfe x f = true) : ∃ t y z p, x = .IfExp t y z p ∧ f t y z = true :=
  Expr.IfExp.elim (motive_1 := fun x => ifIfe x f = true → ∃ t y z p, x = .IfExp t y z p ∧ f t y z = true) x (got h) (fun a0 a1 a2 a3 h => ⟨a0, a1, a2, a3, rfl, h⟩) h
noncomputable def ifCmp (x : Expr) (f : Expr → List CmpOp → List Expr → Bool) : Bool := if h : x.ctorIdx = 15 then Expr.Compare.elim (motive_1 := fun _ => Bool) x h (fun l os rs _ => f l os rs) else false
theorem ifCmp.spec {x : Expr} {f : Expr → List CmpOp → List Expr → Bool} (h : ifCmp x f = true) : ∃ l os rs p, x = .Compare l os rs p ∧ f l os rs = true :=
  Expr.Compare.elim (motive_1 := fun x => ifCmp x f = true → ∃ l os rs p, x = .Compare l os rs p ∧ f l os rs = true) x (got h) (fun a0 a1 a2 a3 h => ⟨a0, a1, a2, a3, rfl, h⟩) h
noncomputable def ifTuple (x : Expr) (f : List Expr → Bool) : Bool := if h : x.ctorIdx = 25 then Expr.Tuple.elim (motive_1 := fun _ => Bool) x h (fun ys _ _ => f ys) else false
theorem ifTuple.spec {x : Expr} {f : List Expr → Bool} (h : ifTuple x f = true) : ∃ ys k p, x = .Tuple ys k p ∧ f ys = true :=
  Expr.Tuple.elim (motive_1 := fun x => ifTuple x f = true → ∃ ys k p, x = .Tuple ys k p ∧ f ys = true) x (got h) (fun a0 a1 a2 h => ⟨a0, a1, a2, rfl, h⟩) h
noncomputable def ifList (x : Expr) (f : List Expr → Bool) : Bool := if h : x.ctorIdx = 24 then Expr.List.elim (motive_1 := fun _ => Bool) x h (fun ys _ => f ys) else false
theorem ifList.spec {x : Expr} {f : List Expr → Bool} (h : ifList x f = true) : ∃ ys p, x = .List ys p ∧ f ys = true :=
  Expr.List.elim (motive_1 := fun x => ifList x f = true → ∃ ys p, x = .List ys p ∧ f ys = true) x (got h) (fun a0 a1 h => ⟨a0, a1, rfl, h⟩) h
noncomputable def ifSub (x : Expr) (f : Expr → Expr → Bool) : Bool := if h : x.ctorIdx = 21 then Expr.Subscript.elim (motive_1 := fun _ => Bool) x h (fun y z _ => f y z) else false
theorem ifSub.spec {x : Expr} {f : Expr → Expr → Bool} (h : ifSub x f = true) : ∃ y z p, x = .Subscript y z p ∧ f y z = true :=
  Expr.Subscript.elim (motive_1 := fun x => ifSub x f = true → ∃ y z p, x = .Subscript y z p ∧ f y z = true) x (got h) (fun a0 a1 a2 h => ⟨a0, a1, a2, rfl, h⟩) h
noncomputable def ifSlice (x : Expr) (f : Option Expr → Option Expr → Option Expr → Bool) : Bool := if h : x.ctorIdx = 26 then Expr.Slice.elim (motive_1 := fun _ => Bool) x h (fun l u t _ => f l u t) else false
theorem ifSlice.spec {x : Expr} {f : Option Expr → Option Expr → Option Expr → Bool} (h : ifSlice x f = true) : ∃ l u t p, x = .Slice l u t p ∧ f l u t = true :=
  Expr.Slice.elim (motive_1 := fun x => ifSlice x f = true → ∃ l u t p, x = .Slice l u t p ∧ f l u t = true) x (got h) (fun a0 a1 a2 a3 h => ⟨a0, a1, a2, a3, rfl, h⟩) h
noncomputable def ifCall (x : Expr) (f : Expr → List Expr → List Keyword → Pos → Bool) : Bool := if h : x.ctorIdx = 16 then Expr.Call.elim (motive_1 := fun _ => Bool) x h (fun g ys ks p => f g ys ks p) else false
theorem ifCall.spec {x : Expr} {f : Expr → List Expr → List Keyword → Pos → Bool} (h : ifCall x f = true) : ∃ g ys ks p, x = .Call g ys ks p ∧ f g ys ks p = true :=
  Expr.Call.elim (motive_1 := fun x => ifCall x f = true → ∃ g ys ks p, x = .Call g ys ks p ∧ f g ys ks p = true) x (got h) (fun a0 a1 a2 a3 h => ⟨a0, a1, a2, a3, rfl, h⟩) h
noncomputable def ifAttr (x : Expr) (f : Expr → Str → Pos → Bool) : Bool := if h : x.ctorIdx = 20 then Expr.Attribute.elim (motive_1 := fun _ => Bool) x h (fun o y p => f o y p) else false
theorem ifAttr.spec {x : Expr} {f : Expr → Str → Pos → Bool} (h : ifAttr x f = true) : ∃ o y p, x = .Attribute o y p ∧ f o y p = true :=
  Expr.Attribute.elim (motive_1 := fun x => ifAttr x f = true → ∃ o y p, x = .Attribute o y p ∧ f o y p = true) x (got h) (fun a0 a1 a2 h => ⟨a0, a1, a2, rfl, h⟩) h
noncomputable def ifComp (x : Expr) (f : Expr → List Comprehension → Scope → Bool) : Bool := if h : x.ctorIdx = 8 then Expr.ListComp.elim (motive_1 := fun _ => Bool) x h (fun e gs c _ => f e gs c) else false
theorem ifComp.spec {x : Expr} {f : Expr → List Comprehension → Scope → Bool} (h : ifComp x f = true) : ∃ e gs c p, x = .ListComp e gs c p ∧ f e gs c = true :=
  Expr.ListComp.elim (motive_1 := fun x => ifComp x f = true → ∃ e gs c p, x = .ListComp e gs c p ∧ f e gs c = true) x (got h) (fun a0 a1 a2 a3 h => ⟨a0, a1, a2, a3, rfl, h⟩) h
noncomputable def isExprS (x : Stmt) (f : Expr → Bool) : Bool := if h : x.ctorIdx = 24 then Stmt.Expr.elim (motive_2 := fun _ => Bool) x h (fun e _ => f e) else false
theorem isExprS.spec {x : Stmt} {f : Expr → Bool} (h : isExprS x f = true) : ∃ e p, x = .Expr e p ∧ f e = true :=
  Stmt.Expr.elim (motive_2 := fun x => isExprS x f = true → ∃ e p, x = .Expr e p ∧ f e = true) x (got h) (fun a0 a1 h => ⟨a0, a1, rfl, h⟩) h
noncomputable def isAssign (x : Stmt) (f : List Expr → Expr → Bool) : Bool := if h : x.ctorIdx = 5 then Stmt.Assign.elim (motive_2 := fun _ => Bool) x h (fun ts e _ => f ts e) else false
theorem isAssign.spec {x : Stmt} {f : List Expr → Expr → Bool} (h : isAssign x f = true) : ∃ ts e p, x = .Assign ts e p ∧ f ts e = true :=
  Stmt.Assign.elim (motive_2 := fun x => isAssign x f = true → ∃ ts e p, x = .Assign ts e p ∧ f ts e = true) x (got h) (fun a0 a1 a2 h => ⟨a0, a1, a2, rfl, h⟩) h
noncomputable def isReturn (x : Stmt) (f : Option Expr → Bool) : Bool := if h : x.ctorIdx = 3 then Stmt.Return.elim (motive_2 := fun _ => Bool) x h (fun e _ => f e) else false
theorem isReturn.spec {x : Stmt} {f : Option Expr → Bool} (h : isReturn x f = true) : ∃ e p, x = .Return e p ∧ f e = true :=
  Stmt.Return.elim (motive_2 := fun x => isReturn x f = true → ∃ e p, x = .Return e p ∧ f e = true) x (got h) (fun a0 a1 h => ⟨a0, a1, rfl, h⟩) h
noncomputable def isIf (x : Stmt) (f : Expr → List Stmt → List Stmt → Bool) : Bool := if h : x.ctorIdx = 12 then Stmt.If.elim (motive_2 := fun _ => Bool) x h (fun t a b _ => f t a b) else false
theorem isIf.spec {x : Stmt} {f : Expr → List Stmt → List Stmt → Bool} (h : isIf x f = true) : ∃ t a b p, x = .If t a b p ∧ f t a b = true :=
  Stmt.If.elim (motive_2 := fun x => isIf x f = true → ∃ t a b p, x = .If t a b p ∧ f t a b = true) x (got h) (fun a0 a1 a2 a3 h => ⟨a0, a1, a2, a3, rfl, h⟩) h
noncomputable def isFor (x : Stmt) (f : Expr → Expr → List Stmt → List Stmt → Bool) : Bool := if h : x.ctorIdx = 9 then Stmt.For.elim (motive_2 := fun _ => Bool) x h (fun t i a b _ => f t i a b) else false
theorem isFor.spec {x : Stmt} {f : Expr → Expr → List Stmt → List Stmt → Bool} (h : isFor x f = true) : ∃ t i a b p, x = .For t i a b p ∧ f t i a b = true :=
  Stmt.For.elim (motive_2 := fun x => isFor x f = true → ∃ t i a b p, x = .For t i a b p ∧ f t i a b = true) x (got h) (fun a0 a1 a2 a3 a4 h => ⟨a0, a1, a2, a3, a4, rfl, h⟩) h
noncomputable def isWhile (x : Stmt) (f : Expr → List Stmt → List Stmt → Bool) : Bool := if h : x.ctorIdx = 11 then Stmt.While.elim (motive_2 := fun _ => Bool) x h (fun t a b _ => f t a b) else false
theorem isWhile.spec {x : Stmt} {f : Expr → List Stmt → List Stmt → Bool} (h : isWhile x f = true) : ∃ t a b p, x = .While t a b p ∧ f t a b = true :=
  Stmt.While.elim (motive_2 := fun x => isWhile x f = true → ∃ t a b p, x = .While t a b p ∧ f t a b = true) x (got h) (fun a0 a1 a2 a3 h => ⟨a0, a1, a2, a3, rfl, h⟩) h
noncomputable def if1 {α : Type} (l : List α) (f : α → Bool) : Bool := match l with
  | [a] => f a
  | _ => false
noncomputable def if2 {α : Type} (l : List α) (f : α → α → Bool) : Bool := match l with
  | [a, b] => f a b
  | _ => false
noncomputable def ifCons {α : Type} (l : List α) (f : α → List α → Bool) : Bool := match l with
  | a :: r => f a r
  | _ => false
noncomputable def ifSome {α : Type} (l : Option α) (f : α → Bool) : Bool := match l with
  | some a => f a
  | _ => false
theorem if1.spec {α : Type} {l : List α} {f : α → Bool} (h : if1 l f = true) : ∃ a, l = [a] ∧ f a = true := by
  rcases l with _ | ⟨a, _ | ⟨b, l⟩⟩
  · exact Bool.noConfusion h
  · exact ⟨a, rfl, h⟩
  · exact Bool.noConfusion h
theorem if2.spec {α : Type} {l : List α} {f : α → α → Bool} (h : if2 l f = true) : ∃ a b, l = [a, b] ∧ f a b = true := by
  rcases l with _ | ⟨a, _ | ⟨b, _ | ⟨c, l⟩⟩⟩
  · exact Bool.noConfusion h
  · exact Bool.noConfusion h
  · exact ⟨a, b, rfl, h⟩
  · exact Bool.noConfusion h
theorem ifCons.spec {α : Type} {l : List α} {f : α → List α → Bool} (h : ifCons l f = true) : ∃ a r, l = a :: r ∧ f a r = true := by
  rcases l with _ | ⟨a, l⟩
  · exact Bool.noConfusion h
  · exact ⟨a, l, rfl, h⟩
theorem ifSome.spec {α : Type} {l : Option α} {f : α → Bool} (h : ifSome l f = true) : ∃ a, l = some a ∧ f a = true := by
  cases l
  · exact Bool.noConfusion h
  · exact ⟨_, rfl, h⟩
noncomputable def isZeroE (a : E) : Bool := if h : a.ctorIdx = 0 then E.k.elim (motive_1 := fun _ => Bool) a h (fun v => if h : v.ctorIdx = 2 then V.int.elim (motive_1 := fun _ => Bool) v h (fun i => decide (i = 0)) else false) else false
theorem isZeroE.spec {a : E} (h : isZeroE a = true) : a = .k (.int 0) :=
  E.k.elim (motive_1 := fun a => isZeroE a = true → a = .k (.int 0)) a (got h) (fun v h => V.int.elim (motive_1 := fun v => isZeroE (.k v) = true → E.k v = .k (.int 0)) v (got (c := v.ctorIdx = 2) h) (fun i h => of_decide_eq_true (p := i = 0) h ▸ rfl) h) h
noncomputable def ifGen (g : Comprehension) (f : Expr → Expr → List Expr → Bool) : Bool := decide (g.is_async = 0) && f g.target g.iter g.ifs
theorem ifGen.spec {g : Comprehension} {f : Expr → Expr → List Expr → Bool} (h : ifGen g f = true) : ∃ tg it ifs, g = ⟨tg, it, ifs, 0⟩ ∧ f tg it ifs = true := by
  obtain ⟨tg, it, ifs, a⟩ := g
  have h := Bool.and_eq_true_iff.mp h
  obtain rfl : a = 0 := of_decide_eq_true h.1
  exact ⟨tg, it, ifs, rfl, h.2⟩
noncomputable def ifKw (g : Keyword) (f : Str → Expr → Bool) : Bool := match g with
  | ⟨some y, v, _⟩ => f y v
  | _ => false
theorem ifKw.spec {g : Keyword} {f : Str → Expr → Bool} (h : ifKw g f = true) : ∃ y v p, g = ⟨some y, v, p⟩ ∧ f y v = true := by
  obtain ⟨n, v, p⟩ := g
  cases n
  · exact Bool.noConfusion h
  · exact ⟨_, _, _, rfl, h⟩

noncomputable def isOwnK : Option NameKind → Bool
  | some .local => true
  | some .cell => true
  | _ => false
mutual
noncomputable def chkT (sc : Scope) (ns : List Str) : Tgt → Expr → Bool
  | .var i, e => ifName e fun x => okVar ns i x && isOwnK (sc.names.lookup x)
  | .tup ts, e => ifTuple e fun es => chkTs sc ns ts es
noncomputable def chkTs (sc : Scope) (ns : List Str) : List Tgt → List Expr → Bool
  | [], es => es.isEmpty
  | t :: ts, es => ifCons es fun e es => chkT sc ns t e && chkTs sc ns ts es
end

mutual
noncomputable def tNames : Tgt → Expr → List Str
  | .var _, .Name x _ => [x]
  | .tup ts, .Tuple es _ _ => tNamess ts es
  | _, _ => []
noncomputable def tNamess : List Tgt → List Expr → List Str
  | t :: ts, e :: es => tNames t e ++ tNamess ts es
  | _, _ => []
end

/-- a comprehension's own scope, within the scope around it -/
noncomputable def scIn (out : Scope) (ns : List Str) (loc : List Str) (sc : Scope) : Bool :=
  (match sc.kind with | .function => true | _ => false) && !sc.isGenerator && !sc.isCoroutine && sc.more.isEmpty &&
  decide ((sc.names.map (·.1)).Nodup) &&
  sc.names.all (fun p => match p.2 with
    | .local => p.1 == (".0" : Str) || loc.contains p.1
    | .cell => false
    | .free => ns.contains p.1 && !loc.contains p.1 && (match out.names.lookup p.1 with | some .cell => true | some .free => true | _ => false)
    | .globalImplicit => true
    | .globalExplicit => false) &&
  loc.all (fun x => match sc.names.lookup x with | some .local => true | _ => false) && !ns.contains (".0" : Str)

noncomputable def tgOk (it : It) (tg : Expr) : Bool := match it with
  | .enum _ => isTupE tg
  | _ => isTupE tg || isNameE tg

mutual
noncomputable def chkE (K : CK) (sc : Scope) (ns : List Str) : E → Expr → Bool
  | .k v, x => ifConst x fun c => chkC v c
  | .var i, x => ifName x fun x => okVar ns i x && isVarK (sc.names.lookup x) && !(x == ("__debug__" : Str)) && !(x == ("__classdict__" : Str))
  | .bin op a b, x => ifBin x fun l o r => opOk op o && chkE K sc ns a l && chkE K sc ns b r
  | .neg a, x => ifUn x fun o y => decide (o = .USub) && chkE K sc ns a y
  | .not a, x => ifUn x fun o y => decide (o = .Not) && chkE K sc ns a y
  | .and es, x => ifBool x fun o xs => decide (o = .And) && chkEs K sc ns es xs
  | .or es, x => ifBool x fun o xs => decide (o = .Or) && chkEs K sc ns es xs
  | .ife c a b, x => ifIfe x fun t y z => chkE K sc ns c t && chkE K sc ns a y && chkE K sc ns b z
  | .cmp op a b, x => ifCmp x fun l os rs => if1 os fun o => if1 rs fun r => copOk op o && chkE K sc ns a l && chkE K sc ns b r
  | .cmp2 a o1 b o2 c, x => ifCmp x fun l os rs => if2 os fun p1 p2 => if2 rs fun r1 r2 => copOk o1 p1 && copOk o2 p2 && chkE K sc ns a l && chkE K sc ns b r1 && chkE K sc ns c r2
  | .isNone a, x => ifCmp x fun l os rs => if1 os fun o => decide (o = .Is) && if1 rs fun r => ifConst r fun c => decide (c = .none) && chkE K sc ns a l
  | .notNone a, x => ifCmp x fun l os rs => if1 os fun o => decide (o = .IsNot) && if1 rs fun r => ifConst r fun c => decide (c = .none) && chkE K sc ns a l
  | .tup es, x => ifTuple x fun xs => chkEs K sc ns es xs && decide (xs.length < 1000)
  | .lst es, x => ifList x fun xs => chkEs K sc ns es xs && decide (xs.length < 1000)
  | .idx a i, x => ifSub x fun v s => chkE K sc ns a v && chkE K sc ns i s
  | .slc a lo hi, x => ifSub x fun v s => ifSlice s fun l u t => t.isNone && chkE K sc ns a v && chkO K sc ns lo l && chkO K sc ns hi u
  | .call f es, x => ifCall x fun g xs kws _ => kws.isEmpty && ifName g fun x => decide (K.fns[f]? = some x) && okGlob sc x && decide (xs.length < 20) && chkEs K sc ns es xs
  | .bi b es, x => ifCall x fun g xs kws _ => kws.isEmpty && ifName g fun x => okGlob sc x && (match biName b with
      | some q => x == q.1 && decide (xs.length = q.2) && chkEs K sc ns es xs
      | none => match isiName b with
        | some t => x == ("isinstance" : Str) && if2 xs fun e nm => ifName nm fun y => y == Str.ofString t && okGlob sc y && chkEs K sc ns es [e]
        | none => false)
  | .minD a d, x => ifCall x fun g xs kws _ => ifName g fun x => x == ("min" : Str) && okGlob sc x && if1 xs fun e => if1 kws fun kw => ifKw kw fun y v => y == ("default" : Str) && chkE K sc ns a e && chkE K sc ns d v
  | .meth m a es, x => ifCall x fun g xs kws pos => kws.isEmpty && ifAttr g fun o y apos => y == ("append" : Str) && isNameE o && (apos.endLine == pos.line) && decide (xs.length = 1) && chkE K sc ns a o && chkEs K sc ns es xs
  | .comp nl elt t it cs, x => ifComp x fun e gs cs' => if1 gs fun g => ifGen g fun tg iter ifs =>
    decide ((tNames t tg).length = nl) && scIn sc ns (tNames t tg) cs' && chkIt K sc ns it iter && tgOk it tg && chkT cs' (tNames t tg ++ ns) t tg && chkE K cs' (tNames t tg ++ ns) elt e && chkEs K cs' (tNames t tg ++ ns) cs ifs
  | .listOf a, x => ifCall x fun g xs kws _ => kws.isEmpty && ifName g fun x => x == ("list" : Str) && okGlob sc x && if1 xs fun e => chkE K sc ns a e
noncomputable def chkEs (K : CK) (sc : Scope) (ns : List Str) : List E → List Expr → Bool
  | [], xs => xs.isEmpty
  | e :: es, xs => ifCons xs fun x xs => chkE K sc ns e x && chkEs K sc ns es xs
noncomputable def chkO (K : CK) (sc : Scope) (ns : List Str) : Option E → Option Expr → Bool
  | none, x => x.isNone
  | some e, x => ifSome x fun x => chkE K sc ns e x
noncomputable def chkIt (K : CK) (sc : Scope) (ns : List Str) : It → Expr → Bool
  | .range a b, x => ifCall x fun g xs kws _ => kws.isEmpty && ifName g fun x => x == ("range" : Str) && okGlob sc x && (if1 xs (fun e => isZeroE a && chkE K sc ns b e) || if2 xs fun e1 e2 => chkE K sc ns a e1 && chkE K sc ns b e2)
  | .enum a, x => ifCall x fun g xs kws _ => kws.isEmpty && ifName g fun x => x == ("enumerate" : Str) && okGlob sc x && if1 xs fun e => chkE K sc ns a e
  | .of e, x => chkE K sc ns e x
end

noncomputable def noPair (a b : Expr) : Bool := !(isTupE a && isTupE b)

noncomputable def notComp (x : Expr) : Bool := decide (x.ctorIdx ≠ 8 ∧ x.ctorIdx ≠ 9 ∧ x.ctorIdx ≠ 10)
noncomputable def isCompE (e : E) : Bool := decide (e.ctorIdx = 20)
mutual
noncomputable def chkS (K : CK) (sc : Scope) (ns : List Str) : S → Stmt → Bool
  | .expr e, st => isExprS st fun x => chkE K sc ns e x && notComp x
  | .asg t e, st => isAssign st fun ts x => if1 ts fun tg => chkT sc ns t tg && chkE K sc ns e x && (isNameE tg && isCompE e || notComp x) && noPair tg x
  | .setIdx a i e, st => isAssign st fun ts x => if1 ts fun tg => ifSub tg fun o j => chkE K sc ns a o && chkE K sc ns i j && chkE K sc ns e x && notComp x
  | .ret e, st => isReturn st fun x => ifSome x fun x => chkE K sc ns e x
  | .ife c a b, st => isIf st fun t x y => chkE K sc ns c t && chkSs K sc ns a x && chkSs K sc ns b y
  | .for t it body, st => isFor st fun tg iter b o => o.isEmpty && chkT sc ns t tg && tgOk it tg && chkIt K sc ns it iter && chkSs K sc ns body b
  | .while c body, st => isWhile st fun t b o => o.isEmpty && chkE K sc ns c t && chkSs K sc ns body b
noncomputable def chkSs (K : CK) (sc : Scope) (ns : List Str) : List S → List Stmt → Bool
  | [], ss => ss.isEmpty
  | s :: r, ss => ifCons ss fun x t => chkS K sc ns s x && chkSs K sc ns r t
end

/-- a def of the text, as far as a call reads it -/
structure Def where
  name : Str
  params : Arguments
  body : List Stmt
  scope : Scope

noncomputable def plainParams (a : Arguments) (ps : List Str) : Bool :=
  a.posonlyargs.isEmpty && a.vararg.isNone && a.kwonlyargs.isEmpty && a.kw_defaults.isEmpty && a.kwarg.isNone && a.defaults.isEmpty && decide (a.args.map (·.arg) = ps)

noncomputable def chkFn (K : CK) (d : Def) (ns : List Str) (f : Fn) : Bool :=
  decide (f.name = d.name) && plainParams d.params (ns.take f.np) && decide (ns.length = f.np + f.nl) && decide ns.Nodup &&
  (match d.scope.kind with | .function => true | _ => false) && !d.scope.isGenerator && !d.scope.isCoroutine && decide ((d.scope.names.map (·.1)).Nodup) &&
  d.scope.names.all (fun p => match p.2 with | .local => ns.contains p.1 | .cell => ns.contains p.1 | .globalImplicit => true | _ => false) &&
  ns.all (fun x => match d.scope.names.lookup x with | some .local => true | some .cell => true | _ => false) &&
  chkSs K d.scope ns f.body d.body
end Mine
namespace Mine
open PySem
noncomputable def defOfS (x : Stmt) : Option Def := if h : x.ctorIdx = 0 then Stmt.FunctionDef.elim (motive_2 := fun _ => Option Def) x h (fun n a b _ _ _ sc _ _ _ => some ⟨n, a, b, sc⟩) else none
noncomputable def defsOf (l : List Stmt) : List Def := l.filterMap defOfS
noncomputable def chkAll (K : CK) (ds : List Def) (nss : List (List Str)) (fs : List Fn) : Bool :=
  (List.range fs.length).all fun i => ifSome fs[i]? fun f => ifSome ds[i]? fun d => ifSome nss[i]? fun n => decide (f.np = 999) || chkFn K d n f
theorem chkAll_get {K : CK} {ds : List Def} {nss : List (List Str)} {fs : List Fn} {i : Nat} {d : Def} {f : Fn} (h : chkAll K ds nss fs = true) (h1 : ds[i]? = some d) (h2 : fs[i]? = some f) : ∃ ns, f.np ≠ 999 → chkFn K d ns f = true := by
  have h := List.all_eq_true.mp h i (List.mem_range.mpr (List.getElem?_eq_some_iff.mp h2).1)
  rw [h2, h1] at h
  obtain ⟨n, _, h⟩ := ifSome.spec (f := fun n => decide (f.np = 999) || chkFn K d n f) h
  refine ⟨n, fun hne => ?_⟩
  rw [decide_eq_false hne] at h
  exact h
end Mine

end
section
set_option autoImplicit false
set_option linter.unusedVariables false
set_option linter.unusedSimpArgs false
namespace Mine
open PySem PySem.Calls

noncomputable def biTable : List (Str × Value) := [("len", .builtin "len"), ("isinstance", .builtin "isinstance"), ("int", .type "int"), ("bool", .type "bool"), ("tuple", .type "tuple"), ("list", .type "list"),
  ("range", .type "range"), ("enumerate", .type "enumerate"), ("min", .builtin "min"), ("max", .builtin "max")]
theorem bi_mem (i : Nat) (h : i < 10) : biTable[i]'h ∈ biTable := List.getElem_mem h

structure Gl (W : Wo) (prog : Program) (w : World) (K : CK) (defs : List Def) (gkv : List V) (scr : List Int) (mg mb : Str → Option Value) : Prop where
  g : W.h₀.Ns mainGlobals mg
  b : W.h₀.Ns builtinsNs mb
  bi : ∀ p ∈ biTable, mg p.1 = none ∧ mb p.1 = some p.2
  fn : ∀ (f : Nat) (x : Str), K.fns[f]? = some x → ∃ a o d pm cd doc, defs[f]? = some d ∧ d.name = x ∧ mg x = some (.ref a) ∧ W.h₀.get? a = some o ∧
    o.data = .func (docDef d.name d.params d.body d.scope pm cd doc) ∧ W.h₀.CodeRec cd d.name
  gk : ∀ (j : Nat) (x : Str), K.gks[j]? = some x → ∃ v y, gkv[j]? = some v ∧ mg x = some y ∧ Rep W.scr [] W.h₀ v y
  nolimit : W.h₀.NoLimit
  seer : W.h₀.NoSeer
  tree : prog.given.tree = none
  script : ∃ xs : List Value, W.h₀.IsList W.scr xs.toArray ∧ RepL W.scr [] W.h₀ (scr.map .int) xs
  short : scr.length ≤ 1000
  low : ∃ o, W.h₀.get? cStatics = some o
  same : W.prog = prog ∧ W.w = w

structure Room (A : Around) (n : Nat) : Prop where
  depth : A.depth + n + 110 ≤ recursionLimit
  units : A.units + 4 * n + 200 ≤ cLine
  handled : A.handled = none
  frames : ∃ fe outer, A.frames = some (fe :: outer) ∧ fe.scope.isGenerator = false ∧ fe.scope.isCoroutine = false ∧ fe.builtins = builtinsNs ∧ fe.globals = mainGlobals

noncomputable def PostV (W : Wo) (φ : List Addr) (s : Shared) (Q : Value → Shared → Prop) : R V → Prop
  | .ok v H => ∀ φ' h' tk x, SR W φ' H h' → Stp [] φ s.heap φ' h' → Rep W.scr φ' h' v x → Q x { s with heap := h', toks := tk }
  | _ => False
noncomputable def PostL (W : Wo) (φ : List Addr) (s : Shared) (Q : List Value → Shared → Prop) : R (List V) → Prop
  | .ok vs H => ∀ φ' h' tk xs, SR W φ' H h' → Stp [] φ s.heap φ' h' → RepL W.scr φ' h' vs xs → Q xs { s with heap := h', toks := tk }
  | _ => False
noncomputable def PostB (W : Wo) (φ : List Addr) (s : Shared) (Q : Bool → Shared → Prop) : R Bool → Prop
  | .ok b H => ∀ φ' h' tk, SR W φ' H h' → Stp [] φ s.heap φ' h' → Q b { s with heap := h', toks := tk }
  | _ => False

section
variable {W : Wo} {φ φ₁ : List Addr} {s : Shared} {h₁ : Heap} {tk : Nat}
theorem PostV.step {Q : Value → Shared → Prop} {r : R V} (p : PostV W φ s Q r) (S : Stp [] φ s.heap φ₁ h₁) : PostV W φ₁ { s with heap := h₁, toks := tk } Q r := by
  cases r with
  | ok v H => exact fun φ' h' tk x r1 r2 r3 => p φ' h' tk x r1 (S.trans r2) r3
  | stuck => exact p
theorem PostL.step {Q : List Value → Shared → Prop} {r : R (List V)} (p : PostL W φ s Q r) (S : Stp [] φ s.heap φ₁ h₁) : PostL W φ₁ { s with heap := h₁, toks := tk } Q r := by
  cases r with
  | ok v H => exact fun φ' h' tk x r1 r2 r3 => p φ' h' tk x r1 (S.trans r2) r3
  | stuck => exact p
theorem PostB.step {Q : Bool → Shared → Prop} {r : R Bool} (p : PostB W φ s Q r) (S : Stp [] φ s.heap φ₁ h₁) : PostB W φ₁ { s with heap := h₁, toks := tk } Q r := by
  cases r with
  | ok v H => exact fun φ' h' tk r1 r2 => p φ' h' tk r1 (S.trans r2)
  | stuck => exact p
/-- the value is there, nothing has happened but tokens and things apart -/
theorem PostV.now {Q : Value → Shared → Prop} {v : V} {H : Hp} {x : Value} (p : PostV W φ s Q (.ok v H)) (R : SR W φ H s.heap) (r : Rep W.scr φ s.heap v x) (tk : Nat) : Q x { s with toks := tk } :=
  p φ s.heap tk x R .refl r
theorem PostB.now {Q : Bool → Shared → Prop} {b : Bool} {H : Hp} (p : PostB W φ s Q (.ok b H)) (R : SR W φ H s.heap) (tk : Nat) : Q b { s with toks := tk } :=
  p φ s.heap tk R .refl
theorem PostV.later {Q : Value → Shared → Prop} {v : V} {H : Hp} {x : Value} (p : PostV W φ s Q (.ok v H)) (R : SR W φ H s.heap) (hk : ∀ a o, s.heap.get? a = some o → h₁.get? a = some o) (r : Rep W.scr φ s.heap v x) (tk : Nat) : Q x { s with heap := h₁, toks := tk } :=
  p φ h₁ tk x (R.ext hk) (.ext hk) (r.mono (own := []) (.ext hk))
end

noncomputable def kEq (a b : Option NameKind) : Prop := a = b ∨ (isCellK a ∧ isCellK b)
noncomputable def Kinds (sc : Scope) (env : Env) : Prop := ∀ x, kEq (sc.names.lookup x) (env.kindOf x)

theorem Kinds.glob {sc : Scope} {env : Env} (k : Kinds sc env) {x : Str} (h : okGlob sc x = true) : env.kindOf x = some .globalImplicit ∧ (x == ("__debug__" : Str)) = false := by
  unfold okGlob at h
  simp only [Bool.and_eq_true, Bool.not_eq_true'] at h
  refine ⟨?_, h.2⟩
  have h1 := h.1
  rcases k x with e | ⟨e, _⟩
  · rw [← e]
    revert h1
    cases sc.names.lookup x with
    | none => simp [isGlobK]
    | some k => cases k <;> simp [isGlobK]
  · rcases e with e | e <;> rw [e] at h1 <;> simp [isGlobK] at h1

/-- what is fixed for a whole law: `n` levels of call are left -/
structure Fix where
  prog : Program
  w : World
  W : Wo
  K : CK
  defs : List Def
  scr : List Int
  mg : Str → Option Value
  mb : Str → Option Value

abbrev Fix.M (X : Fix) : Model := model X.prog X.w
noncomputable def Fix.Gl (X : Fix) (C : Ctx) : Prop := Mine.Gl X.W X.prog X.w X.K X.defs C.gks X.scr X.mg X.mb ∧ C.scr = X.scr

/-- calls of the text's own defs come back as the interpreter says -/
noncomputable def Fix.CallOk (X : Fix) (C : Ctx) (n : Nat) : Prop :=
  ∀ (A : Around) (f : Nat) (x : Str) (a : Addr) (vs : List V) (H : Hp) (φ : List Addr) (s : Shared) (xs : List Value) (Q : Value → Shared → Prop) (Ex : Value → Shared → Prop),
    Room A n → X.K.fns[f]? = some x → X.mg x = some (.ref a) → SR X.W φ H s.heap → RepL X.W.scr φ s.heap vs xs → PostV X.W φ s Q (C.call f vs H) → wpAny X.M A (call (.ref a) xs) Q Ex s

noncomputable def EvS (X : Fix) (C : Ctx) (n : Nat) (sc : Scope) (ns : List Str) (c : E) (e : Expr) : Prop :=
  ∀ (A : Around) (env : Env) (ρ : Env') (φ : List Addr) (H : Hp) (s : Shared) (Q : Value → Shared → Prop) (Ex : Value → Shared → Prop),
    Room A n → Kinds sc env → FR X.W env ns ρ φ s.heap → SR X.W φ H s.heap → PostV X.W φ s Q (evalE C c ρ H) → wpAny X.M A (eval e env) Q Ex s
noncomputable def TrS (X : Fix) (C : Ctx) (n : Nat) (sc : Scope) (ns : List Str) (c : E) (e : Expr) : Prop :=
  ∀ (A : Around) (env : Env) (ρ : Env') (φ : List Addr) (H : Hp) (s : Shared) (Q : Bool → Shared → Prop) (Ex : Value → Shared → Prop),
    Room A n → Kinds sc env → FR X.W env ns ρ φ s.heap → SR X.W φ H s.heap → PostB X.W φ s Q (tst C c ρ H) → wpAny X.M A (isTrue e env (eval e env)) Q Ex s
end Mine

end
section
set_option autoImplicit false
set_option linter.unusedVariables false
set_option linter.unusedSimpArgs false
namespace Mine
open PySem PySem.Calls PyProof.Rows

section
variable {prog : Program} {w : World} {A : Around} {E : Value → Shared → Prop} {s : Shared} {W : Wo} {φ : List Addr} {H : Hp}

theorem tupAt {scr : Addr} {h : Heap} {vs : List V} {x : Value} (r : Rep scr φ h (.tup vs) x) : ∃ a xs n, x = .ref a ∧ h.get? a = some (tupObj xs n) ∧ RepL scr φ h vs xs ∧ vs.length ≤ 1000000 := by
  cases r with
  | tup e q z => exact ⟨_, _, _, rfl, e, q, z⟩
theorem isTup_of {h : Heap} {a : Addr} {xs : List Value} {n : Nat} (e : h.get? a = some (tupObj xs n)) : IsTup h a xs.toArray := ⟨_, e, rfl, n, rfl⟩
theorem isList_of {h : Heap} {a : Addr} {xs : List Value} {n : Nat} (e : h.get? a = some (lstObj xs n)) : h.IsList a xs.toArray := ⟨_, e, rfl, n, rfl⟩
theorem refAt {scr : Addr} {h : Heap} {l : Nat} {x : Value} (r : Rep scr φ h (.ref l) x) : ∃ a, x = .ref a ∧ φ[l]? = some a := by
  cases r with
  | ref e => exact ⟨_, rfl, e⟩
theorem onL_post {Q : Value → Shared → Prop} {v : V} {f : List V → R V} (p : PostV W φ s Q (onL H v f)) : ∃ l vs, v = .ref l ∧ H[l]? = some (.list vs) ∧ PostV W φ s Q (f vs) := by
  cases v <;> first | exact p.elim | skip
  rename_i l
  change PostV W φ s Q (match H[l]? with | some (.list vs) => f vs | _ => .stuck) at p
  cases hl : H[l]? with
  | none => rw [hl] at p; exact p.elim
  | some c => cases c <;> rw [hl] at p <;> first | exact p.elim | exact ⟨l, _, rfl, hl, p⟩
theorem onO_post {Q : Value → Shared → Prop} {α : Type} {o : Option α} {f : α → R V} (p : PostV W φ s Q (onO o f)) : ∃ a, o = some a ∧ PostV W φ s Q (f a) := by
  cases o
  · exact p.elim
  · exact ⟨_, rfl, p⟩
theorem onInt_post {Q : Value → Shared → Prop} {v : V} {f : Int → R V} (p : PostV W φ s Q (onInt v f)) : ∃ a, v = .int a ∧ PostV W φ s Q (f a) := by
  cases v <;> first | exact p.elim | exact ⟨_, rfl, p⟩
theorem bi1_post {Q : Value → Shared → Prop} {vs : List V} {f : V → R V} (p : PostV W φ s Q (bi1 vs f)) : ∃ a, vs = [a] ∧ PostV W φ s Q (f a) := by
  rcases vs with _ | ⟨a, _ | ⟨b, l⟩⟩
  · exact p.elim
  · exact ⟨a, rfl, p⟩
  · exact p.elim
theorem bi2_post {Q : Value → Shared → Prop} {vs : List V} {f : V → V → R V} (p : PostV W φ s Q (bi2 vs f)) : ∃ a b, vs = [a, b] ∧ PostV W φ s Q (f a b) := by
  rcases vs with _ | ⟨a, _ | ⟨b, _ | ⟨c, l⟩⟩⟩
  · exact p.elim
  · exact p.elim
  · exact ⟨a, b, rfl, p⟩
  · exact p.elim
theorem if_post {Q : Value → Shared → Prop} {t : Bool} {r : R V} (p : PostV W φ s Q (if t = true then r else .stuck)) : t = true ∧ PostV W φ s Q r := by
  cases t
  · exact p.elim
  · exact ⟨rfl, p⟩
theorem listAt {l : Nat} {x : Value} {vs : List V} (R : SR W φ H s.heap) (r : Rep W.scr φ s.heap (.ref l) x) (e : H[l]? = some (.list vs)) :
    ∃ a xs n, x = .ref a ∧ φ[l]? = some a ∧ s.heap.get? a = some (lstObj xs n) ∧ RepL W.scr φ s.heap vs xs ∧ vs.length ≤ 1000000 := by
  obtain ⟨a, rfl, ha⟩ := refAt r
  obtain ⟨b, hb, xs, n, h1, h2, h3⟩ := R.cell l _ e
  rw [ha] at hb; cases hb
  exact ⟨a, xs, n, rfl, ha, h1, h2, h3⟩
theorem repInt {scr : Addr} {h : Heap} {i : Int} {x : Value} (r : Rep scr φ h (.int i) x) : ∃ t, x = .int i t := by cases r; exact ⟨_, rfl⟩
theorem repBool {scr : Addr} {h : Heap} {b : Bool} {x : Value} (r : Rep scr φ h (.bool b) x) : x = .bool b := by cases r; rfl
theorem repNone {scr : Addr} {h : Heap} {x : Value} (r : Rep scr φ h .none x) : x = .none := by cases r; rfl
theorem small_of_len {xs : List Value} {vs : List V} {scr : Addr} {h : Heap} (r : RepL scr φ h vs xs) (hz : vs.length ≤ 1000000) : (xs.toArray.size : Int) < 2 ^ 63 := by
  rw [List.size_toArray, ← r.length]; omega
end

section
variable {X : Fix} {C : Ctx} {A : Around} {n : Nat} {Ex : Value → Shared → Prop} {s : Shared} {φ : List Addr} {H : Hp}

theorem Gl.keep (G : X.Gl C) (R : SR X.W φ H s.heap) : ∃ xs : List Value, s.heap.IsList X.W.scr xs.toArray ∧ RepL X.W.scr φ s.heap (C.scr.map .int) xs ∧ C.scr.length ≤ 1000 := by
  obtain ⟨xs, ⟨o, e, e2⟩, r⟩ := G.1.script
  refine ⟨xs, ⟨o, R.keep _ _ e, e2⟩, ?_, by rw [G.2]; exact G.1.short⟩
  rw [G.2]
  have S : Stp [] [] X.W.h₀ φ s.heap := ⟨⟨φ, by simp⟩, fun a o e _ _ => R.keep a o e, fun a ha _ => R.fresh a ha, fun a xs n e => R.keep a _ e, fun a o e => ⟨o, R.keep a o e⟩⟩
  exact r.mono S

/-- truth of a value -/
theorem truthy_snd {v : V} {x : Value} {b : Bool} {Q : Bool → Shared → Prop} (G : X.Gl C) (R : SR X.W φ H s.heap) (r : Rep X.W.scr φ s.heap v x) (e : truthy C.scr H v = some b)
    (hQ : ∀ tk, Q b { s with toks := tk }) : wpAny X.M A (PySem.truthy x) Q Ex s := by
  cases v with
  | none => cases r; cases e; exact PyProof.Rows.truthy_none (hQ s.toks)
  | bool b' => cases r; cases e; exact wpAny_truthy_bool (hQ s.toks)
  | int i => cases r; cases e; exact PyProof.Rows.truthy_int (hQ s.toks)
  | tup vs =>
    obtain ⟨a, xs, n, rfl, h1, h2, h3⟩ := tupAt r
    refine truthy_tuple (isTup_of h1) (small_of_len h2 h3) ?_
    have : b = !xs.toArray.isEmpty := by
      have := h2.length
      cases e
      cases vs <;> cases xs <;> simp_all
    rw [← this]; exact hQ _
  | ref l =>
    simp only [truthy] at e
    split at e
    · rename_i vs hl
      obtain ⟨a, xs, n, rfl, _, h1, h2, h3⟩ := listAt R r hl
      refine wpAny_truthy_list (isList_of h1) (small_of_len h2 h3) ?_
      have : b = !xs.toArray.isEmpty := by
        have := h2.length
        cases e
        cases vs <;> cases xs <;> simp_all
      rw [← this]; exact hQ _
    · cases e
  | script =>
    cases r
    obtain ⟨xs, h1, h2, h3⟩ := Gl.keep G R
    refine wpAny_truthy_list h1 (small_of_len h2 (by simp; omega)) ?_
    have : b = !xs.toArray.isEmpty := by
      have := h2.length
      cases e
      cases hs : C.scr <;> cases xs <;> simp_all
    rw [← this]; exact hQ _

theorem room_frames (rm : Room A n) : A.depth + 110 ≤ recursionLimit := by have := rm.depth; omega

theorem pylong (G : X.Gl C) (R : SR X.W φ H s.heap) (rm : Room A n) : PylongRoom X.M A s := by
  obtain ⟨fe, outer, h1, h2, h3, h4, h5⟩ := rm.frames
  refine PylongRoom.of (G.1.nolimit.keeps R.keep) (by have := rm.depth; show A.depth + 100 < _; omega) ?_
  exact SeerAt.of (G.1.seer.keeps R.keep) G.1.tree h1 h2 h3 h4 h5

theorem binop_int {op : BOp} {o : Operator} {a b : Int} {t u : Tok} {v : V} {H' : Hp} {Q : Value → Shared → Prop} (G : X.Gl C) (R : SR X.W φ H s.heap) (rm : Room A n) (ho : opOk op o = true)
    (e : binI op a b H = .ok v H') (hQ : ∀ tk i t, v = .int i → H' = H → Q (.int i t) { s with toks := tk }) : wpAny X.M A (binaryOp o (.int a t) (.int b u)) Q Ex s := by
  obtain rfl := of_decide_eq_true ho
  cases op
  · cases e; exact PyProof.Rows.add_int (hQ _ _ _ rfl rfl)
  · cases e; exact PyProof.Rows.sub_int (hQ _ _ _ rfl rfl)
  · change (if mulOk a b then _ else _) = _ at e
    split at e
    · rename_i hm
      cases e
      refine PyProof.Rows.mul_int (hQ _ _ _ rfl rfl) ?_
      unfold mulOk at hm
      unfold IntMulOk
      intro hc
      rw [hc] at hm
      cases hm
    · cases e
  · change (if b = 0 then _ else _) = _ at e
    split at e
    · cases e
    · rename_i hb
      cases e
      exact PyProof.Rows.floordiv_int hb (hQ _ _ _ rfl rfl) (.inr (pylong G R rm))
  · change (if b = 0 then _ else _) = _ at e
    split at e
    · cases e
    · rename_i hb
      cases e
      exact PyProof.Rows.mod_int' hb (hQ _ _ _ rfl rfl)
  · change (if 0 ≤ b ∧ b ≤ 1000 ∧ a.natAbs < 1000 then _ else _) = _ at e
    split at e
    · rename_i hb
      cases e
      exact PyProof.Rows.pow_int_small hb.1 (by omega) (by omega) (hQ _ _ _ rfl rfl)
    · cases e
end
end Mine

end
section
set_option autoImplicit false
set_option linter.unusedVariables false
set_option linter.unusedSimpArgs false
namespace Mine
open PySem PySem.Calls PyProof.Rows

section
variable {X : Fix} {C : Ctx} {A : Around} {n : Nat} {Ex : Value → Shared → Prop} {s : Shared} {φ : List Addr} {H : Hp}

theorem rdL_snd {f : V → Option PyData} {m : Nat} (hf : ∀ v d x, f v = some d → Rep X.W.scr φ s.heap v x → ∃ as, Reads s.heap x d as ∧ d.canLay0 = true ∧ d.depth ≤ m) :
    ∀ (vs : List V) (ds : List PyData) (xs : List Value), rdL f vs = some ds → RepL X.W.scr φ s.heap vs xs → ∃ as, ReadsAll s.heap xs ds as ∧ PyData.canLayAll0 ds = true ∧ PyData.depthAll ds ≤ m
  | [], ds, xs, e, r => by
    cases e; cases r
    exact ⟨_, .nil, by simp [PyData.canLayAll0], by simp [PyData.depthAll]⟩
  | v :: vs, ds, xs, e, r => by
    cases r with
    | cons r1 r2 =>
      rw [rdL] at e
      cases e1 : f v with
      | none => rw [e1] at e; cases e
      | some d =>
        cases e2 : rdL f vs with
        | none => rw [e1, e2] at e; cases e
        | some ds' =>
          rw [e1, e2] at e
          cases e
          obtain ⟨as, h1, h2, h3⟩ := hf v d _ e1 r1
          obtain ⟨bs, q1, q2, q3⟩ := rdL_snd hf vs ds' _ e2 r2
          refine ⟨_, .cons h1 q1, by simp [PyData.canLayAll0, h2, q2], ?_⟩
          rw [PyData.depthAll]; omega

theorem rd_snd (G : X.Gl C) (R : SR X.W φ H s.heap) : ∀ (m : Nat) (v : V) (d : PyData) (x : Value), rd C.scr m H v = some d → Rep X.W.scr φ s.heap v x →
    ∃ as, Reads s.heap x d as ∧ d.canLay0 = true ∧ d.depth ≤ m := by
  intro m
  induction m with
  | zero =>
    intro v d x e r
    cases v <;> simp [rd] at e
    · cases r; subst e; exact ⟨_, .none, by simp [PyData.canLay0], by simp [PyData.depth]⟩
    · cases r; subst e; exact ⟨_, .bool _, by simp [PyData.canLay0], by simp [PyData.depth]⟩
    · cases r; subst e; exact ⟨_, .int _ _, by simp [PyData.canLay0], by simp [PyData.depth]⟩
  | succ m ih =>
    intro v d x e r
    cases v with
    | none => cases r; simp [rd] at e; subst e; exact ⟨_, .none, by simp [PyData.canLay0], by simp [PyData.depth]⟩
    | bool b => cases r; simp [rd] at e; subst e; exact ⟨_, .bool _, by simp [PyData.canLay0], by simp [PyData.depth]⟩
    | int i => cases r; simp [rd] at e; subst e; exact ⟨_, .int _ _, by simp [PyData.canLay0], by simp [PyData.depth]⟩
    | tup vs =>
      obtain ⟨a, xs, k, rfl, h1, h2, h3⟩ := tupAt r
      rw [rd] at e
      obtain ⟨ds, e1, rfl⟩ := Option.map_eq_some_iff.mp e
      obtain ⟨as, q1, q2, q3⟩ := rdL_snd (fun v d x => ih v d x) vs ds xs e1 h2
      exact ⟨_, reads_tuple_at h1 rfl rfl (by simpa using q1), by simp [PyData.canLay0, q2], by rw [PyData.depth]; omega⟩
    | ref l =>
      rw [rd] at e
      split at e
      · rename_i vs hl
        obtain ⟨a, xs, k, rfl, _, h1, h2, h3⟩ := listAt R r hl
        obtain ⟨ds, e1, rfl⟩ := Option.map_eq_some_iff.mp e
        obtain ⟨as, q1, q2, q3⟩ := rdL_snd (fun v d x => ih v d x) vs ds xs e1 h2
        exact ⟨_, reads_list_at h1 rfl rfl (by simpa using q1), by simp [PyData.canLay0, q2], by rw [PyData.depth]; omega⟩
      · cases e
    | script =>
      cases r
      obtain ⟨xs, ⟨o, h1, h1c, k, h1d⟩, h2, h3⟩ := Gl.keep G R
      rw [rd] at e
      cases e
      have e1 : rdL (fun v => match v with | .int i => some (.int i) | _ => none) (C.scr.map V.int) = some (C.scr.map PyData.int) := by
        clear h2 h3
        induction C.scr with
        | nil => rfl
        | cons i r ih => rw [List.map_cons, rdL, ih]; rfl
      obtain ⟨as, q1, q2, q3⟩ := rdL_snd (m := 0) (fun v d x e r => by
        cases v <;> simp at e
        subst e
        cases r
        exact ⟨_, .int _ _, by simp [PyData.canLay0], by simp [PyData.depth]⟩) _ _ _ e1 h2
      exact ⟨_, reads_list_at h1 h1c h1d (by simpa using q1), by simp [PyData.canLay0, q2], by rw [PyData.depth]; omega⟩

theorem shaped_of {d : PyData} (h1 : d.canLay0 = true) (h2 : d.depth ≤ 10) : SeqAt.shaped d = true := by
  unfold SeqAt.shaped; rw [h1, Bool.true_and]; exact decide_eq_true (by omega)

theorem units_of (rm : Room A n) : A.units + 64 < cLine := by have := rm.units; omega

theorem eqV_snd {op : COp} {o : CmpOp} {v u : V} {x y : Value} {b : Bool} {Q : Value → Shared → Prop} (G : X.Gl C) (R : SR X.W φ H s.heap) (rm : Room A n) (ho : copOk op o = true) (hop : op = .eq ∨ op = .ne)
    (r1 : Rep X.W.scr φ s.heap v x) (r2 : Rep X.W.scr φ s.heap u y) (e : cmpV C.scr op v u H = some b) (hQ : ∀ tk, Q (.bool b) { s with toks := tk }) : wpAny X.M A (compareOp o x y) Q Ex s := by
  obtain rfl := of_decide_eq_true ho
  rcases hop with rfl | rfl <;> simp only [cmpV, eqV] at e
  · split at e
    · rename_i da db e1 e2
      obtain ⟨as, q1, q2, q3⟩ := rd_snd G R 10 v da x e1 r1
      obtain ⟨bs, p1, p2, p3⟩ := rd_snd G R 10 u db y e2 r2
      cases e
      exact eq_dataH q1 p1 (shaped_of q2 q3) (shaped_of p2 p3) (units_of rm) (hQ s.toks)
    · cases e
  · split at e
    · rename_i da db e1 e2
      obtain ⟨as, q1, q2, q3⟩ := rd_snd G R 10 v da x e1 r1
      obtain ⟨bs, p1, p2, p3⟩ := rd_snd G R 10 u db y e2 r2
      cases e
      exact ne_dataH q1 p1 (shaped_of q2 q3) (shaped_of p2 p3) (units_of rm) (hQ s.toks)
    · cases e

/-- `in` over a tuple or a list -/
theorem inV_snd {op : COp} {o : CmpOp} {v u : V} {x y : Value} {b : Bool} {Q : Value → Shared → Prop} (G : X.Gl C) (R : SR X.W φ H s.heap) (rm : Room A n) (ho : copOk op o = true) (hop : op = .isIn ∨ op = .notIn)
    (r1 : Rep X.W.scr φ s.heap v x) (r2 : Rep X.W.scr φ s.heap u y) (e : cmpV C.scr op v u H = some b) (hQ : ∀ tk, Q (.bool b) { s with toks := tk }) : wpAny X.M A (compareOp o x y) Q Ex s := by
  have hi : ∃ b', inV C.scr H v u = some b' ∧ ((op = .isIn ∧ b = b') ∨ (op = .notIn ∧ b = !b')) := by
    rcases hop with rfl | rfl
    · exact ⟨b, e, .inl ⟨rfl, rfl⟩⟩
    · obtain ⟨b', h1, h2⟩ := Option.map_eq_some_iff.mp e
      exact ⟨b', h1, .inr ⟨rfl, h2.symm⟩⟩
  obtain ⟨b', hi, hb⟩ := hi
  unfold inV at hi
  split at hi
  · rename_i vs hvs
    split at hi
    · rename_i ds d e1 e2
      cases hi
      obtain ⟨bs, p1, p2, p3⟩ := rd_snd G R 10 v d x e2 r1
      have key : ∃ as c, Reads s.heap y c as ∧ (c = .list ds ∨ c = .tuple ds) ∧ PyData.canLayAll0 ds = true ∧ PyData.depthAll ds ≤ 10 := by
        cases u with
        | tup us =>
          cases hvs
          obtain ⟨a, xs, k, rfl, h1, h2, h3⟩ := tupAt r2
          obtain ⟨as, q1, q2, q3⟩ := rdL_snd (fun v d x => rd_snd G R 10 v d x) vs ds xs e1 h2
          exact ⟨_, _, reads_tuple_at h1 rfl rfl (by simpa using q1), .inr rfl, q2, q3⟩
        | ref l =>
          simp only [itemsOf] at hvs
          split at hvs
          · rename_i us hl
            cases hvs
            obtain ⟨a, xs, k, rfl, _, h1, h2, h3⟩ := listAt R r2 hl
            obtain ⟨as, q1, q2, q3⟩ := rdL_snd (fun v d x => rd_snd G R 10 v d x) vs ds xs e1 h2
            exact ⟨_, _, reads_list_at h1 rfl rfl (by simpa using q1), .inl rfl, q2, q3⟩
          · cases hvs
        | script =>
          cases hvs
          cases r2
          obtain ⟨xs, ⟨o, h1, h1c, k, h1d⟩, h2, h3⟩ := Gl.keep G R
          obtain ⟨as, q1, q2, q3⟩ := rdL_snd (fun v d x => rd_snd G R 10 v d x) _ ds xs e1 h2
          exact ⟨_, _, reads_list_at h1 h1c h1d (by simpa using q1), .inl rfl, q2, q3⟩
        | _ => cases hvs
      obtain ⟨as, c, k1, k2, k3, k4⟩ := key
      have hu : A.units + 1 + min (PyData.depthAll ds) d.depth < cLine := by have := units_of rm; omega
      obtain rfl := of_decide_eq_true ho
      rcases hb with ⟨rfl, rfl⟩ | ⟨rfl, rfl⟩ <;> rcases k2 with rfl | rfl
      · exact SeqAt.in_list_reads k1 p1 k3 p2 hu (hQ s.toks)
      · exact SeqAt.in_tuple_reads k1 p1 k3 p2 hu (hQ s.toks)
      · exact SeqAt.notIn_list_reads k1 p1 k3 p2 hu (hQ s.toks)
      · exact SeqAt.notIn_tuple_reads k1 p1 k3 p2 hu (hQ s.toks)
    · cases hi
  · cases hi

theorem int2_ok {x y : V} {f : Int → Int → Bool} {b : Bool} (e : int2 x y f = some b) : ∃ i j, x = .int i ∧ y = .int j ∧ f i j = b := by
  cases x with
  | int i => cases y with
    | int j => exact ⟨i, j, rfl, rfl, Option.some.inj e⟩
    | _ => cases e
  | _ => cases e
theorem cmp_snd {op : COp} {o : CmpOp} {v u : V} {x y : Value} {b : Bool} {Q : Value → Shared → Prop} (G : X.Gl C) (R : SR X.W φ H s.heap) (rm : Room A n) (ho : copOk op o = true)
    (r1 : Rep X.W.scr φ s.heap v x) (r2 : Rep X.W.scr φ s.heap u y) (e : cmpV C.scr op v u H = some b) (hQ : ∀ tk, Q (.bool b) { s with toks := tk }) : wpAny X.M A (compareOp o x y) Q Ex s := by
  cases op with
  | eq => exact eqV_snd G R rm ho (.inl rfl) r1 r2 e hQ
  | ne => exact eqV_snd G R rm ho (.inr rfl) r1 r2 e hQ
  | isIn => exact inV_snd G R rm ho (.inl rfl) r1 r2 e hQ
  | notIn => exact inV_snd G R rm ho (.inr rfl) r1 r2 e hQ
  | lt =>
    obtain rfl := of_decide_eq_true ho
    obtain ⟨i, j, rfl, rfl, rfl⟩ := int2_ok e
    cases r1; cases r2; exact PyProof.Rows.lt_int (hQ s.toks)
  | le =>
    obtain rfl := of_decide_eq_true ho
    obtain ⟨i, j, rfl, rfl, rfl⟩ := int2_ok e
    cases r1; cases r2; exact PyProof.Rows.le_int (hQ s.toks)
  | gt =>
    obtain rfl := of_decide_eq_true ho
    obtain ⟨i, j, rfl, rfl, rfl⟩ := int2_ok e
    cases r1; cases r2; exact PyProof.Rows.gt_int (hQ s.toks)
end
end Mine

end
section
set_option autoImplicit false
set_option linter.unusedVariables false
set_option linter.unusedSimpArgs false
namespace Mine
open PySem PySem.Calls PyProof.Rows

section
variable {X : Fix} {C : Ctx} {A : Around} {n : Nat} {Ex : Value → Shared → Prop} {s : Shared} {φ : List Addr} {H : Hp} {sc : Scope} {ns : List Str} {env : Env} {ρ : Env'}

/-- tests of a plain kind: the value, then its truth -/
noncomputable def plainTest : Expr → Bool
  | .UnaryOp .Not _ _ => false
  | .BoolOp _ _ _ => false
  | .IfExp _ _ _ _ => false
  | .Compare _ _ _ _ => false
  | _ => true

theorem isTrue_plainTest {e : Expr} (h : plainTest e = true) (whole : Sem Value) : isTrue e env whole = (do let v ← whole; standAt e.pos; holding [v] (PySem.truthy v)) := by
  cases e <;> first | rfl | (cases h; done) | skip
  rename_i op x p
  cases op <;> first | rfl | cases h

theorem TrS.of {c : E} {e : Expr} (G : X.Gl C) (h : plainTest e = true) (ev : EvS X C n sc ns c e) : TrS X C n sc ns c e := by
  intro A env ρ φ H s Q Ex rm kd F R p
  refine wpAny_isTrue_value (ev A env ρ φ H s _ Ex rm kd F R ?_) (isTrue_plainTest h _)
  unfold tst at p
  cases hr : evalE C c ρ H with
  | ok v H1 =>
    rw [hr] at p
    intro φ' h' tk x R1 S1 r1
    change PostB X.W φ s Q (ofOpt H1 (truthy C.scr H1 v)) at p
    cases ht : truthy C.scr H1 v with
    | none => rw [ht] at p; exact p.elim
    | some b =>
      rw [ht] at p
      exact truthy_snd (s := { s with heap := h', toks := tk }) G R1 r1 ht fun tk' => p φ' h' tk' R1 S1
  | stuck => rw [hr] at p; exact p.elim

theorem okVar_spec {i : Nat} {x : Str} (h : okVar ns i x = true) : ns.idxOf x = i ∧ x ∈ ns := by
  unfold okVar at h
  simp only [Bool.and_eq_true, decide_eq_true_eq] at h
  refine ⟨h.1, ?_⟩
  rw [← h.1] at h
  exact List.idxOf_lt_length_iff.mp h.2

theorem var_snd {i : Nat} {x : Str} {pos : Pos} (h : chkE X.K sc ns (.var i) (.Name x pos) = true) : EvS X C n sc ns (.var i) (.Name x pos) := by
  intro A env ρ φ H s Q Ex rm kd F R p
  replace h : (okVar ns i x && isVarK (sc.names.lookup x) && !(x == ("__debug__" : Str)) && !(x == ("__classdict__" : Str))) = true := h
  simp only [Bool.and_eq_true, Bool.not_eq_true'] at h
  obtain ⟨⟨⟨h1, h2⟩, h3⟩, h9⟩ := h
  obtain ⟨hi, hx⟩ := okVar_spec h1
  rw [evalE_var] at p
  have hl : lk ns ρ x = ρ[i]?.join := by unfold lk; rw [hi]
  rw [← hl] at p
  cases hv : lk ns ρ x with
  | none => rw [hv] at p; exact p.elim
  | some v =>
    rw [hv] at p
    refine wpAny_Name ?_ h3
    have hk := kd x
    have key : env.kindOf x = some .local ∨ isCellK (env.kindOf x) := by
      rcases hk with e | ⟨_, e⟩
      · rw [← e]
        revert h2
        cases sc.names.lookup x with
        | none => simp [isVarK]
        | some k => cases k <;> simp [isVarK, isCellK]
      · exact .inr e
    rcases key with hk | hk
    · obtain ⟨m, hm, hr⟩ := F.loc
      have hr := hr x hx hk
      rw [hv] at hr
      generalize hmx : m x = mx at hr
      cases hr with
      | some r => exact wpAny_loadName_local F.fn hk hm hmx (p.now R r s.toks)
    · obtain ⟨c, v', h4, _, _, _, h5, hr⟩ := F.cel x hx hk
      rw [hv] at hr
      cases hr with
      | some r =>
        rcases hk with hk | hk
        · exact wpAny_loadName_cell F.fn hk h4 h5 (p.now R r s.toks)
        · exact wpAny_loadName_free F.fn hk h4 h5 (p.now R r s.toks) h9

theorem glob_fn {f : Nat} {x : Str} {pos : Pos} {Q : Value → Shared → Prop} (G : X.Gl C) (kd : Kinds sc env) (F : FR X.W env ns ρ φ s.heap) (R : SR X.W φ H s.heap) (h1 : X.K.fns[f]? = some x) (h2 : okGlob sc x = true)
    (hQ : ∀ a, X.mg x = some (.ref a) → Q (.ref a) s) : wpAny X.M A (eval (.Name x pos) env) Q Ex s := by
  obtain ⟨a, o, d, pm, cd, doc, e1, e2, e3, _⟩ := G.1.fn f x h1
  obtain ⟨k1, k2⟩ := kd.glob h2
  exact Name_function_global F.fn k1 (loadGlobal_global (by rw [F.glob]; exact G.1.g.keeps R.keep) e3 (hQ a e3)) k2
theorem glob_bi {x : Str} {v : Value} {pos : Pos} {Q : Value → Shared → Prop} (G : X.Gl C) (kd : Kinds sc env) (F : FR X.W env ns ρ φ s.heap) (R : SR X.W φ H s.heap) (h1 : (x, v) ∈ biTable) (h2 : okGlob sc x = true)
    (hQ : Q v s) : wpAny X.M A (eval (.Name x pos) env) Q Ex s := by
  obtain ⟨e1, e2⟩ := G.1.bi _ h1
  obtain ⟨k1, k2⟩ := kd.glob h2
  exact Name_function_global F.fn k1 (loadGlobal_builtin (by rw [F.glob]; exact G.1.g.keeps R.keep) e1 (by rw [F.blt]; exact G.1.b.keeps R.keep) e2 hQ) k2
theorem isi_mem {b : Bi} {t : String} (ht : isiName b = some t) : (Str.ofString t, Value.type t) ∈ biTable := by
  cases b with
  | isInt => cases ht; exact bi_mem 2 (by decide)
  | isBool => cases ht; exact bi_mem 3 (by decide)
  | isTuple => cases ht; exact bi_mem 4 (by decide)
  | _ => cases ht

theorem onInt_ok {v : V} {f : Int → R V} {r : V} {H' : Hp} (e : onInt v f = .ok r H') : ∃ i, v = .int i ∧ f i = .ok r H' := by
  cases v with
  | int i => exact ⟨i, rfl, e⟩
  | _ => cases e
/-- isinstance of the fragment's values -/
theorem isi_snd {b : Bi} {t : String} {v : V} {x : Value} {r : V} {H' : Hp} {Q : Value → Shared → Prop} (ht : isiName b = some t)
    (rv : Rep X.W.scr φ s.heap v x) (e : biV C.scr b [v] H = .ok r H') (hQ : ∀ tk b', r = .bool b' → H' = H → Q (.bool b') { s with toks := tk }) : wpAny X.M A (call (.builtin "isinstance") [x, .type t]) Q Ex s := by
  cases b with
  | isInt =>
    cases ht
    obtain ⟨i, rfl, e⟩ := onInt_ok e
    cases rv; cases e; exact IsiPair.int_int (hQ s.toks _ rfl rfl)
  | isBool =>
    cases ht
    obtain ⟨i, rfl, e⟩ := onInt_ok e
    cases rv; cases e; exact IsiPair.int_bool (hQ _ _ rfl rfl)
  | isTuple =>
    cases ht
    cases v with
    | tup vs => obtain ⟨a, xs, k, rfl, h1, _⟩ := tupAt rv; cases e; exact IsiPair.tuple_tuple h1 rfl (hQ _ _ rfl rfl)
    | _ => cases e
  | _ => cases ht

/-- the items of a tuple, a list, the script -/
theorem items_at {v : V} {x : Value} {vs : List V} (G : X.Gl C) (R : SR X.W φ H s.heap) (rv : Rep X.W.scr φ s.heap v x) (e : itemsOf C.scr H v = some vs) :
    ∃ a xs, x = .ref a ∧ RepL X.W.scr φ s.heap vs xs ∧ vs.length ≤ 1000000 ∧ (IsTup s.heap a xs.toArray ∧ (∃ k, s.heap.get? a = some (tupObj xs k)) ∧ v = .tup vs ∨ s.heap.IsList a xs.toArray ∧ (∀ us, v ≠ .tup us)) := by
  cases v with
  | tup us => cases e; obtain ⟨a, xs, k, rfl, h1, h2, h3⟩ := tupAt rv; exact ⟨a, xs, rfl, h2, h3, .inl ⟨isTup_of h1, ⟨k, h1⟩, rfl⟩⟩
  | ref l =>
    simp only [itemsOf] at e
    split at e
    · rename_i us hl
      cases e
      obtain ⟨a, xs, k, rfl, _, h1, h2, h3⟩ := listAt R rv hl
      exact ⟨a, xs, rfl, h2, h3, .inr ⟨isList_of h1, fun _ e => nomatch e⟩⟩
    · cases e
  | script =>
    cases rv
    cases e
    obtain ⟨xs, h1, h2, h3⟩ := Gl.keep G R
    exact ⟨_, xs, rfl, h2, by simp; omega, .inr ⟨h1, fun _ e => nomatch e⟩⟩
  | _ => cases e

theorem seqAt_spec {vs : List V} {xs : List Value} {k : Int} {v : V} {scr : Addr} {h : Heap} (r : RepL scr φ h vs xs) (e : seqAt vs k = some v) : ∃ j x, seqIndex? k xs.length = some j ∧ xs[j]? = some x ∧ Rep scr φ h v x ∧
    ((0 ≤ k ∧ j = k.toNat) ∨ (k < 0 ∧ -(xs.length : Int) ≤ k ∧ j = (k + xs.length).toNat)) := by
  unfold seqAt at e
  have hl := r.length
  split at e
  · rename_i h0
    obtain ⟨x, hx, hr⟩ := r.get e
    have hlt := (List.getElem?_eq_some_iff.mp hx).1
    refine ⟨k.toNat, x, ?_, hx, hr, .inl ⟨h0, rfl⟩⟩
    unfold seqIndex?
    have h1 : ¬ k < 0 := by omega
    simp only [h1, if_false]
    rw [if_pos (by simp only [Bool.and_eq_true, decide_eq_true_eq]; omega)]
  · split at e
    · rename_i h0 h1
      rw [hl] at e h1
      obtain ⟨x, hx, hr⟩ := r.get e
      have hlt := (List.getElem?_eq_some_iff.mp hx).1
      refine ⟨(k + xs.length).toNat, x, ?_, hx, hr, .inr ⟨by omega, h1, rfl⟩⟩
      unfold seqIndex?
      have h2 : k < 0 := by omega
      simp only [h2, if_true]
      rw [if_pos (by simp only [Bool.and_eq_true, decide_eq_true_eq]; omega)]
    · cases e

/-- a subscript that is no slice -/
noncomputable def notSlice : Expr → Bool
  | .Slice .. => false
  | _ => true
theorem subscripted_plain {e : Expr} (h : notSlice e = true) (o i : Value) : subscripted e false o i = operate [o, i] (getItem o i) := by
  cases e <;> first | rfl | cases h

theorem idx_snd {v i : V} {x y : Value} {u : V} {value slice : Expr} {Q : Value → Shared → Prop} (G : X.Gl C) (R : SR X.W φ H s.heap) (rm : Room A n) (hs : notSlice slice = true) (rv : Rep X.W.scr φ s.heap v x) (ri : Rep X.W.scr φ s.heap i y)
    (e : idxV C.scr v i H = some u) (hQ : ∀ tk z, Rep X.W.scr φ s.heap u z → Q z { s with toks := tk }) : wpAny X.M A (subscriptTail value slice x y) Q Ex s := by
  unfold idxV at e
  split at e
  · rename_i vs k hv
    cases ri
    rename_i t
    obtain ⟨a, xs, rfl, h1, h2, h3⟩ := items_at G R rv hv
    obtain ⟨j, z, q1, q2, q3, q4⟩ := seqAt_spec h1 e
    have hxl := h1.length
    have hjl := (List.getElem?_eq_some_iff.mp q2).1
    have hk : -(1000000 : Int) ≤ k ∧ k ≤ 1000000 := by rcases q4 with ⟨q4, rfl⟩ | ⟨q4, q5, rfl⟩ <;> omega
    rcases h3 with ⟨h3, _, _⟩ | ⟨h3, _⟩
    · exact item_tupleT h3 (by omega) (by omega) q1 q2 (hQ s.toks z q3) (subscripted_plain hs _ _)
    · refine tail_any h3.typeIs PySem.slot_list_getitem.lookup ?_ (subscripted_plain hs _ _)
      rcases q4 with ⟨q4, rfl⟩ | ⟨q4, q5, rfl⟩
      · exact wpAny_getItem_list h3 q4 (by omega) (by simpa using q2) (hQ s.toks z q3)
      · exact wpAny_getItem_list_neg h3 q4 (by simpa using q5) (by omega) (by simpa using q2) (hQ s.toks z q3)
  · cases e
end
end Mine

end
section
set_option autoImplicit false
set_option linter.unusedVariables false
set_option linter.unusedSimpArgs false
namespace Mine
open PySem PySem.Calls PyProof.Rows

section
variable {X : Fix} {C : Ctx} {A : Around} {n : Nat} {Ex : Value → Shared → Prop} {s : Shared} {φ : List Addr} {H : Hp} {sc : Scope} {ns : List Str} {env : Env} {ρ : Env'}

/-- a list of expressions: as arguments, as the parts of `and`, `or`, as the tests of a comprehension -/
structure LsS (X : Fix) (C : Ctx) (n : Nat) (sc : Scope) (ns : List Str) (cs : List E) (es : List Expr) : Prop where
  spl : ∀ (A : Around) (env : Env) (ρ : Env') (φ : List Addr) (H : Hp) (s : Shared) (Q : List Value → Shared → Prop) (Ex : Value → Shared → Prop) (pos : Pos),
    Room A n → Kinds sc env → FR X.W env ns ρ φ s.heap → SR X.W φ H s.heap → PostL X.W φ s Q (evalEs C cs ρ H) → wpAny X.M A (spliced (backTo pos (starEach es env))) Q Ex s
  plain : ∀ (env : Env) (pos : Pos), (backTo pos (starEach es env)).any (·.1) = false
  one : ∀ c e, cs = [c] → es = [e] → EvS X C n sc ns c e ∧ TrS X C n sc ns c e
  and : ∀ (A : Around) (env : Env) (ρ : Env') (φ : List Addr) (H : Hp) (s : Shared) (Q : Value → Shared → Prop) (Ex : Value → Shared → Prop) (pos : Pos),
    Room A n → Kinds sc env → FR X.W env ns ρ φ s.heap → SR X.W φ H s.heap → PostV X.W φ s Q (evalAnd C cs ρ H) → wpAny X.M A (eval (.BoolOp .And es pos) env) Q Ex s
  or : ∀ (A : Around) (env : Env) (ρ : Env') (φ : List Addr) (H : Hp) (s : Shared) (Q : Value → Shared → Prop) (Ex : Value → Shared → Prop) (pos : Pos),
    Room A n → Kinds sc env → FR X.W env ns ρ φ s.heap → SR X.W φ H s.heap → PostV X.W φ s Q (evalOr C cs ρ H) → wpAny X.M A (eval (.BoolOp .Or es pos) env) Q Ex s
  andT : ∀ (A : Around) (env : Env) (ρ : Env') (φ : List Addr) (H : Hp) (s : Shared) (Q : Bool → Shared → Prop) (Ex : Value → Shared → Prop),
    Room A n → Kinds sc env → FR X.W env ns ρ φ s.heap → SR X.W φ H s.heap → PostB X.W φ s Q ((evalAnd C cs ρ H).bind fun x H => ofOpt H (truthy C.scr H x)) → wpAny X.M A (allTrue .And es env) Q Ex s
  orT : ∀ (A : Around) (env : Env) (ρ : Env') (φ : List Addr) (H : Hp) (s : Shared) (Q : Bool → Shared → Prop) (Ex : Value → Shared → Prop),
    Room A n → Kinds sc env → FR X.W env ns ρ φ s.heap → SR X.W φ H s.heap → PostB X.W φ s Q ((evalOr C cs ρ H).bind fun x H => ofOpt H (truthy C.scr H x)) → wpAny X.M A (allTrue .Or es env) Q Ex s
  tst : ∀ (A : Around) (env : Env) (ρ : Env') (φ : List Addr) (H : Hp) (s : Shared) (Q : Bool → Shared → Prop) (Ex : Value → Shared → Prop),
    Room A n → Kinds sc env → FR X.W env ns ρ φ s.heap → SR X.W φ H s.heap → PostB X.W φ s Q (tests C cs ρ H) →
    wpAny X.M A (forIn es true fun c r => if r = true then do let ok ← isTrue c env (eval c env); pure (ForInStep.yield ok) else pure (ForInStep.yield r)) Q Ex s

theorem tests_false {es : List Expr} {Q : Bool → Shared → Prop} (h : Q false s) :
    wpAny X.M A (forIn es false fun c r => if r = true then do let ok ← isTrue c env (eval c env); pure (ForInStep.yield ok) else pure (ForInStep.yield r)) Q Ex s := by
  induction es with
  | nil => rw [List.forIn_nil]; exact wpAny_pure h
  | cons e r ih =>
    rw [List.forIn_cons]
    exact wpAny_bind (wpAny_pure ih)

theorem notStarred {c : E} {e : Expr} (h : chkE X.K sc ns c e = true) : ∀ env (rest : List Expr), starEach (e :: rest) env = (false, eval e env) :: starEach rest env := by
  intro env rest
  cases e <;> first | rfl | skip
  exfalso
  cases c <;> exact Bool.noConfusion h

theorem LsS.nil : LsS X C n sc ns [] [] where
  spl := fun A env ρ φ H s Q Ex pos rm kd F R p => wpAny_items_nil (by
    rw [evalEs_nil] at p
    exact p φ s.heap s.toks [] R .refl .nil)
  plain := fun _ _ => rfl
  one := fun c e h => by cases h
  and := fun A env ρ φ H s Q Ex pos rm kd F R p => p.elim
  or := fun A env ρ φ H s Q Ex pos rm kd F R p => p.elim
  andT := fun A env ρ φ H s Q Ex rm kd F R p => p.elim
  orT := fun A env ρ φ H s Q Ex rm kd F R p => p.elim
  tst := fun A env ρ φ H s Q Ex rm kd F R p => by
    rw [tests_nil] at p
    rw [List.forIn_nil]
    exact wpAny_pure (p.now R s.toks)

theorem LsS.cons {c : E} {cs : List E} {e : Expr} {es : List Expr} (G : X.Gl C) (h0 : chkE X.K sc ns c e = true) (hlen : cs.length = es.length) (he : EvS X C n sc ns c e ∧ TrS X C n sc ns c e) (hs : LsS X C n sc ns cs es) : LsS X C n sc ns (c :: cs) (e :: es) where
  spl := fun A env ρ φ H s Q Ex pos rm kd F R p => by
    refine wpAny_items_cons (he.1 A env ρ φ H s _ Ex rm kd F R ?_) (notStarred h0 env es)
    rw [evalEs_cons] at p
    cases hr : evalE C c ρ H with
    | ok v H1 =>
      rw [hr] at p
      intro φ1 h1 tk x R1 S1 r1
      refine hs.spl A env ρ φ1 H1 { s with heap := h1, toks := tk } _ Ex pos rm kd (F.mono0 S1) R1 ?_
      change PostL X.W φ s Q ((evalEs C cs ρ H1).bind _) at p
      cases hr2 : evalEs C cs ρ H1 with
      | ok vs H2 =>
        rw [hr2] at p
        exact fun φ2 h2 tk2 xs R2 S2 r2 => p φ2 h2 tk2 (x :: xs) R2 (S1.trans S2) (.cons (r1.mono S2) r2)
      | stuck => rw [hr2] at p; exact p.elim
    | stuck => rw [hr] at p; exact p.elim
  one := fun c' e' h1 h2 => by cases h1; cases h2; exact he
  plain := fun env pos => by
    rw [notStarred h0 env es]
    have := hs.plain env pos
    simpa [backTo] using this
  and := fun A env ρ φ H s Q Ex pos rm kd F R p => by
    rw [evalAnd_cons] at p
    have hv : ∀ {Q1 : Value → Shared → Prop}, (∀ v H1, evalE C c ρ H = .ok v H1 → PostV X.W φ s Q1 (.ok v H1)) → PostV X.W φ s Q1 (evalE C c ρ H) := by
      intro Q1 hq
      cases hr : evalE C c ρ H with
      | ok v H1 => exact hq v H1 hr
      | stuck => rw [hr] at p; exact p.elim
    cases cs with
    | nil =>
      cases es with
      | nil =>
        refine BoolOp_one (he.1 A env ρ φ H s _ Ex rm kd F R (hv fun v H1 hr => ?_))
        rw [hr] at p
        exact p
      | cons _ _ => cases hlen
    | cons c2 cs =>
      cases es with
      | nil => cases hlen
      | cons e2 es =>
        refine BoolOp_and (he.1 A env ρ φ H s _ Ex rm kd F R (hv fun v H1 hr => ?_))
        rw [hr] at p
        intro φ1 h1 tk x R1 S1 r1
        change PostV X.W φ s Q ((ofOpt H1 (truthy C.scr H1 v)).bind _) at p
        cases ht : truthy C.scr H1 v with
        | none => rw [ht] at p; exact p.elim
        | some b =>
          rw [ht] at p
          refine truthy_snd (s := { s with heap := h1, toks := tk }) G R1 r1 ht fun tk' => ?_
          cases b with
          | true => exact hs.and A env ρ φ1 H1 { s with heap := h1, toks := tk' } _ Ex pos rm kd (F.mono0 S1) R1 (p.step S1)
          | false => exact p φ1 h1 tk' x R1 S1 r1
  or := fun A env ρ φ H s Q Ex pos rm kd F R p => by
    rw [evalOr_cons] at p
    have hv : ∀ {Q1 : Value → Shared → Prop}, (∀ v H1, evalE C c ρ H = .ok v H1 → PostV X.W φ s Q1 (.ok v H1)) → PostV X.W φ s Q1 (evalE C c ρ H) := by
      intro Q1 hq
      cases hr : evalE C c ρ H with
      | ok v H1 => exact hq v H1 hr
      | stuck => rw [hr] at p; exact p.elim
    cases cs with
    | nil =>
      cases es with
      | nil =>
        refine BoolOp_one (he.1 A env ρ φ H s _ Ex rm kd F R (hv fun v H1 hr => ?_))
        rw [hr] at p
        exact p
      | cons _ _ => cases hlen
    | cons c2 cs =>
      cases es with
      | nil => cases hlen
      | cons e2 es =>
        refine BoolOp_or (he.1 A env ρ φ H s _ Ex rm kd F R (hv fun v H1 hr => ?_))
        rw [hr] at p
        intro φ1 h1 tk x R1 S1 r1
        change PostV X.W φ s Q ((ofOpt H1 (truthy C.scr H1 v)).bind _) at p
        cases ht : truthy C.scr H1 v with
        | none => rw [ht] at p; exact p.elim
        | some b =>
          rw [ht] at p
          refine truthy_snd (s := { s with heap := h1, toks := tk }) G R1 r1 ht fun tk' => ?_
          cases b with
          | false => exact hs.or A env ρ φ1 H1 { s with heap := h1, toks := tk' } _ Ex pos rm kd (F.mono0 S1) R1 (p.step S1)
          | true => exact p φ1 h1 tk' x R1 S1 r1
  andT := fun A env ρ φ H s Q Ex rm kd F R p => by
    refine wpAny_allTrue_And_cons (he.2 A env ρ φ H s _ Ex rm kd F R ?_)
    unfold Mine.tst
    rw [evalAnd_cons] at p
    cases hr : evalE C c ρ H with
    | ok v H1 =>
      rw [hr] at p
      show PostB X.W φ s _ (ofOpt H1 (truthy C.scr H1 v))
      cases ht : truthy C.scr H1 v with
      | none =>
        cases cs with
        | nil => change PostB X.W φ s Q (ofOpt H1 (truthy C.scr H1 v)) at p; rw [ht] at p; exact p.elim
        | cons c2 cs => change PostB X.W φ s Q (((ofOpt H1 (truthy C.scr H1 v)).bind _).bind _) at p; rw [ht] at p; exact p.elim
      | some b =>
        intro φ1 h1 tk R1 S1
        cases cs with
        | nil =>
          cases es with
          | cons _ _ => cases hlen
          | nil =>
            change PostB X.W φ s Q (ofOpt H1 (truthy C.scr H1 v)) at p
            rw [ht] at p
            cases b with
            | true => exact wpAny_allTrue_And_nil (p φ1 h1 tk R1 S1)
            | false => exact p φ1 h1 tk R1 S1
        | cons c2 cs =>
          change PostB X.W φ s Q (((ofOpt H1 (truthy C.scr H1 v)).bind _).bind _) at p
          rw [ht] at p
          cases b with
          | true => exact hs.andT A env ρ φ1 H1 { s with heap := h1, toks := tk } _ Ex rm kd (F.mono0 S1) R1 (p.step S1)
          | false =>
            change PostB X.W φ s Q (ofOpt H1 (truthy C.scr H1 v)) at p
            rw [ht] at p
            exact p φ1 h1 tk R1 S1
    | stuck => rw [hr] at p; exact p.elim
  orT := fun A env ρ φ H s Q Ex rm kd F R p => by
    refine wpAny_allTrue_Or_cons (he.2 A env ρ φ H s _ Ex rm kd F R ?_)
    unfold Mine.tst
    rw [evalOr_cons] at p
    cases hr : evalE C c ρ H with
    | ok v H1 =>
      rw [hr] at p
      show PostB X.W φ s _ (ofOpt H1 (truthy C.scr H1 v))
      cases ht : truthy C.scr H1 v with
      | none =>
        cases cs with
        | nil => change PostB X.W φ s Q (ofOpt H1 (truthy C.scr H1 v)) at p; rw [ht] at p; exact p.elim
        | cons c2 cs => change PostB X.W φ s Q (((ofOpt H1 (truthy C.scr H1 v)).bind _).bind _) at p; rw [ht] at p; exact p.elim
      | some b =>
        intro φ1 h1 tk R1 S1
        cases cs with
        | nil =>
          cases es with
          | cons _ _ => cases hlen
          | nil =>
            change PostB X.W φ s Q (ofOpt H1 (truthy C.scr H1 v)) at p
            rw [ht] at p
            cases b with
            | false => exact wpAny_allTrue_Or_nil (p φ1 h1 tk R1 S1)
            | true => exact p φ1 h1 tk R1 S1
        | cons c2 cs =>
          change PostB X.W φ s Q (((ofOpt H1 (truthy C.scr H1 v)).bind _).bind _) at p
          rw [ht] at p
          cases b with
          | false => exact hs.orT A env ρ φ1 H1 { s with heap := h1, toks := tk } _ Ex rm kd (F.mono0 S1) R1 (p.step S1)
          | true =>
            change PostB X.W φ s Q (ofOpt H1 (truthy C.scr H1 v)) at p
            rw [ht] at p
            exact p φ1 h1 tk R1 S1
    | stuck => rw [hr] at p; exact p.elim
  tst := fun A env ρ φ H s Q Ex rm kd F R p => by
    rw [List.forIn_cons]
    refine wpAny_bind ?_
    show wpAny X.M A (do let ok ← isTrue e env (eval e env); pure (ForInStep.yield ok)) _ Ex s
    refine wpAny_bind (he.2 A env ρ φ H s _ Ex rm kd F R ?_)
    unfold Mine.tst
    rw [tests_cons] at p
    cases hr : evalE C c ρ H with
    | ok v H1 =>
      rw [hr] at p
      show PostB X.W φ s _ (ofOpt H1 (truthy C.scr H1 v))
      change PostB X.W φ s Q ((ofOpt H1 (truthy C.scr H1 v)).bind _) at p
      cases ht : truthy C.scr H1 v with
      | none => rw [ht] at p; exact p.elim
      | some b =>
        rw [ht] at p
        intro φ1 h1 tk R1 S1
        refine wpAny_pure ?_
        cases b with
        | true => exact hs.tst A env ρ φ1 H1 { s with heap := h1, toks := tk } _ Ex rm kd (F.mono0 S1) R1 (p.step S1)
        | false => exact tests_false (p φ1 h1 tk R1 S1)
    | stuck => rw [hr] at p; exact p.elim
end
end Mine

end
section
set_option autoImplicit false
set_option linter.unusedVariables false
set_option linter.unusedSimpArgs false
namespace Mine
open PySem PySem.Calls PyProof.Rows

section
variable {X : Fix} {C : Ctx} {A : Around} {n : Nat} {Ex : Value → Shared → Prop} {s : Shared} {φ : List Addr} {H : Hp} {sc : Scope} {ns : List Str} {env : Env} {ρ : Env'}

theorem bindV {r : R V} {f : V → Hp → R V} {Q Q1 : Value → Shared → Prop} (p : PostV X.W φ s Q (r.bind f)) (k : ∀ v H1, PostV X.W φ s Q (f v H1) → PostV X.W φ s Q1 (.ok v H1)) : PostV X.W φ s Q1 r := by
  cases r with
  | ok v H1 => exact k v H1 p
  | stuck => exact p.elim
theorem bindVB {r : R V} {f : V → Hp → R Bool} {Q : Bool → Shared → Prop} {Q1 : Value → Shared → Prop} (p : PostB X.W φ s Q (r.bind f)) (k : ∀ v H1, PostB X.W φ s Q (f v H1) → PostV X.W φ s Q1 (.ok v H1)) : PostV X.W φ s Q1 r := by
  cases r with
  | ok v H1 => exact k v H1 p
  | stuck => exact p.elim
theorem bindL {r : R (List V)} {f : List V → Hp → R V} {Q : Value → Shared → Prop} {Q1 : List Value → Shared → Prop} (p : PostV X.W φ s Q (r.bind f)) (k : ∀ v H1, PostV X.W φ s Q (f v H1) → PostL X.W φ s Q1 (.ok v H1)) : PostL X.W φ s Q1 r := by
  cases r with
  | ok v H1 => exact k v H1 p
  | stuck => exact p.elim
theorem bindO {α : Type} {o : Option α} {H1 : Hp} {f : α → Hp → R V} {Q : Value → Shared → Prop} (p : PostV X.W φ s Q ((ofOpt H1 o).bind f)) : ∃ a, o = some a ∧ PostV X.W φ s Q (f a H1) := by
  cases o with
  | none => exact p.elim
  | some a => exact ⟨a, rfl, p⟩

theorem k_snd {v : V} {c : Const} {k : Nat} {pos : Pos} (h : chkC v c = true) : EvS X C n sc ns (.k v) (.Constant c k pos) := by
  intro A env ρ φ H s Q Ex rm kd F R p
  rw [evalE_k] at p
  cases v with
  | none => obtain rfl := of_decide_eq_true h; exact wpAny_Constant_none (p.now R .none s.toks)
  | bool b => obtain rfl := of_decide_eq_true h; exact wpAny_Constant_bool (p.now R (.bool _) s.toks)
  | int i => obtain rfl := of_decide_eq_true h; exact wpAny_Constant_int (p.now R (.int _ _) _)
  | _ => exact Bool.noConfusion h

theorem alloc_snd {vs : List V} {xs : List Value} {Q : Value → Shared → Prop} (R : SR X.W φ H s.heap) (r : RepL X.W.scr φ s.heap vs xs) (hz : vs.length ≤ 1000000) (p : PostV X.W φ s Q (alloc (.list vs) H)) (k tk : Nat) :
    Q (.ref s.heap.objs.size) { s with heap := s.heap.push (lstObj xs k), toks := tk } := by
  have S : Stp [] φ s.heap (φ ++ [s.heap.objs.size]) (s.heap.push (lstObj xs k)) := R.allocStp _
  refine p _ _ _ _ (R.alloc (c := .list vs) rfl ⟨xs, k, Heap.get?_push_size _ rfl, r.mono S, hz⟩) S (.ref ?_)
  rw [← R.len, List.getElem?_append_right (Nat.le_refl _)]; simp

theorem allocL_snd {vs : List V} {xs : List Value} {Q : Value → Shared → Prop} (R : SR X.W φ H s.heap) (r : RepL X.W.scr φ s.heap vs xs) (p : PostV X.W φ s Q (allocL vs H)) (k tk : Nat) :
    Q (.ref s.heap.objs.size) { s with heap := s.heap.push (lstObj xs k), toks := tk } ∧ xs.length ≤ sizeLine := by
  unfold allocL at p
  split at p
  · rename_i h
    have h' : vs.length < 1000000 := by simpa [szOk] using h
    exact ⟨alloc_snd R r (by omega) p k tk, by rw [← r.length]; unfold sizeLine; omega⟩
  · exact p.elim

theorem binop_snd {op : BOp} {o : Operator} {v u : V} {x y : Value} {Q : Value → Shared → Prop} (G : X.Gl C) (R : SR X.W φ H s.heap) (rm : Room A n) (ho : opOk op o = true)
    (r1 : Rep X.W.scr φ s.heap v x) (r2 : Rep X.W.scr φ s.heap u y) (p : PostV X.W φ s Q (binop op v u H)) : wpAny X.M A (binaryOp o x y) Q Ex s := by
  cases v with
  | int a =>
    obtain ⟨b, rfl, p2⟩ := onInt_post (f := fun b => binI op a b H) p
    cases r1; cases r2
    cases hr : binI op a b H with
    | stuck => rw [hr] at p2; exact p2.elim
    | ok z H' =>
      refine binop_int G R rm ho hr fun tk i t hz hH => ?_
      subst hz; subst hH
      rw [hr] at p2
      exact p2.now R (.int _ _) _
  | ref l =>
    cases op <;> first | exact p.elim | skip
    obtain rfl := of_decide_eq_true ho
    obtain ⟨l', xs, e1, h1, p2⟩ := onL_post (v := .ref l) (H := H) (f := fun xs => onL H u fun ys => allocL (xs ++ ys) H) p
    cases e1
    obtain ⟨m, ys, rfl, h2, p3⟩ := onL_post p2
    obtain ⟨a, xa, ka, rfl, _, q1, q2, q3⟩ := listAt R r1 h1
    obtain ⟨b, xb, kb, rfl, _, t1, t2, t3⟩ := listAt R r2 h2
    obtain ⟨w1, w2⟩ := allocL_snd R (q2.append t2) p3 0 s.toks
    refine P.add_list (items := xa.toArray) (items2 := xb.toArray) q1 t1 ?_ (by simpa using w2)
    rw [List.append_toArray]
    exact w1
  | _ => exact p.elim

theorem bin_snd {op : BOp} {o : Operator} {a b : E} {l r : Expr} {pos : Pos} (G : X.Gl C) (ho : opOk op o = true) (ha : EvS X C n sc ns a l) (hb : EvS X C n sc ns b r) : EvS X C n sc ns (.bin op a b) (.BinOp l o r pos) := by
  intro A env ρ φ H s Q Ex rm kd F R p
  rw [evalE_bin] at p
  refine wpAny_BinOp (ha A env ρ φ H s _ Ex rm kd F R (bindV p fun v H1 p1 => ?_))
  intro φ1 h1 tk x R1 S1 r1
  refine hb A env ρ φ1 H1 { s with heap := h1, toks := tk } _ Ex rm kd (F.mono0 S1) R1 (bindV (p1.step S1) fun u H2 p2 => ?_)
  intro φ2 h2 tk2 y R2 S2 r2
  exact binop_snd (s := { s with heap := h2, toks := tk2 }) G R2 rm ho (r1.mono S2) r2 (p2.step S2)

theorem neg_snd {a : E} {x : Expr} {pos : Pos} (ha : EvS X C n sc ns a x) : EvS X C n sc ns (.neg a) (.UnaryOp .USub x pos) := by
  intro A env ρ φ H s Q Ex rm kd F R p
  rw [evalE_neg] at p
  refine wpAny_UnaryOp (ha A env ρ φ H s _ Ex rm kd F R (bindV p fun v H1 p1 => ?_))
  intro φ1 h1 tk x R1 S1 r1
  cases v with
  | int i => cases r1; exact PyProof.Rows.neg_int (p1 φ1 h1 _ _ R1 S1 (.int _ _))
  | _ => exact p1.elim

theorem not_snd {a : E} {x : Expr} {pos : Pos} (G : X.Gl C) (ha : EvS X C n sc ns a x ∧ TrS X C n sc ns a x) : EvS X C n sc ns (.not a) (.UnaryOp .Not x pos) ∧ TrS X C n sc ns (.not a) (.UnaryOp .Not x pos) := by
  constructor
  · intro A env ρ φ H s Q Ex rm kd F R p
    rw [evalE_not] at p
    refine wpAny_UnaryOp (ha.1 A env ρ φ H s _ Ex rm kd F R (bindV p fun v H1 p1 => ?_))
    intro φ1 h1 tk x R1 S1 r1
    obtain ⟨b, hb, p2⟩ := bindO p1
    exact not_of (truthy_snd (s := { s with heap := h1, toks := tk }) G R1 r1 hb fun tk' => p2 φ1 h1 tk' _ R1 S1 (.bool _))
  · intro A env ρ φ H s Q Ex rm kd F R p
    refine wpAny_isTrue_Not (ha.2 A env ρ φ H s _ Ex rm kd F R ?_)
    unfold tst at p ⊢
    rw [evalE_not] at p
    cases hr : evalE C a ρ H with
    | stuck => rw [hr] at p; exact p.elim
    | ok v H1 =>
      rw [hr] at p
      change PostB X.W φ s Q (((ofOpt H1 (truthy C.scr H1 v)).bind _).bind _) at p
      show PostB X.W φ s _ (ofOpt H1 (truthy C.scr H1 v))
      cases ht : truthy C.scr H1 v with
      | none => rw [ht] at p; exact p.elim
      | some b => rw [ht] at p; exact fun φ1 h1 tk R1 S1 => p φ1 h1 tk R1 S1

theorem and_snd {cs : List E} {es : List Expr} {pos : Pos} (h : LsS X C n sc ns cs es) : EvS X C n sc ns (.and cs) (.BoolOp .And es pos) ∧ TrS X C n sc ns (.and cs) (.BoolOp .And es pos) := by
  constructor
  · intro A env ρ φ H s Q Ex rm kd F R p
    rw [evalE_and] at p
    exact h.and A env ρ φ H s Q Ex pos rm kd F R p
  · intro A env ρ φ H s Q Ex rm kd F R p
    unfold tst at p
    rw [evalE_and] at p
    exact wpAny_isTrue_BoolOp (h.andT A env ρ φ H s Q Ex rm kd F R p)
theorem or_snd {cs : List E} {es : List Expr} {pos : Pos} (h : LsS X C n sc ns cs es) : EvS X C n sc ns (.or cs) (.BoolOp .Or es pos) ∧ TrS X C n sc ns (.or cs) (.BoolOp .Or es pos) := by
  constructor
  · intro A env ρ φ H s Q Ex rm kd F R p
    rw [evalE_or] at p
    exact h.or A env ρ φ H s Q Ex pos rm kd F R p
  · intro A env ρ φ H s Q Ex rm kd F R p
    unfold tst at p
    rw [evalE_or] at p
    exact wpAny_isTrue_BoolOp (h.orT A env ρ φ H s Q Ex rm kd F R p)

theorem bindTst {c : E} {f : Bool → Hp → R V} {Q : Value → Shared → Prop} {Q1 : Bool → Shared → Prop} (p : PostV X.W φ s Q ((evalE C c ρ H).bind fun x H => (ofOpt H (truthy C.scr H x)).bind f))
    (k : ∀ b H1, PostV X.W φ s Q (f b H1) → PostB X.W φ s Q1 (.ok b H1)) : PostB X.W φ s Q1 (tst C c ρ H) := by
  unfold tst
  cases hr : evalE C c ρ H with
  | stuck => rw [hr] at p; exact p.elim
  | ok v H1 =>
    rw [hr] at p
    change PostV X.W φ s Q ((ofOpt H1 (truthy C.scr H1 v)).bind _) at p
    obtain ⟨b, hb, p2⟩ := bindO p
    show PostB X.W φ s Q1 (ofOpt H1 (truthy C.scr H1 v))
    rw [hb]
    exact k b H1 p2

theorem ife_snd {c a b : E} {t x y : Expr} {pos : Pos} (hc : EvS X C n sc ns c t ∧ TrS X C n sc ns c t) (ha : EvS X C n sc ns a x ∧ TrS X C n sc ns a x) (hb : EvS X C n sc ns b y ∧ TrS X C n sc ns b y) :
    EvS X C n sc ns (.ife c a b) (.IfExp t x y pos) ∧ TrS X C n sc ns (.ife c a b) (.IfExp t x y pos) := by
  constructor
  · intro A env ρ φ H s Q Ex rm kd F R p
    rw [evalE_ife] at p
    refine wpAny_IfExp (hc.2 A env ρ φ H s _ Ex rm kd F R (bindTst p fun b' H1 p1 => ?_))
    intro φ1 h1 tk R1 S1
    cases b' with
    | true => exact ha.1 A env ρ φ1 H1 { s with heap := h1, toks := tk } _ Ex rm kd (F.mono0 S1) R1 (p1.step S1)
    | false => exact hb.1 A env ρ φ1 H1 { s with heap := h1, toks := tk } _ Ex rm kd (F.mono0 S1) R1 (p1.step S1)
  · intro A env ρ φ H s Q Ex rm kd F R p
    refine isTrue_IfExp (hc.2 A env ρ φ H s _ Ex rm kd F R ?_)
    unfold tst at p ⊢
    rw [evalE_ife] at p
    cases hr : evalE C c ρ H with
    | stuck => rw [hr] at p; exact p.elim
    | ok v H1 =>
      rw [hr] at p
      change PostB X.W φ s Q (((ofOpt H1 (truthy C.scr H1 v)).bind _).bind _) at p
      show PostB X.W φ s _ (ofOpt H1 (truthy C.scr H1 v))
      cases ht : truthy C.scr H1 v with
      | none => rw [ht] at p; exact p.elim
      | some b' =>
        rw [ht] at p
        intro φ1 h1 tk R1 S1
        cases b' with
        | true => exact ha.2 A env ρ φ1 H1 { s with heap := h1, toks := tk } _ Ex rm kd (F.mono0 S1) R1 (p.step S1)
        | false => exact hb.2 A env ρ φ1 H1 { s with heap := h1, toks := tk } _ Ex rm kd (F.mono0 S1) R1 (p.step S1)

theorem noMarks {c : E} {e : Expr} (h : chkE X.K sc ns c e = true) (o : CmpOp) : behindInMarks o e = false := by
  cases e <;> first | rfl | skip
  exfalso
  cases c <;> exact Bool.noConfusion h

theorem cmpE_snd {op : COp} {o : CmpOp} {a b : E} {l r : Expr} {pos : Pos} (G : X.Gl C) (ho : copOk op o = true) (hr0 : chkE X.K sc ns b r = true) (ha : EvS X C n sc ns a l) (hb : EvS X C n sc ns b r) :
    EvS X C n sc ns (.cmp op a b) (.Compare l [o] [r] pos) ∧ TrS X C n sc ns (.cmp op a b) (.Compare l [o] [r] pos) := by
  constructor
  · intro A env ρ φ H s Q Ex rm kd F R p
    rw [evalE_cmp] at p
    refine wpAny_Compare1 (ha A env ρ φ H s _ Ex rm kd F R (bindV p fun v H1 p1 => ?_)) (noMarks hr0 o)
    intro φ1 h1 tk x R1 S1 r1
    refine hb A env ρ φ1 H1 { s with heap := h1, toks := tk } _ Ex rm kd (F.mono0 S1) R1 (bindV (p1.step S1) fun u H2 p2 => ?_)
    intro φ2 h2 tk2 y R2 S2 r2
    obtain ⟨b', hb', p3⟩ := bindO p2
    exact cmp_snd (s := { s with heap := h2, toks := tk2 }) G R2 rm ho (r1.mono S2) r2 hb' fun tk' => p3 φ2 h2 tk' _ R2 S2 (.bool _)
  · intro A env ρ φ H s Q Ex rm kd F R p
    unfold tst at p
    rw [evalE_cmp] at p
    refine wpAny_isTrue_Compare1 (ha A env ρ φ H s _ Ex rm kd F R ?_) (noMarks hr0 o)
    cases hv : evalE C a ρ H with
    | stuck => rw [hv] at p; exact p.elim
    | ok v H1 =>
      rw [hv] at p
      intro φ1 h1 tk x R1 S1 r1
      refine hb A env ρ φ1 H1 { s with heap := h1, toks := tk } _ Ex rm kd (F.mono0 S1) R1 ?_
      change PostB X.W φ s Q (((evalE C b ρ H1).bind _).bind _) at p
      cases hu : evalE C b ρ H1 with
      | stuck => rw [hu] at p; exact p.elim
      | ok u H2 =>
        rw [hu] at p
        intro φ2 h2 tk2 y R2 S2 r2
        change PostB X.W φ s Q (((ofOpt H2 (cmpV C.scr op v u H2)).bind _).bind _) at p
        cases hc : cmpV C.scr op v u H2 with
        | none => rw [hc] at p; exact p.elim
        | some b' =>
          rw [hc] at p
          exact cmp_snd (s := { s with heap := h2, toks := tk2 }) G R2 rm ho (r1.mono S2) r2 hc fun tk' => wpAny_truthy_bool (p φ2 h2 tk' R2 (S1.trans S2))

theorem isNone_snd {a : E} {l : Expr} {k : Nat} {kp pos : Pos} (ha : EvS X C n sc ns a l) :
    EvS X C n sc ns (.isNone a) (.Compare l [.Is] [.Constant .none k kp] pos) ∧ TrS X C n sc ns (.isNone a) (.Compare l [.Is] [.Constant .none k kp] pos) := by
  have key : ∀ {φ : List Addr} {h : Heap} {v : V} {x : Value}, Rep X.W.scr φ h v x → plainIs x .none = true ∧ (x == Value.none) = isNoneV v := by
    intro φ h v x r
    cases r <;> exact ⟨rfl, rfl⟩
  constructor
  · intro A env ρ φ H s Q Ex rm kd F R p
    rw [evalE_isNone] at p
    refine wpAny_Compare1 (ha A env ρ φ H s _ Ex rm kd F R (bindV p fun v H1 p1 => ?_)) rfl
    intro φ1 h1 tk x R1 S1 r1
    refine wpAny_Constant_none (wpAny_is_plain (key r1).1 ?_)
    rw [(key r1).2]
    exact p1 φ1 h1 tk _ R1 S1 (.bool _)
  · intro A env ρ φ H s Q Ex rm kd F R p
    unfold tst at p
    rw [evalE_isNone] at p
    refine wpAny_isTrue_Compare1 (ha A env ρ φ H s _ Ex rm kd F R ?_) rfl
    cases hv : evalE C a ρ H with
    | stuck => rw [hv] at p; exact p.elim
    | ok v H1 =>
      rw [hv] at p
      intro φ1 h1 tk x R1 S1 r1
      refine wpAny_Constant_none (wpAny_is_plain (key r1).1 ?_)
      rw [(key r1).2]
      exact wpAny_truthy_bool (p φ1 h1 tk R1 S1)
theorem notNone_snd {a : E} {l : Expr} {k : Nat} {kp pos : Pos} (ha : EvS X C n sc ns a l) :
    EvS X C n sc ns (.notNone a) (.Compare l [.IsNot] [.Constant .none k kp] pos) ∧ TrS X C n sc ns (.notNone a) (.Compare l [.IsNot] [.Constant .none k kp] pos) := by
  have key : ∀ {φ : List Addr} {h : Heap} {v : V} {x : Value}, Rep X.W.scr φ h v x → plainIs x .none = true ∧ (x == Value.none) = isNoneV v := by
    intro φ h v x r
    cases r <;> exact ⟨rfl, rfl⟩
  constructor
  · intro A env ρ φ H s Q Ex rm kd F R p
    rw [evalE_notNone] at p
    refine wpAny_Compare1 (ha A env ρ φ H s _ Ex rm kd F R (bindV p fun v H1 p1 => ?_)) rfl
    intro φ1 h1 tk x R1 S1 r1
    refine wpAny_Constant_none (wpAny_isNot_plain (key r1).1 ?_)
    rw [(key r1).2]
    exact p1 φ1 h1 tk _ R1 S1 (.bool _)
  · intro A env ρ φ H s Q Ex rm kd F R p
    unfold tst at p
    rw [evalE_notNone] at p
    refine wpAny_isTrue_Compare1 (ha A env ρ φ H s _ Ex rm kd F R ?_) rfl
    cases hv : evalE C a ρ H with
    | stuck => rw [hv] at p; exact p.elim
    | ok v H1 =>
      rw [hv] at p
      intro φ1 h1 tk x R1 S1 r1
      refine wpAny_Constant_none (wpAny_isNot_plain (key r1).1 ?_)
      rw [(key r1).2]
      exact wpAny_truthy_bool (p φ1 h1 tk R1 S1)

theorem chkEs_len {cs : List E} {es : List Expr} (h : chkEs X.K sc ns cs es = true) : cs.length = es.length := by
  induction cs generalizing es with
  | nil => cases es with
    | nil => rfl
    | cons _ _ => exact Bool.noConfusion h
  | cons c cs ih => cases es with
    | nil => exact Bool.noConfusion h
    | cons e es =>
      replace h : (chkE X.K sc ns c e && chkEs X.K sc ns cs es) = true := h
      rw [Bool.and_eq_true] at h
      rw [List.length_cons, List.length_cons, ih h.2]
theorem evalEs_len {cs : List E} : ∀ {ρ : Env'} {H : Hp} {vs : List V} {H' : Hp}, evalEs C cs ρ H = .ok vs H' → vs.length = cs.length := by
  induction cs with
  | nil => intro ρ H vs H' h; rw [evalEs_nil] at h; cases h; rfl
  | cons c cs ih =>
    intro ρ H vs H' h
    rw [evalEs_cons] at h
    cases h1 : evalE C c ρ H with
    | stuck => rw [h1] at h; cases h
    | ok v H1 =>
      rw [h1] at h
      change ((evalEs C cs ρ H1).bind _) = _ at h
      cases h2 : evalEs C cs ρ H1 with
      | stuck => rw [h2] at h; cases h
      | ok us H2 => rw [h2] at h; cases h; simp [ih h2]

theorem tup_snd {cs : List E} {es : List Expr} {k : Nat} {pos : Pos} (hl : cs.length < 1000) (h : LsS X C n sc ns cs es) : EvS X C n sc ns (.tup cs) (.Tuple es k pos) := by
  intro A env ρ φ H s Q Ex rm kd F R p
  rw [evalE_tup] at p
  refine wpAny_Tuple_spliced (h.spl A env ρ φ H s _ Ex pos rm kd F R ?_)
  cases hv : evalEs C cs ρ H with
  | stuck => rw [hv] at p; exact p.elim
  | ok vs H1 =>
    have hlen := evalEs_len hv
    rw [hv] at p
    intro φ1 h1 tk xs R1 S1 r1
    have := r1.length
    refine ⟨by unfold sizeLine; omega, ?_⟩
    refine p φ1 _ tk _ (R1.ext fun _ _ e => Heap.get?_push_of_some _ e) (S1.trans (.push _)) (.tup (n := 0) (Heap.get?_push_size _ rfl) (r1.mono (own := []) (.push _)) (by omega))
theorem lst_snd {cs : List E} {es : List Expr} {pos : Pos} (hl : cs.length < 1000) (h : LsS X C n sc ns cs es) : EvS X C n sc ns (.lst cs) (.List es pos) := by
  intro A env ρ φ H s Q Ex rm kd F R p
  rw [evalE_lst] at p
  refine wpAny_List_spliced (h.spl A env ρ φ H s _ Ex pos rm kd F R ?_)
  cases hv : evalEs C cs ρ H with
  | stuck => rw [hv] at p; exact p.elim
  | ok vs H1 =>
    have hlen := evalEs_len hv
    rw [hv] at p
    intro φ1 h1 tk xs R1 S1 r1
    have := r1.length
    refine ⟨by unfold sizeLine; omega, ?_⟩
    exact alloc_snd (s := { s with heap := h1, toks := tk }) R1 r1 (by omega) (PostV.step p S1) 0 tk

theorem notSlice_of {c : E} {e : Expr} (h : chkE X.K sc ns c e = true) : notSlice e = true := by
  cases e <;> first | rfl | skip
  exfalso
  cases c <;> exact Bool.noConfusion h
theorem idxE_snd {a i : E} {v sl : Expr} {pos : Pos} (G : X.Gl C) (h0 : chkE X.K sc ns i sl = true) (ha : EvS X C n sc ns a v) (hi : EvS X C n sc ns i sl) : EvS X C n sc ns (.idx a i) (.Subscript v sl pos) := by
  intro A env ρ φ H s Q Ex rm kd F R p
  rw [evalE_idx] at p
  refine Subscript_ (ha A env ρ φ H s _ Ex rm kd F R (bindV p fun v H1 p1 => ?_))
  intro φ1 h1 tk x R1 S1 r1
  refine hi A env ρ φ1 H1 { s with heap := h1, toks := tk } _ Ex rm kd (F.mono0 S1) R1 (bindV (p1.step S1) fun u H2 p2 => ?_)
  intro φ2 h2 tk2 y R2 S2 r2
  cases hx : idxV C.scr v u H2 with
  | none => rw [hx] at p2; exact p2.elim
  | some z =>
    rw [hx] at p2
    exact idx_snd (s := { s with heap := h2, toks := tk2 }) G R2 rm (notSlice_of h0) (r1.mono S2) r2 hx fun tk' z' rz => p2 φ2 h2 tk' z' R2 S2 rz

theorem evalArgs_of {f : Value} {args : List (Bool × Sem Value)} {Q : Args → Shared → Prop} (hp : args.any (·.1) = false) (h : wpAny X.M A (spliced args) (fun vs s' => Q ⟨vs, []⟩ s') Ex s) : wpAny X.M A (evalArgs f true args []) Q Ex s := by
  cases args with
  | nil =>
    unfold evalArgs
    show wpAny X.M A (spliced [] >>= _) Q Ex s
    refine wpAny_bind (wpAny_mono h (fun vs s' h' => ?_) fun _ _ x => x)
    refine wpAny_bind (wpAny_pure (wpAny_holding ?_))
    exact wpAny_bind (wpAny_pure (wpAny_bind (wpAny_pure (wpAny_pure h'))))
  | cons a r =>
    obtain ⟨b, t⟩ := a
    simp only [List.any_cons, Bool.or_eq_false_iff] at hp
    obtain ⟨rfl, _⟩ := hp
    exact Calls.evalArgs_plain h

theorem call_snd {f : Nat} {x : Str} {cs : List E} {es : List Expr} {np pos : Pos} (G : X.Gl C) (hc : X.CallOk C n) (h1 : X.K.fns[f]? = some x) (h2 : okGlob sc x = true) (h : LsS X C n sc ns cs es) :
    EvS X C n sc ns (.call f cs) (.Call (.Name x np) es [] pos) := by
  intro A env ρ φ H s Q Ex rm kd F R p
  rw [evalE_call] at p
  refine wpAny_Call_NameR (glob_fn G kd F R h1 h2 fun a ha => ?_)
  obtain ⟨a', o, d, pm, cd, doc, e1, e2, e3, e4, e5, _⟩ := G.1.fn f x h1
  rw [ha] at e3; cases e3
  refine Calls.callWith_function (o := o) (fd := docDef d.name d.params d.body d.scope pm cd doc) (evalArgs_of (h.plain env pos) (h.spl A env ρ φ H s _ Ex pos rm kd F R (bindL p fun vs H1 p1 => ?_)))
  intro φ1 h1' tk xs R1 S1 r1
  exact ⟨⟨R1.keep _ _ e4, e5⟩, by simpa using hc A f x a vs H1 φ1 { s with heap := h1', toks := tk } xs Q Ex rm h1 ha R1 r1 (p1.step S1)⟩
end
end Mine

end
section
set_option autoImplicit false
set_option linter.unusedVariables false
set_option linter.unusedSimpArgs false
namespace Mine
open PySem PySem.Calls PyProof.Rows

/-- what a statement may change of the frame -/
noncomputable def OwnV (env : Env) (own : List Addr) (x : Str) : Prop := (env.kindOf x = some .local ∧ env.locals ∈ own) ∨ (env.kindOf x = some .cell ∧ ∀ c, env.cells.lookup x = some c → c ∈ own)

section
variable {X : Fix} {C : Ctx} {A : Around} {n : Nat} {Ex : Value → Shared → Prop} {s : Shared} {φ : List Addr} {H : Hp} {sc : Scope} {ns : List Str} {env : Env} {ρ : Env'} {own : List Addr}

/-- a name is stored -/
theorem store_snd {x : Str} {i : Nat} {v : V} {y : Value} {Q : Unit → Shared → Prop} (hi : ns.idxOf x = i) (hx : x ∈ ns) (ho : OwnV env own x) (F : FR X.W env ns ρ φ s.heap) (R : SR X.W φ H s.heap) (r : Rep X.W.scr φ s.heap v y)
    (hQ : ∀ h' tk, SR X.W φ H h' → FR X.W env ns (ρ.set i (some v)) φ h' → Stp own φ s.heap φ h' → Q () { s with heap := h', toks := tk }) : wpAny X.M A (bindName env x y) Q Ex s := by
  have hil : i < ρ.length := by rw [F.len, ← hi]; exact List.idxOf_lt_length_of_mem hx
  have hlk : ∀ z ∈ ns, lk ns (ρ.set i (some v)) z = if z = x then some v else lk ns ρ z := by
    intro z hz
    rw [lk_set hi hil]
    by_cases e : z = x
    · subst e; rw [if_pos hi, if_pos rfl]
    · rw [if_neg e, if_neg (fun e' => e (idxOf_inj hz hx (e'.trans hi.symm)))]
  unfold bindName
  refine wpAny_bind (wpAny_holding (wpAny_point (wpAny_bind ?_)))
  rcases ho with ⟨hk, hL⟩ | ⟨hk, hc⟩
  · obtain ⟨m, hm, hr⟩ := F.loc
    obtain ⟨o, es, ep, hg, hd, _⟩ := id hm
    refine wpAny_storeName_local hk hm (fun h' hn hs => wpAny_point ?_) (by rw [F.fn]; rfl)
    obtain ⟨o', es', ep', hg', _⟩ := id hn
    have S : Stp own φ s.heap φ h' := .but (.inl hL) hg (notTup_dict hd) hg' hs.extBut
    refine hQ h' _ (R.but F.locA.1 F.locA.2 hg (notTup_dict hd) hg' hs.extBut) ⟨F.fn, F.glob, F.blt, F.gen, by rw [List.length_set]; exact F.len, ?_, F.locA, ?_, F.apart, fun p hp => ⟨(F.alive p hp).1, S.alive _ _ (F.alive p hp).2.choose_spec⟩⟩ S
    · refine ⟨_, hn, fun z hz hkz => ?_⟩
      rw [hlk z hz]
      by_cases e : z = x
      · subst e; simp only [if_true]; exact .some (r.mono S)
      · simp only [if_neg e]; exact (hr z hz hkz).mono S
    · intro z hz hkz
      obtain ⟨c, v', h1, h2, h3, h4, h5, h6⟩ := F.cel z hz hkz
      refine ⟨c, v', h1, h2, h3, h4, IsCell_at h5 fun o e => hs.extBut c o h3 e, ?_⟩
      rw [hlk z hz, if_neg (fun e => by subst e; rw [hk] at hkz; rcases hkz with hkz | hkz <;> cases hkz)]
      exact h6.mono S
  · obtain ⟨c, v', h1, h2, h3, h4, h5, h6⟩ := F.cel x hx (.inl hk)
    obtain ⟨o, hg, hd⟩ := id h5
    refine wpAny_storeName_cell F.fn hk h1 h5 fun h' hn hs => wpAny_point ?_
    obtain ⟨o', hg', _⟩ := id hn
    have S : Stp own φ s.heap φ h' := .but (.inl (hc c h1)) hg (notTup_cell hd) hg' hs.extBut
    refine hQ h' s.toks (R.but h2 h4 hg (notTup_cell hd) hg' hs.extBut) ⟨F.fn, F.glob, F.blt, F.gen, by rw [List.length_set]; exact F.len, ?_, F.locA, ?_, F.apart, fun p hp => ⟨(F.alive p hp).1, S.alive _ _ (F.alive p hp).2.choose_spec⟩⟩ S
    · obtain ⟨m, hm, hr⟩ := F.loc
      refine ⟨m, Ns_at hm fun o e => hs.extBut _ o h3.symm e, fun z hz hkz => ?_⟩
      rw [hlk z hz, if_neg (fun e => by subst e; rw [hk] at hkz; cases hkz)]
      exact (hr z hz hkz).mono S
    · intro z hz hkz
      rw [hlk z hz]
      by_cases e : z = x
      · subst e
        rw [if_pos rfl]
        exact ⟨c, some y, h1, h2, h3, h4, hn, .some (r.mono S)⟩
      · rw [if_neg e]
        obtain ⟨c', v2, q1, q2, q3, q4, q5, q6⟩ := F.cel z hz hkz
        have hne : c' ≠ c := fun e' => e (F.apart z x c (e' ▸ q1) h1)
        exact ⟨c', v2, q1, q2, q3, q4, IsCell_at q5 fun o e => hs.extBut _ o hne e, q6.mono S⟩

/-- all names that a target may store are the frame's own -/
noncomputable def OwnN (env : Env) (own : List Addr) (xs : List Str) : Prop := ∀ x ∈ xs, OwnV env own x

theorem size_none (h : Heap) : h.get? h.objs.size = none := by
  cases e : h.get? h.objs.size with
  | none => rfl
  | some o => exact absurd (Heap.lt_size e) (Nat.lt_irrefl _)
theorem extNew {h h' : Heap} (he : Heap.ExtBut h.objs.size h h') : ∀ a o, h.get? a = some o → h'.get? a = some o := fun a o e => he a o (fun e' => by subst e'; rw [size_none] at e; cases e) e

mutual
theorem asg_snd : ∀ (t : Tgt) (e : Expr) (v : V) (y : Value) (A : Around) (ρ ρ' : Env') (φ : List Addr) (H : Hp) (s : Shared) (Q : Unit → Shared → Prop) (Ex : Value → Shared → Prop), chkT sc ns t e = true → OwnN env own (tNames t e) → Room A n → FR X.W env ns ρ φ s.heap → SR X.W φ H s.heap → Rep X.W.scr φ s.heap v y →
    asg t v ρ = some ρ' → (∀ h' tk, SR X.W φ H h' → FR X.W env ns ρ' φ h' → Stp own φ s.heap φ h' → Q () { s with heap := h', toks := tk }) → wpAny X.M A (assign e env y) Q Ex s
  | .var i, e, v, y, A, ρ, ρ', φ, H, s, Q, Ex, h, ho, rm, F, R, r, ea, hQ => by
    replace h := ifName.spec h
    obtain ⟨x, pos, rfl, h⟩ := h
    rw [Bool.and_eq_true] at h
    obtain ⟨hi, hx⟩ := okVar_spec h.1
    change (if i < ρ.length then some (ρ.set i (some v)) else none) = _ at ea
    split at ea
    · cases ea
      rw [PySem.assign_Name]
      refine wpAny_bind (wpAny_standAt ?_)
      exact store_snd hi hx (ho x (by simp [tNames])) F R r hQ
    · cases ea
  | .tup ts, e, v, y, A, ρ, ρ', φ, H, s, Q, Ex, h, ho, rm, F, R, r, ea, hQ => by
    replace h := ifTuple.spec h
    obtain ⟨es, k, pos, rfl, h⟩ := h
    obtain ⟨vs, rfl⟩ : ∃ vs, v = .tup vs := by cases v <;> first | cases ea | exact ⟨_, rfl⟩
    change asgs ts vs ρ = _ at ea
    obtain ⟨a, xs, k', rfl, h1, h2, h3⟩ := tupAt r
    obtain ⟨hlen, hst⟩ := asgs_shape ts es vs ρ ρ' h ea
    refine wpAny_assign_Tuple rm.handled ⟨_, h1, rfl, k', rfl⟩ (by rw [(hst env).1, List.size_toArray, ← h2.length, hlen]) ?_ fun h' he => ?_
    · exact (hst env).2
    · have hk := extNew he
      exact asgs_snd ts es vs xs A ρ ρ' φ H { s with heap := h' } Q Ex h (fun x hx => ho x (by simpa [tNames] using hx)) rm (F.mono0 (.ext hk)) (R.ext hk) (h2.mono (own := []) (.ext hk)) ea
        fun h2 tk q1 q2 q3 => hQ h2 tk q1 q2 (Stp.trans (.ext hk) q3)
theorem asgs_shape : ∀ (ts : List Tgt) (es : List Expr) (vs : List V) (ρ ρ' : Env'), chkTs sc ns ts es = true → asgs ts vs ρ = some ρ' → es.length = vs.length ∧ ∀ env, (assignEach es env).length = es.length ∧ (assignEach es env).findIdx? (·.1) = none
  | [], [], [], _, _, _, _ => ⟨rfl, fun _ => ⟨rfl, rfl⟩⟩
  | [], [], _ :: _, _, _, _, ea => by cases ea
  | [], _ :: _, _, _, _, h, _ => Bool.noConfusion h
  | _ :: _, [], _, _, _, h, _ => Bool.noConfusion h
  | _ :: _, _ :: _, [], _, _, _, ea => by cases ea
  | t :: ts, e :: es, v :: vs, ρ, ρ', h, ea => by
    replace h := Bool.and_eq_true_iff.mp h
    change (asg t v ρ).bind (asgs ts vs) = _ at ea
    obtain ⟨ρ1, e1, e2⟩ := Option.bind_eq_some_iff.mp ea
    obtain ⟨q1, q2⟩ := asgs_shape ts es vs ρ1 ρ' h.2 e2
    have hs : ∀ env, assignEach (e :: es) env = (false, assign e env) :: assignEach es env := by
      intro env
      cases e <;> first | rfl | skip
      exfalso
      cases t <;> exact Bool.noConfusion h.1
    refine ⟨by simp [q1], fun env => ?_⟩
    rw [hs]
    refine ⟨by simp [(q2 env).1], ?_⟩
    rw [List.findIdx?_cons]
    simp [(q2 env).2]
theorem asgs_snd : ∀ (ts : List Tgt) (es : List Expr) (vs : List V) (ys : List Value) (A : Around) (ρ ρ' : Env') (φ : List Addr) (H : Hp) (s : Shared) (Q : Unit → Shared → Prop) (Ex : Value → Shared → Prop), chkTs sc ns ts es = true → OwnN env own (tNamess ts es) → Room A n → FR X.W env ns ρ φ s.heap → SR X.W φ H s.heap → RepL X.W.scr φ s.heap vs ys →
    asgs ts vs ρ = some ρ' → (∀ h' tk, SR X.W φ H h' → FR X.W env ns ρ' φ h' → Stp own φ s.heap φ h' → Q () { s with heap := h', toks := tk }) → wpAny X.M A (assignInOrder ((assignEach es env).map (·.2)) ys) Q Ex s
  | [], es, vs, ys, A, ρ, ρ', φ, H, s, Q, Ex, h, ho, rm, F, R, r, ea, hQ => by
    obtain rfl := List.isEmpty_iff.mp h
    cases vs <;> cases ea
    cases r
    exact wpAny_pure (hQ s.heap s.toks R F .refl)
  | t :: ts, es, vs, ys, A, ρ, ρ', φ, H, s, Q, Ex, h, ho, rm, F, R, r, ea, hQ => by
    cases es with
    | nil => exact Bool.noConfusion h
    | cons e es =>
      replace h := Bool.and_eq_true_iff.mp h
      cases vs with
      | nil => cases ea
      | cons v vs =>
        change (asg t v ρ).bind (asgs ts vs) = _ at ea
        obtain ⟨ρ1, e1, e2⟩ := Option.bind_eq_some_iff.mp ea
        have hs : assignEach (e :: es) env = (false, assign e env) :: assignEach es env := by
          cases e <;> first | rfl | skip
          exfalso
          cases t <;> exact Bool.noConfusion h.1
        cases r with
        | cons r1 r2 =>
          rw [hs]
          refine wpAny_assignInOrder_more ?_
          refine asg_snd t e v _ A ρ ρ1 φ H s _ Ex h.1 (fun x hx => ho x (by simp [tNamess, hx])) rm F R r1 e1 fun h1 tk q1 q2 q3 => ?_
          exact asgs_snd ts es vs _ A ρ1 ρ' φ H { s with heap := h1, toks := tk } Q Ex h.2 (fun x hx => ho x (by simp [tNamess, hx])) rm q2 q1 (r2.mono q3) e2 fun h2 tk2 w1 w2 w3 => hQ h2 tk2 w1 w2 (q3.trans w3)
end
end
end Mine

end
section
set_option autoImplicit false
set_option linter.unusedVariables false
set_option linter.unusedSimpArgs false
namespace Mine
open PySem PySem.Calls PyProof.Rows

noncomputable def PostO (W : Wo) (env : Env) (ns : List Str) (own : List Addr) (φ : List Addr) (s : Shared) (Q : Flow → Shared → Prop) : Out → Prop
  | .next ρ H => ∀ φ' h' tk, SR W φ' H h' → FR W env ns ρ φ' h' → Stp own φ s.heap φ' h' → Q .next { s with heap := h', toks := tk }
  | .ret v H => ∀ φ' h' tk x, SR W φ' H h' → Stp own φ s.heap φ' h' → Rep W.scr φ' h' v x → Q (.ret x) { s with heap := h', toks := tk }
  | _ => False

/-- an iterator over the items `vs`, at its place -/
structure Itr (X : Fix) (n : Nat) (tg : Expr) (φ₀ : List Addr) (h₁ : Heap) (H₀ : Hp) (ws : List Nat) (vs : List V) (I : Addr) (io : List Addr) (St : Nat → Heap → Prop) : Prop where
  keep : ∀ i h h', St i h → (∀ a ∈ io, ∀ o, h.get? a = some o → h'.get? a = some o) → St i h'
  live : ∀ i h, St i h → ∀ a ∈ io, ∃ o, h.get? a = some o
  item : ∀ (A : Around) (φ : List Addr) (H : Hp) (s : Shared) (i : Nat) (v : V) (Q : Option Value → Shared → Prop) (Ex : Value → Shared → Prop), Room A n → Kp φ₀ h₁ φ s.heap → SR X.W φ H s.heap → stands ws H₀ H = true → St i s.heap →
    (∀ a ∈ io, a ∉ φ ∧ X.W.h₀.get? a = none) → vs[i]? = some v →
    (∀ y s₁, (∀ (Q' : Unit → Shared → Prop) (Ex' : Value → Shared → Prop), (∀ h' tk, SR X.W φ H h' → Stp io φ s.heap φ h' → St (i + 1) h' → Rep X.W.scr φ h' v y → Q' () { s with heap := h', toks := tk }) → wpAny X.M A (letOwnedTupleGo tg (.ref I) y) Q' Ex' s₁) → Q (some y) s₁) →
    wpAny X.M A (pyNext (.ref I)) Q Ex s
  done : ∀ (A : Around) (φ : List Addr) (H : Hp) (s : Shared) (i : Nat) (Q : Option Value → Shared → Prop) (Ex : Value → Shared → Prop), Room A n → Kp φ₀ h₁ φ s.heap → SR X.W φ H s.heap → stands ws H₀ H = true → St i s.heap →
    (∀ a ∈ io, a ∉ φ ∧ X.W.h₀.get? a = none) → vs[i]? = none →
    (∀ h' tk, SR X.W φ H h' → Fin io s.heap h' → Q none { s with heap := h', toks := tk }) → wpAny X.M A (pyNext (.ref I)) Q Ex s
  self : ∀ (A : Around) (s : Shared) (Q : Value → Shared → Prop) (Ex : Value → Shared → Prop), Room A n → St 0 s.heap → Q (.ref I) s → wpAny X.M A (pyIter (.ref I)) Q Ex s

section
variable {prog : Program} {w : World} {A : Around} {R : Result → Shared → Prop} {s : Shared}
/-- a for loop, what it unpacks let go -/
theorem forLoop_any {target : Expr} {it : Value} {body : List Stmt} {env : Env} (I : Nat → Shared → Prop)
    (turn : ∀ n s, I n s → wpAny (model prog w) A (pyNext it) (fun r s₁ => match r with
      | none => R (.ok .next) s₁
      | some v => wpAny (model prog w) A (letOwnedTupleGo target it v) (fun _ s₁ => wpAny (model prog w) A (assign target env v) (fun _ s₂ => wpAny (model prog w) A (execs body env) (fun f s₃ => match f with
          | .next | .cont => ∃ m, m < n ∧ I m s₃
          | .brk => R (.ok .next) s₃
          | .ret v => R (.ok (.ret v)) s₃) (notedBy (model prog w) A env fun e s' => R (.error e) s') s₂) (notedBy (model prog w) A env fun e s' => R (.error e) s') s₁) (notedBy (model prog w) A env fun e s' => R (.error e) s') s₁)
      (notedBy (model prog w) A env fun e s' => R (.error e) s') s)
    (n : Nat) (h : I n s) : codeAny (model prog w) A (.forLoop target it body [] env) R s := by
  refine codeAny_loop' rfl I (fun n s hI => ?_) n h
  show wpAny _ _ ((forTurn target it body [] env).onRaise (fun x => do noteFrame x env; theTreesLotGoes x)) _ _ s
  refine wpAny_noted ?_
  simp only [forTurn]
  refine wpAny_bind (wpAny_standAt (wpAny_bind (wpAny_onRaise (wpAny_mono (turn n s hI) (fun r s₁ h₁ => ?_) fun _ _ h' => wpAny_standAt h'))))
  cases r with
  | none => exact wpAny_pure (.inr ⟨rfl, codeAny_block (wpAny_execs_nil h₁)⟩)
  | some v =>
    refine wpAny_bind (wpAny_mono h₁ (fun _ s₂ h₂ => ?_) fun _ _ h' => h')
    refine wpAny_bind (wpAny_mono h₂ (fun _ s₂ h₂ => wpAny_bind (wpAny_mono h₂ (fun f s₃ h₃ => ?_) fun _ _ h' => h')) fun _ _ h' => h')
    cases f with
    | next => exact wpAny_pure (.inl ⟨rfl, h₃⟩)
    | cont => exact wpAny_pure (.inl ⟨rfl, h₃⟩)
    | brk => exact wpAny_pure h₃
    | ret v => exact wpAny_pure h₃
end

section
variable {X : Fix} {C : Ctx} {A : Around} {n : Nat} {Ex : Value → Shared → Prop} {s : Shared} {φ : List Addr} {H : Hp} {sc : Scope} {ns : List Str} {env : Env} {ρ : Env'} {own : List Addr}

theorem PostO.step {Q : Flow → Shared → Prop} {o : Out} {φ₁ : List Addr} {h₁ : Heap} {tk : Nat} (p : PostO X.W env ns own φ s Q o) (S : Stp own φ s.heap φ₁ h₁) : PostO X.W env ns own φ₁ { s with heap := h₁, toks := tk } Q o := by
  cases o with
  | next ρ H => exact fun φ' h' tk r1 r2 r3 => p φ' h' tk r1 r2 (S.trans r3)
  | ret v H => exact fun φ' h' tk x r1 r2 r3 => p φ' h' tk x r1 (S.trans r2) r3
  | stuck => exact p

noncomputable def OwnF (env : Env) (own : List Addr) (ns : List Str) : Prop := OwnN env own ns ∧ ∀ a ∈ own, a = env.locals ∨ ∃ p ∈ env.cells, p.2 = a

/-- the body of a loop, or of a def: a list of statements -/
noncomputable def SsS (X : Fix) (C : Ctx) (n : Nat) (sc : Scope) (ns : List Str) (cs : List S) (ss : List Stmt) : Prop :=
  ∀ (A : Around) (env : Env) (own : List Addr) (ρ : Env') (φ : List Addr) (H : Hp) (s : Shared) (Q : Flow → Shared → Prop) (Ex : Value → Shared → Prop),
    Room A n → Kinds sc env → OwnF env own ns → FR X.W env ns ρ φ s.heap → SR X.W φ H s.heap → PostO X.W env ns own φ s Q (execSs C cs ρ H) → wpAny X.M A (execs ss env) Q Ex s
noncomputable def SS (X : Fix) (C : Ctx) (n : Nat) (sc : Scope) (ns : List Str) (c : S) (st : Stmt) : Prop :=
  ∀ (A : Around) (env : Env) (own : List Addr) (ρ : Env') (φ : List Addr) (H : Hp) (s : Shared) (Q : Flow → Shared → Prop) (Ex : Value → Shared → Prop),
    Room A n → Kinds sc env → OwnF env own ns → FR X.W env ns ρ φ s.heap → SR X.W φ H s.heap → PostO X.W env ns own φ s Q (execS C c ρ H) → wpAny X.M A (exec st env) Q Ex s

theorem tNames_sub : ∀ (t : Tgt) (e : Expr), chkT sc ns t e = true → ∀ x ∈ tNames t e, x ∈ ns := by
  have both : ∀ (k : Nat), (∀ (t : Tgt) (e : Expr), sizeOf t < k → chkT sc ns t e = true → ∀ x ∈ tNames t e, x ∈ ns) ∧ (∀ (ts : List Tgt) (es : List Expr), sizeOf ts < k → chkTs sc ns ts es = true → ∀ x ∈ tNamess ts es, x ∈ ns) := by
    intro k
    induction k with
    | zero => exact ⟨fun _ _ h => absurd h (Nat.not_lt_zero _), fun _ _ h => absurd h (Nat.not_lt_zero _)⟩
    | succ k ih =>
      refine ⟨fun t e hk h x hx => ?_, fun ts es hk h x hx => ?_⟩
      · cases t with
        | var i =>
          replace h := ifName.spec h
          obtain ⟨y, p, rfl, h⟩ := h
          rw [Bool.and_eq_true] at h
          simp [tNames] at hx
          subst hx
          exact (okVar_spec h.1).2
        | tup ts =>
          replace h := ifTuple.spec h
          obtain ⟨es, k', p, rfl, h⟩ := h
          exact ih.2 ts _ (by simp at hk; omega) h x (by simpa [tNames] using hx)
      · cases ts with
        | nil => cases es <;> simp [tNamess] at hx
        | cons t ts =>
          cases es with
          | nil => simp [tNamess] at hx
          | cons e es =>
            replace h := Bool.and_eq_true_iff.mp h
            simp at hk
            rcases List.mem_append.mp (by simpa [tNamess] using hx : x ∈ tNames t e ++ tNamess ts es) with hx | hx
            · exact ih.1 t e (by omega) h.1 x hx
            · exact ih.2 ts es (by omega) h.2 x hx
  exact fun t e => (both (sizeOf t + 1)).1 t e (Nat.lt_succ_self _)

theorem mem_of_lookup' {x : Str} {c : Addr} : ∀ {l : List (Str × Addr)}, l.lookup x = some c → (x, c) ∈ l
  | [], h => by cases h
  | (y, d) :: r, h => by
    rw [List.lookup_cons] at h
    split at h
    · rename_i e
      cases h
      rw [eq_of_beq e]
      exact .head _
    · exact .tail _ (mem_of_lookup' h)

/-- what holds between two turns of a for loop -/
inductive FTurn (X : Fix) (C : Ctx) (s : Shared) (φ₀ φ : List Addr) (h1 : Heap) (env : Env) (ns : List Str) (own : List Addr) (H₀ : Hp) (ws : List Nat) (vs : List V) (io : List Addr) (St : Nat → Heap → Prop) (t : Tgt) (body : List S) (Q : Flow → Shared → Prop) (k : Nat) (s' : Shared) : Prop
  | mk (i : Nat) (ρ' : Env') (H' : Hp) (φ' : List Addr) (h' : Heap) (tk : Nat) (e1 : s' = { s with heap := h', toks := tk }) (e2 : k = (vs.drop i).length + 1) (F : FR X.W env ns ρ' φ' h') (R : SR X.W φ' H' h') (hw : stands ws H₀ H' = true) (st : St i h') (hio : ∀ a ∈ io, a ∉ φ' ∧ X.W.h₀.get? a = none)
    (S : Stp own φ₀ s.heap φ' h') (kp : Kp φ h1 φ' h') (p : PostO X.W env ns own φ₀ s Q (forG ws H₀ t (fun ρ H => execSs C body ρ H) (vs.drop i) ρ' H')) : FTurn X C s φ₀ φ h1 env ns own H₀ ws vs io St t body Q k s'

/-- the turns of a for loop: `s₀` is where it was, ahead of its iterator -/
theorem turns_snd {t : Tgt} {tg : Expr} {body : List S} {bs : List Stmt} {H₀ : Hp} {ws : List Nat} {vs : List V} {I : Addr} {io φ₀ : List Addr} {St : Nat → Heap → Prop} {Q : Flow → Shared → Prop} {h1 : Heap} {tk1 : Nat}
    (rm : Room A n) (kd : Kinds sc env) (hown : OwnF env own ns) (ht : chkT sc ns t tg = true) (hb : SsS X C n sc ns body bs) (it : Itr X n tg φ h1 H₀ ws vs I io St) (hnew : ∀ a ∈ io, s.heap.get? a = none) (S0 : Stp own φ₀ s.heap φ h1)
    (F : FR X.W env ns ρ φ h1) (R : SR X.W φ H h1) (hw : stands ws H₀ H = true) (hst : St 0 h1) (hio : ∀ a ∈ io, a ∉ φ ∧ X.W.h₀.get? a = none) (hfr : ∀ a ∈ io, a ≠ env.locals ∧ a ∉ own ∧ ∀ p ∈ env.cells, p.2 ≠ a)
    (p : PostO X.W env ns own φ₀ s Q (forG ws H₀ t (fun ρ H => execSs C body ρ H) vs ρ H)) :
    codeAny X.M A (.forLoop tg (.ref I) bs [] env) (fun r s' => match r with | .ok f => Q f s' | .error e => cameBackBy X.M A env Ex e s') { s with heap := h1, toks := tk1 } := by
  refine forLoop_any (FTurn X C s φ₀ φ h1 env ns own H₀ ws vs io St t body Q) ?_ (vs.length + 1)
    ⟨0, ρ, H, φ, h1, tk1, rfl, by simp, F, R, hw, hst, hio, S0, .refl, by simpa using p⟩
  have hC : ∀ x c, env.cells.lookup x = some c → c ∉ io := fun x c hx hm => (hfr c hm).2.2 _ (mem_of_lookup' hx) rfl
  rintro k s' ⟨i, ρ', H', φ', h', tk, rfl, rfl, F', R', hw', hst', hio', S', hpre', p'⟩
  have step : ∀ {φ₂ : List Addr} {h₂ : Heap}, Stp io φ' h' φ₂ h₂ → Stp own φ₀ s.heap φ₂ h₂ := fun T =>
    Stp.drop (own := io ++ own) ((S'.sub fun a ha => List.mem_append_right _ ha).trans (T.sub fun a ha => List.mem_append_left _ ha)) fun a ha hn => hnew a ((List.mem_append.mp ha).resolve_right hn)
  cases hv : vs[i]? with
  | none =>
    refine it.done A φ' H' { s with heap := h', toks := tk } i _ _ rm hpre' R' hw' hst' hio' hv fun h2 tk2 R2 S2 => ?_
    have hd : vs.drop i = [] := List.drop_eq_nil_iff.mpr (List.getElem?_eq_none_iff.mp hv)
    rw [hd, forG] at p'
    exact p' φ' h2 tk2 R2 (F'.fin S2 (fun hm => (hfr _ hm).1 rfl) fun p hp hm => (hfr _ hm).2.2 p hp rfl) (S'.fin S2 hnew)
  | some v =>
    refine it.item A φ' H' { s with heap := h', toks := tk } i v _ _ rm hpre' R' hw' hst' hio' hv fun y s₁ hl => ?_
    refine hl _ _ fun h2 tk2 R2 S2 st2 r2 => ?_
    have hlt := (List.getElem?_eq_some_iff.mp hv).1
    have hd : vs.drop i = v :: vs.drop (i + 1) := by rw [List.drop_eq_getElem_cons hlt, (List.getElem?_eq_some_iff.mp hv).2]
    rw [hd, forG] at p'
    have F2 := F'.mono S2 (fun hm => (hfr _ hm).1 rfl) hC
    cases ha : asg t v ρ' with
    | none => rw [ha] at p'; exact p'.elim
    | some ρ2 =>
      rw [ha] at p'
      dsimp only at p'
      have S3 : Stp own φ₀ s.heap φ' h2 := step S2
      refine asg_snd (own := own) t tg v y A ρ' ρ2 φ' H' { s with heap := h2, toks := tk2 } _ _ ht (fun x hx => hown.1 x (tNames_sub t tg ht x hx)) rm F2 R2 r2 ha fun h3 tk3 R3 F3 S4 => ?_
      have S5 : Stp own φ₀ s.heap φ' h3 := S3.trans S4
      have st3 : St (i + 1) h3 := it.keep _ _ _ st2 fun a ha o e => S4.keep a o e (hio' a ha).1 (hfr a ha).2.1
      refine hb A env own ρ2 φ' H' { s with heap := h3, toks := tk3 } _ _ rm kd hown F3 R3 ?_
      have next : ∀ {ρ4 : Env'} {H4 : Hp}, PostO X.W env ns own φ₀ s Q (if stands ws H₀ H4 = true then forG ws H₀ t (fun ρ H => execSs C body ρ H) (vs.drop (i + 1)) ρ4 H4 else .stuck) →
          ∀ φ4 h4 tk4, SR X.W φ4 H4 h4 → FR X.W env ns ρ4 φ4 h4 → Stp own φ' h3 φ4 h4 → ∃ m, m < (vs.drop i).length + 1 ∧ FTurn X C s φ₀ φ h1 env ns own H₀ ws vs io St t body Q m { s with heap := h4, toks := tk4 } := by
        intro ρ4 H4 p4 φ4 h4 tk4 R4 F4 S6
        split at p4
        · rename_i hw4
          refine ⟨(vs.drop (i + 1)).length + 1, by rw [hd]; simp, i + 1, ρ4, H4, φ4, h4, tk4, rfl, rfl, F4, R4, hw4, ?_, ?_, S5.trans S6, ?_, p4⟩
          · exact it.keep _ _ _ st3 fun a ha o e => S6.keep a o e (hio' a ha).1 (hfr a ha).2.1
          · intro a ha
            obtain ⟨o, ho⟩ := it.live _ _ st3 a ha
            exact ⟨S6.notMem ho (hio' a ha).1, (hio' a ha).2⟩
          · exact ((hpre'.trans S2.kp).trans S4.kp).trans S6.kp
        · exact p4.elim
      cases hx : execSs C body ρ2 H' with
      | next ρ4 H4 => rw [hx] at p'; exact fun φ4 h4 tk4 r1 r2 r3 => next p' φ4 h4 tk4 r1 r2 r3
      | ret v4 H4 => rw [hx] at p'; exact fun φ4 h4 tk4 x r1 r2 r3 => p' φ4 h4 tk4 x r1 (S5.trans r2) r3
      | stuck => rw [hx] at p'; exact p'.elim

/-- what an iterable of the fragment gives -/
noncomputable def PostI (X : Fix) (n : Nat) (tg : Expr) (φ : List Addr) (s : Shared) (Q : Value → Shared → Prop) : R (List V × List Nat) → Prop
  | .ok p H => ∀ φ' h' tk I io St, SR X.W φ' H h' → Stp [] φ s.heap φ' h' → Itr X n tg φ' h' H p.2 p.1 I io St → St 0 h' → (∀ a ∈ io, a ∉ φ' ∧ s.heap.get? a = none ∧ X.W.h₀.get? a = none) → Q (.ref I) { s with heap := h', toks := tk }
  | _ => False
noncomputable def ItS (X : Fix) (C : Ctx) (n : Nat) (sc : Scope) (ns : List Str) (it : It) (e : Expr) : Prop :=
  (∀ env x, foldedSetIterable e env x = pure x) ∧
  ∀ (A : Around) (env : Env) (ρ : Env') (φ : List Addr) (H : Hp) (s : Shared) (tg : Expr) (Q : Value → Shared → Prop) (Ex : Value → Shared → Prop),
    Room A n → Kinds sc env → FR X.W env ns ρ φ s.heap → SR X.W φ H s.heap → tgOk it tg = true → PostI X n tg φ s Q (evalIt C it ρ H) → wpAny X.M A (eval e env) (fun x s₁ => wpAny X.M A (pyIter x) Q Ex s₁) Ex s

theorem OwnF.alive (h : OwnF env own ns) (F : FR X.W env ns ρ φ s.heap) : ∀ a ∈ own, ∃ o, s.heap.get? a = some o := by
  intro a ha
  rcases h.2 a ha with rfl | ⟨p, hp, rfl⟩
  · obtain ⟨m, ⟨o, es, ep, ho, _⟩, _⟩ := F.loc; exact ⟨o, ho⟩
  · exact (F.alive p hp).2

theorem for_snd {t : Tgt} {it : It} {tg iter : Expr} {body : List S} {bs : List Stmt} {pos : Pos} (ht : chkT sc ns t tg = true) (htg : tgOk it tg = true) (hit : ItS X C n sc ns it iter) (hb : SsS X C n sc ns body bs) :
    SS X C n sc ns (.for t it body) (.For tg iter bs [] pos) := by
  intro A env own ρ φ H s Q Ex rm kd hown F R p
  rw [execS_for0] at p
  refine wpAny_For (hit.2 A env ρ φ H s tg _ Ex rm kd F R htg ?_) (hit.1 env)
  cases hi : evalIt C it ρ H with
  | stuck => rw [hi] at p; exact p.elim
  | ok q H1 =>
    obtain ⟨vs, ws⟩ := q
    rw [hi] at p
    intro φ1 h1 tk I io St R1 S1 it1 st1 hio
    have F1 := F.mono0 S1
    have hL : ∃ o, s.heap.get? env.locals = some o := by obtain ⟨m, ⟨o, es, ep, ho, _⟩, _⟩ := F.loc; exact ⟨o, ho⟩
    change PostO X.W env ns own φ s Q (forG ws H1 t (fun ρ H => execSs C body ρ H) vs ρ H1) at p
    refine turns_snd (H := H1) (own := own) (ρ := ρ) (s := s) (h1 := h1) (tk1 := tk) rm kd hown ht hb it1 (fun a ha => (hio a ha).2.1) S1.nil F1 R1 ?_ st1 (fun a ha => ⟨(hio a ha).1, (hio a ha).2.2⟩) (fun a ha => ⟨?_, ?_, ?_⟩) p
    · simp [stands]
    · rintro rfl
      obtain ⟨o, ho⟩ := hL
      rw [(hio _ ha).2.1] at ho; cases ho
    · intro hm
      obtain ⟨o, ho⟩ := hown.alive F a hm
      rw [(hio _ ha).2.1] at ho; cases ho
    · rintro p hp rfl
      obtain ⟨_, o, ho⟩ := F.alive p hp
      rw [(hio _ ha).2.1] at ho; cases ho
end
end Mine

end
section
set_option autoImplicit false
set_option linter.unusedVariables false
set_option linter.unusedSimpArgs false
namespace Mine
open PySem PySem.Calls PyProof.Rows

noncomputable def pairGivers : List String := ["enumerate", "zip", "dict_itemiterator", "dict_reverseitemiterator", "odict_iterator", "itertools.zip_longest", "itertools.pairwise"]

section
variable {X : Fix} {C : Ctx} {A : Around} {n : Nat} {Ex : Value → Shared → Prop} {s : Shared} {φ φ₀ : List Addr} {H H₀ : Hp} {sc : Scope} {ns : List Str} {env : Env} {ρ : Env'} {own : List Addr} {tg : Expr} {ws : List Nat} {vs : List V} {I a : Addr} {h₁ : Heap}

theorem letOwned_plain {y : Value} {o : Obj} {nm : String} {Q : Unit → Shared → Prop} (ho : s.heap.get? I = some o) (hc : o.cls = .type nm) (hn : pairGivers.contains nm = false) (hQ : Q () s) : wpAny X.M A (letOwnedTupleGo tg (.ref I) y) Q Ex s := by
  have key : ∀ a, wpAny X.M A (do
    let o ← load I
    match o.cls, o.data with
    | .type n, .fields vs =>
      if pairGivers.contains n && vs[0]? == some (rawInt a) then
        rule "for.unpacks-the-owned-tuple"
        updateField I 0 .none
    | _, _ => pure ()) Q Ex s := by
    intro a
    refine wpAny_bind (wpAny_load ho ?_)
    rw [hc]
    cases o.data with
    | fields vs =>
      show wpAny X.M A (if (pairGivers.contains nm && vs[0]? == some (rawInt a)) = true then _ else _) Q Ex s
      rw [hn, Bool.false_and, if_neg (by simp)]
      exact wpAny_pure hQ
    | _ => exact wpAny_pure hQ
  unfold letOwnedTupleGo
  cases tg <;> first | exact wpAny_pure hQ | (cases y <;> first | exact wpAny_pure hQ | exact key _)

/-- where the items of a list are found as long as the list stands -/
noncomputable def SrcL (X : Fix) (φ₀ : List Addr) (h₁ : Heap) (H₀ : Hp) (ws : List Nat) (vs : List V) (a : Addr) : Prop :=
  ∀ (φ : List Addr) (H : Hp) (s : Shared), Kp φ₀ h₁ φ s.heap → SR X.W φ H s.heap → stands ws H₀ H = true → ∃ xs, s.heap.IsList a xs.toArray ∧ RepL X.W.scr φ s.heap vs xs
noncomputable def SrcT (X : Fix) (φ₀ : List Addr) (h₀ : Heap) (vs : List V) (a : Addr) : Prop := ∃ xs k, h₀.get? a = some (tupObj xs k) ∧ RepL X.W.scr φ₀ h₀ vs xs

theorem stands_get {l : Nat} (h : stands ws H₀ H = true) (hl : l ∈ ws) : H[l]? = H₀[l]? := by
  unfold stands at h
  simpa using List.all_eq_true.mp h l hl
theorem srcL_ref {l : Nat} (hl : φ₀[l]? = some a) (e : H₀[l]? = some (.list vs)) (hw : l ∈ ws) : SrcL X φ₀ h₁ H₀ ws vs a := by
  intro φ H s ⟨⟨t, ht⟩, _⟩ R hs
  have e1 : H[l]? = some (.list vs) := (stands_get hs hw).trans e
  obtain ⟨b, hb, xs, k, h1, h2, _⟩ := R.cell l _ e1
  have : φ[l]? = some a := by
    rw [ht, List.getElem?_append_left (by exact (List.getElem?_eq_some_iff.mp hl).1)]; exact hl
  rw [this] at hb; cases hb
  exact ⟨xs, isList_of h1, h2⟩
theorem srcL_script (G : X.Gl C) : SrcL X φ₀ h₁ H₀ ws (C.scr.map .int) X.W.scr := by
  intro φ H s _ R _
  obtain ⟨xs, h1, h2, _⟩ := Gl.keep G R
  exact ⟨xs, h1, h2⟩

theorem notTup_at {h : Heap} {o : Obj} {nm : String} (hc : o.cls = .type nm) (hn : nm ≠ "tuple") : NotTup o := notTup_cls (fun e => hn (by rw [hc] at e; cases e; rfl))

theorem itr_list (hsrc : SrcL X φ₀ h₁ H₀ ws vs a) : Itr X n tg φ₀ h₁ H₀ ws vs I [I] (fun i h => h.IsListIter I a i) where
  keep := fun i h h' st hk => let ⟨o, e, r⟩ := st; ⟨o, hk I (by simp) o e, r⟩
  live := fun i h st b hb => by
    rw [List.mem_singleton.mp hb]
    let ⟨o, e, r⟩ := st
    exact ⟨o, e⟩
  item := fun A φ H s i v Q Ex rm hp R hw st hio hv hQ => by
    obtain ⟨xs, h1, h2⟩ := hsrc φ H s hp R hw
    obtain ⟨y, hy, ry⟩ := h2.get hv
    obtain ⟨o, ho, hc, hd⟩ := id st
    refine wpAny_pyNext_list_item st h1 (by simpa using hy) fun h' hit hs => ?_
    refine hQ y _ fun Q' Ex' hq => ?_
    obtain ⟨o', ho', hc', hd'⟩ := id hit
    refine letOwned_plain (s := { s with heap := h' }) ho' hc' (by decide) ?_
    have hI := hio I (by simp)
    have S : Stp [I] φ s.heap φ h' := .but (.inl (by simp)) ho (notTup_fields hd) ho' hs.extBut
    exact hq h' s.toks (R.but hI.1 hI.2 ho (notTup_fields hd) ho' hs.extBut) S hit (ry.mono S)
  done := fun A φ H s i Q Ex rm hp R hw st hio hv hQ => by
    obtain ⟨xs, h1, h2⟩ := hsrc φ H s hp R hw
    obtain ⟨o, ho, hc, hd⟩ := id st
    have hl := h2.length
    refine wpAny_pyNext_list_end rm.handled st h1 (by simpa [← hl] using hv) fun h' he => ?_
    have S : Fin [I] s.heap h' := ⟨fun b o hb e => he b o (by simpa using hb) e, fun b hb o' e => by
      rw [List.mem_singleton.mp hb, ho] at e; cases e; exact notTup_fields hd⟩
    exact hQ h' s.toks (R.fin hio S) S
  self := fun A s Q Ex rm st hQ => wpAny_pyIter_listiter st hQ

theorem itr_tuple (hsrc : SrcT X φ₀ h₁ vs a) : Itr X n tg φ₀ h₁ H₀ ws vs I [I] (fun i h => h.IsTupleIter I a i) where
  keep := fun i h h' st hk => let ⟨o, e, r⟩ := st; ⟨o, hk I (by simp) o e, r⟩
  live := fun i h st b hb => by
    rw [List.mem_singleton.mp hb]
    let ⟨o, e, r⟩ := st
    exact ⟨o, e⟩
  item := fun A φ H s i v Q Ex rm hp R hw st hio hv hQ => by
    obtain ⟨xs, k, e0, r0⟩ := hsrc
    have h1 := hp.tup _ _ _ e0
    have h2 := r0.kp hp
    obtain ⟨y, hy, ry⟩ := h2.get hv
    obtain ⟨o, ho, hc, hd⟩ := id st
    refine wpAny_pyNext_tuple_item st ⟨_, h1, rfl, k, rfl⟩ (by simpa using hy) fun h' hit hs => ?_
    refine hQ y _ fun Q' Ex' hq => ?_
    obtain ⟨o', ho', hc', hd'⟩ := id hit
    refine letOwned_plain (s := { s with heap := h' }) ho' hc' (by decide) ?_
    have hI := hio I (by simp)
    have S : Stp [I] φ s.heap φ h' := .but (.inl (by simp)) ho (notTup_fields hd) ho' hs.extBut
    exact hq h' s.toks (R.but hI.1 hI.2 ho (notTup_fields hd) ho' hs.extBut) S hit (ry.mono S)
  done := fun A φ H s i Q Ex rm hp R hw st hio hv hQ => by
    obtain ⟨xs, k, e0, r0⟩ := hsrc
    have h1 := hp.tup _ _ _ e0
    have h2 := r0.kp hp
    obtain ⟨o, ho, hc, hd⟩ := id st
    have hl := h2.length
    refine wpAny_pyNext_tuple_end rm.handled st ⟨_, h1, rfl, k, rfl⟩ (by simpa [← hl] using hv) fun h' he => ?_
    have S : Fin [I] s.heap h' := ⟨fun b o hb e => he b o (by simpa using hb) e, fun b hb o' e => by
      rw [List.mem_singleton.mp hb, ho] at e; cases e; exact notTup_fields hd⟩
    exact hQ h' s.toks (R.fin hio S) S
  self := fun A s Q Ex rm st hQ => wpAny_pyIter_tupleiter st hQ

theorem rangeV_get {i : Nat} {x y : Int} : (rangeV x y)[i]? = if i < (y - x).toNat then some (.int (x + i)) else none := by
  unfold rangeV
  rw [List.getElem?_map]
  split
  · rename_i h
    rw [List.getElem?_range h]; rfl
  · rename_i h
    rw [List.getElem?_eq_none (by simpa using h)]; rfl

theorem itr_range {x y : Int} : Itr X n tg φ₀ h₁ H₀ ws (rangeV x y) I [I] (fun i h => IsRangeIter h I (x + i) (((y - x).toNat : Int) - i) 1) where
  keep := fun i h h' st hk => hk I (by simp) _ st
  live := fun i h st b hb => by
    rw [List.mem_singleton.mp hb]
    exact ⟨_, st⟩
  item := fun A φ H s i v Q Ex rm hp R hw st hio hv hQ => by
    rw [rangeV_get] at hv
    split at hv
    · rename_i hi
      cases hv
      refine wpAny_pyNext_range_item st (by omega) fun h' hit hs => ?_
      refine hQ _ _ fun Q' Ex' hq => ?_
      refine letOwned_plain (s := { s with heap := h', toks := s.toks + 1 }) hit rfl (by decide) ?_
      have hI := hio I (by simp)
      have S : Stp [I] φ s.heap φ h' := .but (.inl (by simp)) st (notTup_fields rfl) hit hs.extBut
      refine hq h' _ (R.but hI.1 hI.2 st (notTup_fields rfl) hit hs.extBut) S ?_ (.int _ _)
      have e1 : x + ((i + 1 : Nat) : Int) = x + i + 1 := by omega
      have e2 : (((y - x).toNat : Int) - ((i + 1 : Nat) : Int)) = ((y - x).toNat : Int) - i - 1 := by omega
      rw [e1, e2]; exact hit
    · cases hv
  done := fun A φ H s i Q Ex rm hp R hw st hio hv hQ => by
    rw [rangeV_get] at hv
    split at hv
    · cases hv
    · rename_i hi
      refine wpAny_pyNext_range_end rm.handled st (by omega) fun h' he => ?_
      have S : Fin [I] s.heap h' := ⟨fun b o hb e => he b o (by simpa using hb) e, fun b hb o' e => by
        rw [List.mem_singleton.mp hb, st] at e; cases e; exact notTup_fields rfl⟩
      exact hQ h' s.toks (R.fin hio S) S
  self := fun A s Q Ex rm st hQ => wpAny_pyIter_rangeiter st hQ

theorem enumV_get : ∀ {us : List V} {k i : Nat}, (enumV k us)[i]? = us[i]?.map fun u => .tup [.int ((k + i : Nat) : Int), u]
  | [], k, i => by simp [enumV]
  | u :: us, k, 0 => by simp [enumV]
  | u :: us, k, i + 1 => by
    rw [enumV]
    simp only [List.getElem?_cons_succ]
    rw [enumV_get]
    congr 1
    funext u
    congr 3
    omega

theorem itr_enum {e it : Addr} (htg : ∃ es k p, tg = .Tuple es k p) (hsrc : SrcL X φ₀ h₁ H₀ ws vs a) (hne : e ≠ it) : Itr X n tg φ₀ h₁ H₀ ws (enumV 0 vs) e [e, it] (fun i h => (∃ old, IsEnum h e it i old) ∧ h.IsListIter it a i) where
  keep := fun i h h' st hk => let ⟨⟨old, e1⟩, o, e2, r⟩ := st; ⟨⟨old, hk e (by simp) _ e1⟩, o, hk it (by simp) o e2, r⟩
  live := fun i h st b hb => by
    obtain ⟨⟨old, e1⟩, o, e2, r⟩ := st
    simp at hb
    rcases hb with rfl | rfl
    · exact ⟨_, e1⟩
    · exact ⟨_, e2⟩
  item := fun A φ H s i v Q Ex rm hp R hw st hio hv hQ => by
    obtain ⟨es, k, p, rfl⟩ := htg
    obtain ⟨xs, h1, h2⟩ := hsrc φ H s hp R hw
    rw [enumV_get] at hv
    obtain ⟨u, hu, rfl⟩ := Option.map_eq_some_iff.mp hv
    obtain ⟨y, hy, ry⟩ := h2.get hu
    obtain ⟨⟨old, e1⟩, st2⟩ := st
    obtain ⟨o, ho, hc, hd⟩ := id st2
    refine wpAny_pyNext_enum_item e1 st2 h1 (by simpa using hy) hne fun h' q1 q2 q3 q4 q5 => ?_
    refine hQ _ _ fun Q' Ex' hq => ?_
    refine wpAny_letOwnedTupleGo_enum (s := { s with heap := h', toks := s.toks + 1 }) q1 fun h2' w1 w2 => ?_
    replace w2 : Heap.SameBut e h' h2' := w2
    have hT : h2'.get? s.heap.objs.size = some (tupObj [.int i s.toks, y] 0) := by
      refine w2.extBut _ _ ?_ q3
      intro e'
      rw [← e'] at e1
      exact absurd (Heap.lt_size e1) (Nat.lt_irrefl _)
    have keep : ∀ b o, b ≠ e → b ≠ it → s.heap.get? b = some o → h2'.get? b = some o := fun b o n1 n2 x => w2.extBut b o n1 (q5 b o n1 n2 x)
    obtain ⟨o', ho', hc', hd'⟩ := id q2
    have hit' : h2'.get? it = some o' := w2.extBut _ _ hne.symm ho'
    have S : Stp [e, it] φ s.heap φ h2' := by
      refine ⟨⟨[], by simp⟩, fun b o x n1 n2 => ?_, fun b n1 n2 => absurd n1 n2, fun b xs k x => ?_, fun b o x => ?_⟩
      · simp at n2
        exact keep b o n2.1 n2.2 x
      · refine keep b _ ?_ ?_ x
        · rintro rfl; rw [e1] at x; exact notTup_fields (o := _) rfl _ _ (Option.some.inj x)
        · rintro rfl; rw [ho] at x; cases x; cases hd
      · by_cases n1 : b = e
        · subst n1; exact ⟨_, w1⟩
        · by_cases n2 : b = it
          · subst n2; exact ⟨_, hit'⟩
          · exact ⟨o, keep b o n1 n2 x⟩
    have F : Fin [e, it] s.heap h2' := ⟨fun b o hb x => by simp at hb; exact keep b o hb.1 hb.2 x, fun b hb o' x => by
      simp at hb
      rcases hb with rfl | rfl
      · rw [e1] at x; cases x; exact notTup_fields rfl
      · rw [ho] at x; cases x; exact notTup_fields hd⟩
    refine hq h2' _ (R.fin hio F) S ⟨⟨y, ?_⟩, o', hit', hc', hd'⟩ ?_
    · have : ((i + 1 : Nat) : Int) = (i : Int) + 1 := by omega
      rw [this]; exact w1
    · refine .tup hT (.cons ?_ (.cons (ry.mono S) .nil)) (by simp)
      have : ((0 + i : Nat) : Int) = (i : Int) := by omega
      rw [this]; exact .int _ _
  done := fun A φ H s i Q Ex rm hp R hw st hio hv hQ => by
    obtain ⟨xs, h1, h2⟩ := hsrc φ H s hp R hw
    rw [enumV_get] at hv
    have hv := Option.map_eq_none_iff.mp hv
    obtain ⟨⟨old, e1⟩, st2⟩ := st
    obtain ⟨o, ho, hc, hd⟩ := id st2
    have hl := h2.length
    refine wpAny_pyNext_enum_end rm.handled e1 st2 h1 (by simpa [← hl] using hv) fun h' he => ?_
    have S : Fin [e, it] s.heap h' := ⟨fun b o hb x => by simp at hb; exact he b o hb.2 x, fun b hb o' x => by
      simp at hb
      rcases hb with rfl | rfl
      · rw [e1] at x; cases x; exact notTup_fields rfl
      · rw [ho] at x; cases x; exact notTup_fields hd⟩
    exact hQ h' s.toks (R.fin hio S) S
  self := fun A s Q Ex rm st hQ => by
    obtain ⟨⟨old, e1⟩, _⟩ := st
    exact wpAny_pyIter_enum e1 hQ

/-- where the entries of a table are found as long as it stands -/
noncomputable def SrcD (X : Fix) (φ₀ : List Addr) (h₁ : Heap) (H₀ : Hp) (ws : List Nat) (vs : List V) (a : Addr) (kvs : List (Int × Value)) (ep : Nat) : Prop :=
  ∀ (φ : List Addr) (H : Hp) (s : Shared), Kp φ₀ h₁ φ s.heap → SR X.W φ H s.heap → stands ws H₀ H = true → s.heap.DictAt (intKind X.prog X.w) a kvs ep

theorem notTup_dictObj {o : Obj} {es : Array DictEntry} {ep : Nat} (h : o.data = .dict es ep) : NotTup o := notTup_dict h
end
end Mine

end
section
set_option autoImplicit false
set_option linter.unusedVariables false
set_option linter.unusedSimpArgs false
namespace Mine
open PySem PySem.Calls PyProof.Rows

section
variable {X : Fix} {C : Ctx} {A : Around} {n : Nat} {Ex : Value → Shared → Prop} {s : Shared} {φ φ₀ : List Addr} {H H₀ : Hp} {sc : Scope} {ns : List Str} {env : Env} {ρ : Env'} {own : List Addr} {tg : Expr} {ws : List Nat} {vs : List V} {I a : Addr} {h₁ : Heap}

theorem notSet_of {c : E} {e : Expr} (h : chkE X.K sc ns c e = true) (env : Env) (x : Value) : foldedSetIterable e env x = pure x := by
  cases e <;> first | rfl | skip
  exfalso
  cases c <;> exact Bool.noConfusion h

/-- an address that is not there yet -/
theorem fresh_at {h1 h0 : Heap} {φ0 φ1 : List Addr} {b : Addr} (R : SR X.W φ1 H h1) (S : Stp own φ0 h0 φ1 h1) (hb : h1.objs.size ≤ b) : b ∉ φ1 ∧ h0.get? b = none ∧ X.W.h₀.get? b = none := by
  have hn : h1.get? b = none := by
    cases e : h1.get? b with
    | none => rfl
    | some o => exact absurd (Heap.lt_size e) (Nat.not_lt.mpr hb)
  refine ⟨fun hm => ?_, ?_, ?_⟩
  · obtain ⟨o, e, _⟩ := R.obj hm
    rw [hn] at e; cases e
  · cases e : h0.get? b with
    | none => rfl
    | some o => obtain ⟨o', e'⟩ := S.alive b o e; rw [hn] at e'; cases e'
  · cases e : X.W.h₀.get? b with
    | none => rfl
    | some o => rw [R.keep b o e] at hn; cases hn

theorem iter_of {v : V} {x : Value} {us : List V} {Q : Value → Shared → Prop} {φ1 : List Addr} {H1 : Hp} {h1 : Heap} {tk : Nat} (G : X.Gl C) (R1 : SR X.W φ1 H1 h1) (S1 : Stp [] φ s.heap φ1 h1) (r1 : Rep X.W.scr φ1 h1 v x) (e : seqOf C.scr H1 v = some us)
    (p : PostI X n tg φ s Q (.ok (us, watch v) H1)) : wpAny X.M A (pyIter x) Q Ex { s with heap := h1, toks := tk } := by
  have fr := fresh_at R1 S1 (Nat.le_refl _)
  have hk : ∀ (o : Obj) (a : Addr) (o' : Obj), h1.get? a = some o' → (h1.push o).get? a = some o' := fun o a o' e => Heap.get?_push_of_some o e
  have io : ∀ a ∈ [h1.objs.size], a ∉ φ1 ∧ s.heap.get? a = none ∧ X.W.h₀.get? a = none := fun a ha => by rw [List.mem_singleton.mp ha]; exact fr
  cases v with
  | tup ts =>
    cases e
    obtain ⟨a, xs, k, rfl, q1, q2, q3⟩ := tupAt r1
    refine wpAny_pyIter_tuple (s := { s with heap := h1, toks := tk }) ⟨_, q1, rfl, k, rfl⟩ ?_
    exact p φ1 _ tk _ _ _ (R1.ext (hk _)) (S1.trans (.push _)) (itr_tuple (a := a) ⟨xs, k, hk _ _ _ q1, q2.mono (own := []) (.push _)⟩) ⟨_, Heap.get?_push_size _ rfl, rfl, rfl⟩ io
  | ref l =>
    simp only [seqOf] at e
    split at e
    · rename_i us' hl
      cases e
      obtain ⟨a, xs, k, rfl, ha, q1, q2, q3⟩ := listAt (s := { s with heap := h1, toks := tk }) R1 r1 hl
      refine wpAny_pyIter_list (s := { s with heap := h1, toks := tk }) (isList_of q1) ?_
      exact p φ1 _ tk _ _ _ (R1.ext (hk _)) (S1.trans (.push _)) (itr_list (a := a) (srcL_ref ha hl (by simp [watch]))) ⟨_, Heap.get?_push_size _ rfl, rfl, rfl⟩ io
    · cases e
  | script =>
    cases r1
    cases e
    obtain ⟨xs, q1, q2, q3⟩ := Gl.keep (s := { s with heap := h1, toks := tk }) G R1
    refine wpAny_pyIter_list (s := { s with heap := h1, toks := tk }) q1 ?_
    exact p φ1 _ tk _ _ _ (R1.ext (hk _)) (S1.trans (.push _)) (itr_list (srcL_script G)) ⟨_, Heap.get?_push_size _ rfl, rfl, rfl⟩ io
  | _ => cases e

theorem of_its {c : E} {e : Expr} (G : X.Gl C) (h0 : chkE X.K sc ns c e = true) (he : EvS X C n sc ns c e) : ItS X C n sc ns (.of c) e := by
  refine ⟨notSet_of h0, fun A env ρ φ H s tg Q Ex rm kd F R htg p => ?_⟩
  rw [evalIt_of] at p
  refine he A env ρ φ H s _ Ex rm kd F R ?_
  cases hv : evalE C c ρ H with
  | stuck => rw [hv] at p; exact p.elim
  | ok v H1 =>
    rw [hv] at p
    intro φ1 h1 tk x R1 S1 r1
    change PostI X n tg φ s Q ((ofOpt H1 (seqOf C.scr H1 v)).bind fun vs H => .ok (vs, watch v) H) at p
    cases hi : seqOf C.scr H1 v with
    | none => rw [hi] at p; exact p.elim
    | some us =>
      rw [hi] at p
      exact iter_of G R1 S1 r1 hi p

theorem iter_range {x y : Int} {r : Addr} {t u w : Tok} {Q : Value → Shared → Prop} {φ1 : List Addr} {H1 : Hp} {h1 : Heap} {tk : Nat} (R1 : SR X.W φ1 H1 h1) (S1 : Stp [] φ s.heap φ1 h1) (hr : IsRange h1 r x y 1 t u w) (hx : x.natAbs < 2 ^ 60 ∧ y.natAbs < 2 ^ 60)
    (p : PostI X n tg φ s Q (.ok (rangeV x y, []) H1)) : wpAny X.M A (pyIter (.ref r)) Q Ex { s with heap := h1, toks := tk } := by
  have fr := fresh_at R1 S1 (Nat.le_refl _)
  refine wpAny_pyIter_range (s := { s with heap := h1, toks := tk }) hr (small_one (by omega) (by omega) (by omega) (by omega)) ?_
  refine p φ1 _ tk _ [h1.objs.size] _ (R1.ext fun a o e => Heap.get?_push_of_some _ e) (S1.trans (.push _)) (itr_range (x := x) (y := y)) ?_ (fun a ha => by rw [List.mem_singleton.mp ha]; exact fr)
  have e1 : x + ((0 : Nat) : Int) = x := by omega
  have e2 : (((y - x).toNat : Int) - ((0 : Nat) : Int)) = Builtin.Range.rangeSize x y 1 := by rw [rangeSize_one]; split <;> omega
  show IsRangeIter _ _ (x + ((0 : Nat) : Int)) (((y - x).toNat : Int) - ((0 : Nat) : Int)) 1
  rw [e1, e2]
  exact Heap.get?_push_size _ rfl

theorem range1_its {b : E} {e : Expr} {np pos : Pos} (G : X.Gl C) (hx : okGlob sc "range" = true) (h0 : chkE X.K sc ns b e = true) (he : EvS X C n sc ns b e) : ItS X C n sc ns (.range (.k (.int 0)) b) (.Call (.Name "range" np) [e] [] pos) := by
  refine ⟨fun _ _ => rfl, fun A env ρ φ H s tg Q Ex rm kd F R htg p => ?_⟩
  have hpl : (backTo pos (starEach [e] env)).any (·.1) = false := by rw [notStarred h0 env]; rfl
  refine wpAny_Call_NameR (glob_bi G kd F R (v := .type "range") (bi_mem 6 (by decide)) hx ?_)
  refine PySem.callWith_type hpl (evalArgs_of hpl ?_)
  refine wpAny_items_cons (he A env ρ φ H s _ Ex rm kd F R ?_) (notStarred h0 env _)
  rw [evalIt_range] at p
  cases hv : evalE C b ρ H with
  | stuck => rw [evalE_k, Mine.R.bind, hv] at p; exact p.elim
  | ok v H1 =>
    rw [evalE_k, Mine.R.bind, hv, Mine.R.bind] at p
    intro φ1 h1 tk x R1 S1 r1
    refine wpAny_items_nil ?_
    cases v <;> first | exact p.elim | skip
    rename_i j
    cases r1
    rename_i t
    dsimp only at p
    split at p
    · rename_i hj
      refine call_range_1 ?_
      exact iter_range (s := s) (R1.ext fun a o e => Heap.get?_push_of_some _ e) (S1.trans (.push _)) (IsRange.new _ _ _ _ _ _ _) hj p
    · exact p.elim
theorem range2_its {c b : E} {e1 e2 : Expr} {np pos : Pos} (G : X.Gl C) (hx : okGlob sc "range" = true) (h1 : chkE X.K sc ns c e1 = true) (h2 : chkE X.K sc ns b e2 = true) (he1 : EvS X C n sc ns c e1) (he2 : EvS X C n sc ns b e2) : ItS X C n sc ns (.range c b) (.Call (.Name "range" np) [e1, e2] [] pos) := by
  refine ⟨fun _ _ => rfl, fun A env ρ φ H s tg Q Ex rm kd F R htg p => ?_⟩
  have hpl : (backTo pos (starEach [e1, e2] env)).any (·.1) = false := by rw [notStarred h1 env, notStarred h2 env]; rfl
  refine wpAny_Call_NameR (glob_bi G kd F R (v := .type "range") (bi_mem 6 (by decide)) hx ?_)
  refine PySem.callWith_type hpl (evalArgs_of hpl ?_)
  refine wpAny_items_cons (he1 A env ρ φ H s _ Ex rm kd F R ?_) (notStarred h1 env _)
  rw [evalIt_range] at p
  cases hv : evalE C c ρ H with
  | stuck => rw [hv] at p; exact p.elim
  | ok v H1 =>
    rw [hv] at p
    change PostI X n tg φ s Q ((evalE C b ρ H1).bind _) at p
    intro φ1 g1 tk x R1 S1 r1
    refine wpAny_items_cons (he2 A env ρ φ1 H1 { s with heap := g1, toks := tk } _ Ex rm kd (F.mono0 S1) R1 ?_) (notStarred h2 env _)
    cases hu : evalE C b ρ H1 with
    | stuck => rw [hu] at p; exact p.elim
    | ok u H2 =>
      rw [hu, Mine.R.bind] at p
      intro φ2 g2 tk2 y R2 S2 r2
      refine wpAny_items_nil ?_
      cases v <;> first | exact p.elim | skip
      cases u <;> first | exact p.elim | skip
      rename_i i j
      cases r1; cases r2
      dsimp only at p
      split at p
      · rename_i hj
        refine call_range_2 ?_
        exact iter_range (s := s) (R2.ext fun a o e => Heap.get?_push_of_some _ e) ((S1.trans S2).trans (.push _)) (IsRange.new _ _ _ _ _ _ _) hj p
      · exact p.elim
theorem enum_its {c : E} {e : Expr} {np pos : Pos} (G : X.Gl C) (hx : okGlob sc "enumerate" = true) (h0 : chkE X.K sc ns c e = true) (he : EvS X C n sc ns c e) : ItS X C n sc ns (.enum c) (.Call (.Name "enumerate" np) [e] [] pos) := by
  refine ⟨fun _ _ => rfl, fun A env ρ φ H s tg Q Ex rm kd F R htg p => ?_⟩
  have hpl : (backTo pos (starEach [e] env)).any (·.1) = false := by rw [notStarred h0 env]; rfl
  have htg' : ∃ es k p, tg = .Tuple es k p := by
    cases tg <;> first | exact Bool.noConfusion htg | exact ⟨_, _, _, rfl⟩
  refine wpAny_Call_NameR (glob_bi G kd F R (v := .type "enumerate") (bi_mem 7 (by decide)) hx ?_)
  refine PySem.callWith_type hpl (evalArgs_of hpl ?_)
  refine wpAny_items_cons (he A env ρ φ H s _ Ex rm kd F R ?_) (notStarred h0 env _)
  rw [evalIt_enum] at p
  cases hv : evalE C c ρ H with
  | stuck => rw [hv] at p; exact p.elim
  | ok v H1 =>
    rw [hv, Mine.R.bind] at p
    intro φ1 h1 tk x R1 S1 r1
    refine wpAny_items_nil ?_
    have fr := fun b (hb : h1.objs.size ≤ b) => fresh_at R1 S1 hb
    have fin : ∀ {a : Addr} {us : List V} {xs : List Value}, h1.IsList a xs.toArray → SrcL X φ1 h1 H1 (watch v) us a → PostI X n tg φ s Q (.ok (enumV 0 us, watch v) H1) → wpAny X.M A (call (.type "enumerate") [.ref a]) (fun x s₁ => wpAny X.M A (pyIter x) Q Ex s₁) Ex { s with heap := h1, toks := tk } := by
      intro a us xs q1 src p
      refine call_enumerate_list (s := { s with heap := h1, toks := tk }) q1 fun h2 w1 w2 w3 w4 => ?_
      refine wpAny_pyIter_enum (s := { s with heap := h2, toks := tk }) w1 ?_
      refine p φ1 h2 tk (h1.objs.size + 1) [h1.objs.size + 1, h1.objs.size] _ (R1.ext w4) (S1.trans (.ext w4)) (itr_enum (a := a) (it := h1.objs.size) htg' ?_ (Nat.succ_ne_self _)) ⟨⟨.none, w1⟩, w2⟩ ?_
      · intro φ' H' s' kp R' hs
        exact src φ' H' s' (Kp.trans (Stp.kp (own := []) (.ext w4)) kp) R' hs
      · intro b hb
        simp at hb
        rcases hb with rfl | rfl
        · exact fr _ (by omega)
        · exact fr _ (by omega)
    cases v with
    | ref l =>
      change PostI X n tg φ s Q ((ofOpt H1 (lstOf C.scr H1 (.ref l))).bind _) at p
      unfold lstOf at p
      dsimp only at p
      split at p
      · rename_i us hl
        obtain ⟨a, xs, k, rfl, ha, q1, q2, q3⟩ := listAt (s := { s with heap := h1, toks := tk }) R1 r1 hl
        exact fin (isList_of q1) (srcL_ref ha hl (by simp [watch])) p
      · exact p.elim
    | script =>
      cases r1
      obtain ⟨xs, q1, q2, q3⟩ := Gl.keep (s := { s with heap := h1, toks := tk }) G R1
      exact fin q1 (srcL_script G) p
    | _ => exact p.elim
end
end Mine

end
section
set_option autoImplicit false
set_option linter.unusedVariables false
set_option linter.unusedSimpArgs false
namespace Mine
open PySem PySem.Calls PyProof.Rows

noncomputable def closOf (env : Env) : List (Str × NameKind) → List (Str × Addr) → List (Str × Addr)
  | [], acc => acc
  | (x, k) :: r, acc => closOf env r (if (k == NameKind.free) = true then (match env.cells.lookup x with | some c => (x, c) :: acc | none => acc) else acc)

theorem clos_go {env : Env} : ∀ (names : List (Str × NameKind)) (acc : List (Str × Addr)), (∀ p ∈ names, p.2 = .free → ∃ c, env.cells.lookup p.1 = some c) →
    (forIn names acc fun (x : Str × NameKind) (cs : List (Str × Addr)) => if (x.2 == NameKind.free) = true then (do let c ← cellOf env x.1; pure (ForInStep.yield ((x.1, c) :: cs))) else pure (ForInStep.yield cs) : Sem (List (Str × Addr))) = pure (closOf env names acc)
  | [], acc, _ => rfl
  | (x, k) :: r, acc, h => by
    rw [List.forIn_cons, closOf]
    by_cases hk : (k == NameKind.free) = true
    · obtain ⟨c, hc⟩ := h (x, k) (.head _) (by simpa using hk)
      have e : cellOf env x = pure c := by unfold cellOf; rw [hc]
      simp only [hk, if_true, e, hc]
      show (pure c >>= fun c => pure (ForInStep.yield ((x, c) :: acc))) >>= _ = _
      exact clos_go r ((x, c) :: acc) fun p hp => h p (.tail _ hp)
    · simp only [hk, if_false, Bool.false_eq_true]
      exact clos_go r acc fun p hp => h p (.tail _ hp)
theorem clos_mem {env : Env} : ∀ (names : List (Str × NameKind)) (acc : List (Str × Addr)) (p : Str × Addr), p ∈ closOf env names acc → p ∈ acc ∨ env.cells.lookup p.1 = some p.2
  | [], acc, p, h => .inl h
  | (x, k) :: r, acc, p, h => by
    rw [closOf] at h
    rcases clos_mem r _ p h with h | h
    · split at h
      · split at h
        · rename_i c hc
          rcases List.mem_cons.mp h with rfl | h
          · exact .inr hc
          · exact .inl h
        · exact .inl h
      · exact .inl h
    · exact .inr h
theorem clos_some {env : Env} (x : Str) : ∀ (names : List (Str × NameKind)) (acc : List (Str × Addr)), (∀ p ∈ names, p.2 = .free → ∃ c, env.cells.lookup p.1 = some c) → ((x, NameKind.free) ∈ names ∨ (∃ c, (x, c) ∈ acc)) → ∃ c, (x, c) ∈ closOf env names acc
  | [], acc, _, h => by
    rcases h with h | h
    · cases h
    · exact h
  | (y, k) :: r, acc, hn, h => by
    rw [closOf]
    refine clos_some x r _ (fun p hp => hn p (.tail _ hp)) ?_
    rcases h with h | ⟨c, h⟩
    · rcases List.mem_cons.mp h with h | h
      · cases h
        obtain ⟨c, hc⟩ := hn (x, .free) (.head _) rfl
        refine .inr ⟨c, ?_⟩
        have hc' : env.cells.lookup x = some c := hc
        simp [hc']
      · exact .inl h
    · refine .inr ⟨c, ?_⟩
      split
      · split
        · exact .tail _ h
        · exact h
      · exact h
theorem lookupC_of_mem {x : Str} {c : Addr} : ∀ {l : List (Str × Addr)}, (x, c) ∈ l → ∃ d, l.lookup x = some d
  | (y, e) :: r, h => by
    rw [List.lookup_cons]
    split
    · exact ⟨_, rfl⟩
    · rename_i hb
      rcases List.mem_cons.mp h with h | h
      · cases h; simp at hb
      · exact lookupC_of_mem h

theorem closure_eq {cs' : Scope} {env : Env} (h : ∀ p ∈ cs'.names, p.2 = .free → ∃ c, env.cells.lookup p.1 = some c) : ∃ cl, closureFor cs' env = pure cl ∧ (∀ x c, cl.lookup x = some c → env.cells.lookup x = some c) ∧
    (∀ x, (x, NameKind.free) ∈ cs'.names → ∃ c, cl.lookup x = some c) ∧ (∀ p ∈ cl, env.cells.lookup p.1 = some p.2) := by
  refine ⟨closOf env cs'.names [], ?_, ?_, ?_, ?_⟩
  · unfold closureFor
    have := clos_go (env := env) cs'.names [] h
    simp only [bind_pure]
    exact this
  · intro x c hc
    rcases clos_mem _ _ _ (mem_of_lookup' hc) with h | h
    · cases h
    · exact h
  · intro x hx
    obtain ⟨c, hc⟩ := clos_some x cs'.names [] h (.inl hx)
    exact lookupC_of_mem hc
  · intro p hp
    rcases clos_mem _ _ _ hp with h | h
    · cases h
    · exact h

section
variable {prog : Program} {w : World} {A : Around} {R : Result → Shared → Prop} {s : Shared}
/-- a list comprehension's turns, what it unpacks let go -/
theorem compLoop_any {elt target iter : Expr} {ifs : List Expr} {scope : Scope} {pos : Pos} {it acc : Value} {env : Env} (I : Nat → Shared → Prop)
    (turn : ∀ n s, I n s → wpAny (model prog w) A (pyNext it) (fun r s₁ => match r with
      | none => R (.ok .next) s₁
      | some v => wpAny (model prog w) A (letOwnedTupleGo target it v) (fun _ s₀ => wpAny (model prog w) A (assign target env v) (fun _ s₂ =>
          wpAny (model prog w) A (forIn ifs true fun c r => if r = true then do let ok ← isTrue c env (eval c env); pure (ForInStep.yield ok) else pure (ForInStep.yield r)) (fun ok s₃ =>
            if ok = true then wpAny (model prog w) A (eval elt env) (fun x s₄ =>
              wpAny (model prog w) A (call (.builtin "list.append") [acc, x]) (fun _ s₅ => ∃ m, m < n ∧ I m s₅) (notedBy (model prog w) A env fun e s' => R (.error e) s') s₄) (notedBy (model prog w) A env fun e s' => R (.error e) s') s₃
            else ∃ m, m < n ∧ I m s₃) (notedBy (model prog w) A env fun e s' => R (.error e) s') s₂) (notedBy (model prog w) A env fun e s' => R (.error e) s') s₀) (notedBy (model prog w) A env fun e s' => R (.error e) s') s₁) (notedBy (model prog w) A env fun e s' => R (.error e) s') s)
    (n : Nat) (h : I n s) : codeAny (model prog w) A (.compLoop (.ListComp elt [⟨target, iter, ifs, 0⟩] scope pos) 0 it acc env) R s := by
  refine codeAny_loop rfl I (fun n s hI => ?_) n h
  show wpAny _ A ((compTurn (.ListComp elt [⟨target, iter, ifs, 0⟩] scope pos) 0 it acc env).onRaise (fun x => do noteFrame x env; theTreesLotGoes x)) _ _ s
  refine wpAny_noted ?_
  rw [compTurn_list]
  refine wpAny_bind (wpAny_standAt (wpAny_bind (wpAny_mono (turn n s hI) (fun r s₁ h₁ => ?_) fun _ _ h' => h')))
  cases r with
  | none => exact wpAny_pure h₁
  | some v =>
    refine wpAny_bind (wpAny_mono h₁ (fun _ s₀ h₀ => ?_) fun _ _ h' => h')
    refine wpAny_bind (wpAny_mono h₀ (fun _ s₂ h₂ => wpAny_bind (wpAny_mono h₂ (fun ok s₃ h₃ => ?_) fun _ _ h' => h')) fun _ _ h' => h')
    cases ok with
    | false => exact wpAny_pure ⟨rfl, h₃⟩
    | true =>
      exact wpAny_bind (wpAny_bind (wpAny_mono h₃ (fun x s₄ h₄ => wpAny_bind (wpAny_mono h₄ (fun _ s₅ h₅ => wpAny_pure (wpAny_pure ⟨rfl, h₅⟩)) fun _ _ h' => h')) fun _ _ h' => h'))
end
end Mine

end
section
set_option autoImplicit false
set_option linter.unusedVariables false
set_option linter.unusedSimpArgs false
namespace Mine
open PySem PySem.Calls PyProof.Rows

theorem compG_len {ws : List Nat} {H₀ : Hp} {t : Tgt} {test : Env' → Hp → R Bool} {elt : Env' → Hp → R V} : ∀ (vs : List V) (ρ : Env') (H : Hp) (acc out : List V) (H' : Hp), compG ws H₀ t test elt vs ρ H acc = .ok out H' → acc.length ≤ out.length
  | [], ρ, H, acc, out, H', h => by rw [compG] at h; cases h; exact Nat.le_refl _
  | v :: vs, ρ, H, acc, out, H', h => by
    rw [compG] at h
    split at h
    · cases h
    · rename_i ρ' _
      cases h1 : test ρ' H with
      | stuck => rw [h1] at h; cases h
      | ok b H1 =>
        rw [h1] at h
        simp only [R.bind] at h
        cases b with
        | true =>
          simp only [if_true] at h
          cases h2 : elt ρ' H1 with
          | stuck => rw [h2] at h; cases h
          | ok y H2 =>
            rw [h2] at h
            simp only at h
            split at h
            · have := compG_len vs ρ' H2 _ _ _ h
              simp at this; omega
            · cases h
        | false =>
          simp only [Bool.false_eq_true, if_false] at h
          split at h
          · exact compG_len vs ρ' H1 _ _ _ h
          · cases h

/-- a comprehension's own names: the scope -/
structure CompSc (sc : Scope) (ns loc : List Str) (cs' : Scope) : Prop where
  kind : cs'.kind = .function
  gen : cs'.isGenerator = false ∧ cs'.isCoroutine = false
  nodup : (cs'.names.map (·.1)).Nodup
  local_ : ∀ p ∈ cs'.names, p.2 = .local → p.1 = (".0" : Str) ∨ p.1 ∈ loc
  nocell : ∀ p ∈ cs'.names, p.2 ≠ .cell
  free : ∀ p ∈ cs'.names, p.2 = .free → p.1 ∈ ns ∧ p.1 ∉ loc ∧ isCellK (sc.names.lookup p.1)
  loc_ : ∀ x ∈ loc, cs'.names.lookup x = some .local
  dot : (".0" : Str) ∉ ns

theorem lookupK_nodup {x : Str} {k : NameKind} : ∀ {l : List (Str × NameKind)}, (l.map (·.1)).Nodup → (x, k) ∈ l → l.lookup x = some k
  | (y, j) :: r, hn, h => by
    rw [List.lookup_cons]
    simp only [List.map_cons, List.nodup_cons] at hn
    rcases List.mem_cons.mp h with h' | h'
    · cases h'; simp
    · have : (x == y) = false := by
        rw [beq_eq_false_iff_ne]
        intro e
        exact hn.1 (List.mem_map.mpr ⟨(x, k), h', e⟩)
      rw [this]
      exact lookupK_nodup hn.2 h'
theorem mem_of_lookupK {x : Str} {c : NameKind} : ∀ {l : List (Str × NameKind)}, l.lookup x = some c → (x, c) ∈ l
  | [], h => by cases h
  | (y, d) :: r, h => by
    rw [List.lookup_cons] at h
    split at h
    · rename_i e
      cases h
      rw [eq_of_beq e]
      exact .head _
    · exact .tail _ (mem_of_lookupK h)

theorem relabel_lookup {cs' : Scope} {env : Env} (x : Str) : (relabel cs' env).names.lookup x = cs'.names.lookup x ∨ (cs'.names.lookup x = some .free ∧ (relabel cs' env).names.lookup x = some .cell) := by
  unfold relabel
  dsimp only
  induction cs'.names with
  | nil => exact .inl rfl
  | cons p r ih =>
    obtain ⟨y, k⟩ := p
    rw [List.map_cons]
    dsimp only
    by_cases hc : (k == NameKind.free && env.scope.kind == .function && env.kindOf y == some .cell) = true
    · rw [if_pos hc, List.lookup_cons, List.lookup_cons]
      cases hx : x == y with
      | true =>
        simp only [Bool.and_eq_true] at hc
        have : k = .free := by simpa using hc.1.1
        subst this
        exact .inr ⟨rfl, rfl⟩
      | false => exact ih
    · rw [if_neg hc, List.lookup_cons, List.lookup_cons]
      cases hx : x == y with
      | true => exact .inl rfl
      | false => exact ih

theorem idxOf_app {x : Str} {loc ns : List Str} (hx : x ∉ loc) : (loc ++ ns).idxOf x = loc.length + ns.idxOf x := by
  rw [List.idxOf_append, if_neg hx, Nat.add_comm]

section
variable {X : Fix} {sc cs' : Scope} {ns loc : List Str} {env : Env} {ρ : Env'} {φ : List Addr} {h h' : Heap} {cl : List (Str × Addr)} {D : Addr}

theorem CompSc.kinds (c : CompSc sc ns loc cs') : Kinds cs' (compEnvC cs' cl D env) := by
  intro x
  show kEq (cs'.names.lookup x) ((relabel cs' env).names.lookup x)
  rcases relabel_lookup (cs' := cs') (env := env) x with h | ⟨h1, h2⟩
  · exact .inl h.symm
  · rw [h1, h2]; exact .inr ⟨.inr rfl, .inl rfl⟩

theorem CompSc.frame (c : CompSc sc ns loc cs') (kd : Kinds sc env) (F : FR X.W env ns ρ φ h) (hcl1 : ∀ x c, cl.lookup x = some c → env.cells.lookup x = some c) (hcl2 : ∀ x, (x, NameKind.free) ∈ cs'.names → ∃ c, cl.lookup x = some c) (hcl3 : ∀ p ∈ cl, env.cells.lookup p.1 = some p.2)
    (hD : D ∉ φ ∧ X.W.h₀.get? D = none ∧ h.get? D = none) (hkeep : ∀ a o, h.get? a = some o → h'.get? a = some o) (hn : h'.Ns D (fun _ => none)) : FR X.W (compEnvC cs' cl D env) (loc ++ ns) (List.replicate loc.length none ++ ρ) φ h' := by
  have hkind : ∀ x, (compEnvC cs' cl D env).kindOf x = (relabel cs' env).names.lookup x := fun _ => rfl
  have hlk : ∀ x, x ∉ loc → lk (loc ++ ns) (List.replicate loc.length none ++ ρ) x = lk ns ρ x := by
    intro x hx
    unfold lk
    rw [idxOf_app hx, List.getElem?_append_right (by simp)]
    simp
  have hlk2 : ∀ x, x ∈ loc → lk (loc ++ ns) (List.replicate loc.length none ++ ρ) x = none := by
    intro x hx
    unfold lk
    have h1 := List.idxOf_lt_length_of_mem hx
    rw [List.idxOf_append, if_pos hx, List.getElem?_append_left (by simpa using h1)]
    simp [h1]
  have hne : ∀ a o, h.get? a = some o → a ≠ D := fun a o e e' => by subst e'; rw [hD.2.2] at e; cases e
  have S : Stp [] φ h φ h' := .ext hkeep
  refine ⟨c.kind, F.glob, F.blt, ⟨c.gen.1, c.gen.2, ?_⟩, by simp [F.len], ⟨_, hn, ?_⟩, ⟨hD.1, hD.2.1⟩, ?_, ?_, ?_⟩
  · unfold interactive
    have : (compEnvC cs' cl D env).scope.kind = .function := c.kind
    rw [this]; rfl
  · intro x hx hk
    rw [hkind] at hk
    have hk' : cs'.names.lookup x = some .local := by
      rcases relabel_lookup (cs' := cs') (env := env) x with h | ⟨h1, h2⟩
      · rw [← h]; exact hk
      · rw [h2] at hk; cases hk
    have hm := mem_of_lookupK hk'
    by_cases hl : x ∈ loc
    · rw [hlk2 x hl]; exact .none
    · rcases c.local_ _ hm rfl with e | e
      · have e : x = (".0" : Str) := e
        subst e
        rcases List.mem_append.mp hx with hx | hx
        · exact absurd hx hl
        · exact absurd hx c.dot
      · exact absurd e hl
  · intro x hx hk
    rw [hkind] at hk
    have hk' : cs'.names.lookup x = some .free := by
      rcases relabel_lookup (cs' := cs') (env := env) x with h | ⟨h1, h2⟩
      · rw [h] at hk
        rcases hk with hk | hk
        · exact absurd rfl (c.nocell _ (mem_of_lookupK hk))
        · exact hk
      · exact h1
    have hm := mem_of_lookupK hk'
    obtain ⟨f1, f2, f3⟩ := c.free _ hm rfl
    obtain ⟨d, hd⟩ := hcl2 x hm
    have hd' := hcl1 x d hd
    have hkc : isCellK (env.kindOf x) := by
      rcases kd x with e | ⟨_, e⟩
      · rw [← e]; exact f3
      · exact e
    obtain ⟨c1, v, q1, q2, q3, q4, q5, q6⟩ := F.cel x f1 hkc
    rw [hd'] at q1; cases q1
    obtain ⟨o, ho, hod⟩ := id q5
    refine ⟨d, v, hd, q2, hne d o ho, q4, IsCell_at q5 fun o e => hkeep _ _ e, ?_⟩
    rw [hlk x f2]
    exact q6.mono S
  · intro x y c h1 h2
    exact F.apart x y c (hcl1 _ _ h1) (hcl1 _ _ h2)
  · intro p hp
    have := hcl3 p hp
    obtain ⟨q1, o, q2⟩ := F.alive _ (mem_of_lookup' this)
    exact ⟨q1, o, hkeep _ _ q2⟩
end
end Mine

end
section
set_option autoImplicit false
set_option linter.unusedVariables false
set_option linter.unusedSimpArgs false
namespace Mine
open PySem PySem.Calls PyProof.Rows

section
variable {X : Fix} {C : Ctx} {A : Around} {n : Nat} {Ex : Value → Shared → Prop} {s : Shared} {φ : List Addr} {H : Hp} {sc : Scope} {ns : List Str} {env : Env} {ρ : Env'}

/-- what holds between two turns of a comprehension -/
inductive CTurn (X : Fix) (C : Ctx) (s : Shared) (φ φ₀ : List Addr) (h1 : Heap) (cenv : Env) (nsC : List Str) (H₀ H2 : Hp) (ws : List Nat) (us vs : List V) (D : Addr) (io : List Addr) (St : Nat → Heap → Prop) (t : Tgt) (cs : List E) (elt : E) (k : Nat) (s' : Shared) : Prop
  | mk (i : Nat) (ρ' : Env') (H' : Hp) (φ' : List Addr) (h' : Heap) (tk : Nat) (acc : List V) (ys : List Value) (kk : Nat) (e1 : s' = { s with heap := h', toks := tk }) (e2 : k = (us.drop i).length + 1) (F : FR X.W cenv nsC ρ' φ' h') (R : SR X.W φ' H' h') (hw : stands ws H₀ H' = true) (st : St i h')
    (hio : ∀ a ∈ D :: io, a ∉ φ' ∧ X.W.h₀.get? a = none) (S : Stp [] φ s.heap φ' h') (kp : Kp φ₀ h1 φ' h') (hD : h'.get? D = some (lstObj ys kk)) (ra : RepL X.W.scr φ' h' acc ys) (p : compG ws H₀ t (fun ρ H => tests C cs ρ H) (fun ρ H => evalE C elt ρ H) (us.drop i) ρ' H' acc = .ok vs H2) : CTurn X C s φ φ₀ h1 cenv nsC H₀ H2 ws us vs D io St t cs elt k s'

/-- the turns of a comprehension -/
theorem compTurns_snd {elt : E} {t : Tgt} {cs : List E} {e tg iter : Expr} {ifs : List Expr} {cs' : Scope} {nsC : List Str} {cenv : Env} {pos : Pos} {H₀ H2 H1 : Hp} {ws : List Nat} {us vs : List V} {I D : Addr} {io φ₀ : List Addr} {St : Nat → Heap → Prop} {h1 : Heap} {tk1 : Nat} {RR : Result → Shared → Prop}
    (rm : Room A n) (kd : Kinds cs' cenv) (hown : OwnN cenv [cenv.locals] (tNames t tg)) (ht : chkT cs' nsC t tg = true) (helt : EvS X C n cs' nsC elt e) (hifs : LsS X C n cs' nsC cs ifs)
    (it : Itr X n tg φ₀ h1 H₀ ws us I io St) (hnew : ∀ a ∈ D :: cenv.locals :: io, s.heap.get? a = none) (S0 : Stp [] φ s.heap φ₀ h1)
    (F : FR X.W cenv nsC ρ φ₀ h1) (R : SR X.W φ₀ H1 h1) (hw : stands ws H₀ H1 = true) (hst : St 0 h1) (hio : ∀ a ∈ D :: io, a ∉ φ₀ ∧ X.W.h₀.get? a = none) (hfr : ∀ a ∈ D :: io, a ≠ cenv.locals ∧ ∀ p ∈ cenv.cells, p.2 ≠ a) (hDio : D ∉ io)
    (hD : ∃ k, h1.get? D = some (lstObj [] k)) (hlen : vs.length < 1000000)
    (p : compG ws H₀ t (fun ρ H => tests C cs ρ H) (fun ρ H => evalE C elt ρ H) us ρ H1 [] = .ok vs H2)
    (fin : ∀ φ' h' tk ys k ρ', SR X.W φ' H2 h' → Stp [] φ s.heap φ' h' → FR X.W cenv nsC ρ' φ' h' → h'.get? D = some (lstObj ys k) → RepL X.W.scr φ' h' vs ys → D ∉ φ' → RR (.ok .next) { s with heap := h', toks := tk }) :
    codeAny X.M A (.compLoop (.ListComp e [⟨tg, iter, ifs, 0⟩] cs' pos) 0 (.ref I) (.ref D) cenv) RR { s with heap := h1, toks := tk1 } := by
  refine compLoop_any (CTurn X C s φ φ₀ h1 cenv nsC H₀ H2 ws us vs D io St t cs elt) ?_ (us.length + 1)
    ⟨0, ρ, H1, φ₀, h1, tk1, [], [], hD.choose, rfl, by simp, F, R, hw, hst, hio, S0, .refl, hD.choose_spec, .nil, by simpa using p⟩
  have hC : ∀ a ∈ D :: io, ∀ x c, cenv.cells.lookup x = some c → c ≠ a := fun a ha x c hx e => (hfr a ha).2 _ (mem_of_lookup' hx) e
  have hL : ∀ a ∈ D :: io, cenv.locals ≠ a := fun a ha e => (hfr a ha).1 e.symm
  rintro k s' ⟨i, ρ', H', φ', h', tk, acc, ys, kk, rfl, rfl, F', R', hw', hst', hio', S', hpre', hD', ra, p'⟩
  have hioI : ∀ a ∈ io, a ∉ φ' ∧ X.W.h₀.get? a = none := fun a ha => hio' a (.tail _ ha)
  cases hv : us[i]? with
  | none =>
    refine it.done A φ' H' { s with heap := h', toks := tk } i _ _ rm hpre' R' hw' hst' hioI hv fun h2 tk2 R2 S2 => ?_
    have hd : us.drop i = [] := List.drop_eq_nil_iff.mpr (List.getElem?_eq_none_iff.mp hv)
    rw [hd] at p'
    cases p'
    exact fin φ' h2 tk2 ys kk ρ' R2 (S'.fin S2 fun a ha => hnew a (.tail _ (.tail _ ha))) (F'.fin S2 (fun hm => (hfr _ (.tail _ hm)).1 rfl) fun p hp hm => (hfr _ (.tail _ hm)).2 p hp rfl) (S2.keep _ _ hDio hD') (ra.kp S2.kp) (hio' D (.head _)).1
  | some v =>
    refine it.item A φ' H' { s with heap := h', toks := tk } i v _ _ rm hpre' R' hw' hst' hioI hv fun y s₁ hl => ?_
    refine hl _ _ fun h2 tk2 R2 S2 st2 r2 => ?_
    have hlt := (List.getElem?_eq_some_iff.mp hv).1
    have hd : us.drop i = v :: us.drop (i + 1) := by rw [List.drop_eq_getElem_cons hlt, (List.getElem?_eq_some_iff.mp hv).2]
    rw [hd, compG] at p'
    have F2 := F'.mono S2 (fun hm => (hfr _ (.tail _ hm)).1 rfl) (fun x c hx hm => hC c (.tail _ hm) x c hx rfl)
    cases ha : asg t v ρ' with
    | none => rw [ha] at p'; cases p'
    | some ρ2 =>
      rw [ha] at p'
      dsimp only at p'
      -- all that is not there at the start
      have back : ∀ {own φ₂ : List Addr} {h₂ : Heap}, Stp own φ' h' φ₂ h₂ → (∀ a ∈ own, a ∈ D :: cenv.locals :: io) → Stp [] φ s.heap φ₂ h₂ := fun T hs =>
        Stp.drop (S'.nil.trans T) fun a ha _ => hnew a (hs a ha)
      have hD2 : h2.get? D = some (lstObj ys kk) := S2.keep _ _ hD' (hio' D (.head _)).1 hDio
      refine asg_snd (own := [cenv.locals]) t tg v y A ρ' ρ2 φ' H' { s with heap := h2, toks := tk2 } _ _ ht hown rm F2 R2 r2 ha fun h3 tk3 R3 F3 S4 => ?_
      have inL : ∀ a ∈ D :: io, a ∉ [cenv.locals] := fun a ha hm => hL a ha (List.mem_singleton.mp hm).symm
      have hD3 : h3.get? D = some (lstObj ys kk) := S4.keep _ _ hD2 (hio' D (.head _)).1 (inL D (.head _))
      have st3 : St (i + 1) h3 := it.keep _ _ _ st2 fun a ha o e => S4.keep a o e (hioI a ha).1 (inL a (.tail _ ha))
      let W : List Addr := io ++ [cenv.locals]
      have hW : ∀ a ∈ W, a ∈ D :: cenv.locals :: io := by
        intro a ha
        rcases List.mem_append.mp ha with ha | ha
        · exact .tail _ (.tail _ ha)
        · rw [List.mem_singleton.mp ha]; exact .tail _ (.head _)
      have S3 : Stp W φ' h' φ' h3 := (S2.sub fun a ha => List.mem_append_left _ ha).trans (S4.sub fun a ha => List.mem_append_right _ ha)
      refine hifs.tst A cenv ρ2 φ' H' { s with heap := h3, toks := tk3 } _ _ rm kd F3 R3 ?_
      cases ht1 : tests C cs ρ2 H' with
      | stuck => rw [ht1] at p'; cases p'
      | ok b H4 =>
        rw [ht1] at p'
        intro φ4 h4 tk4 R4 S5
        have F4 := F3.mono0 S5
        have hio4 : ∀ a ∈ D :: io, a ∉ φ4 ∧ X.W.h₀.get? a = none := by
          intro a ha
          refine ⟨?_, (hio' a ha).2⟩
          rcases List.mem_cons.mp ha with rfl | ha'
          · exact S5.notMem hD3 (hio' _ (.head _)).1
          · obtain ⟨o, ho⟩ := it.live _ _ st3 a ha'
            exact S5.notMem ho (hioI a ha').1
        have hD4 : h4.get? D = some (lstObj ys kk) := S5.keep _ _ hD3 (hio' D (.head _)).1 (by simp)
        have st4 : St (i + 1) h4 := it.keep _ _ _ st3 fun a ha o e => S5.keep a o e (hioI a ha).1 (by simp)
        have S6 : Stp W φ' h' φ4 h4 := S3.trans S5.nil
        have kp4 : Kp φ₀ h1 φ4 h4 := hpre'.trans S6.kp
        simp only [Mine.R.bind] at p'
        cases b with
        | false =>
          simp only [Bool.false_eq_true, if_false] at p' ⊢
          split at p'
          · rename_i hw4
            exact ⟨(us.drop (i + 1)).length + 1, by rw [hd]; simp, i + 1, ρ2, H4, φ4, h4, tk4, acc, ys, kk, rfl, rfl, F4, R4, hw4, st4, hio4, back S6 hW, kp4, hD4, ra.mono S6, p'⟩
          · cases p'
        | true =>
          simp only [if_true] at p' ⊢
          refine helt A cenv ρ2 φ4 H4 { s with heap := h4, toks := tk4 } _ _ rm kd F4 R4 ?_
          cases he1 : evalE C elt ρ2 H4 with
          | stuck => rw [he1] at p'; cases p'
          | ok y5 H5 =>
            rw [he1] at p'
            dsimp only at p'
            intro φ5 h5 tk5 x5 R5 S7 r5
            have hio5 : ∀ a ∈ D :: io, a ∉ φ5 ∧ X.W.h₀.get? a = none := by
              intro a ha
              refine ⟨?_, (hio' a ha).2⟩
              rcases List.mem_cons.mp ha with rfl | ha'
              · exact S7.notMem hD4 (hio4 _ (.head _)).1
              · obtain ⟨o, ho⟩ := it.live _ _ st4 a ha'
                exact S7.notMem ho (hio4 a ha).1
            have hD5 : h5.get? D = some (lstObj ys kk) := S7.keep _ _ hD4 (hio4 D (.head _)).1 (by simp)
            have st5 : St (i + 1) h5 := it.keep _ _ _ st4 fun a ha o e => S7.keep a o e (hio4 a (.tail _ ha)).1 (by simp)
            have S8 : Stp W φ' h' φ5 h5 := S6.trans S7.nil
            split at p'
            · rename_i hw5
              have hal := compG_len _ _ _ _ _ _ p'
              have hrl := ra.length
              refine wpAny_list_append_plain (s := { s with heap := h5, toks := tk5 }) (items := ys.toArray) ⟨kk, hD5⟩ (fun h6 hp6 hs6 => ?_) (by simp at hal; simp; unfold sizeLine; omega)
              obtain ⟨k6, hD6⟩ := hp6
              have hD6' : h6.get? D = some (lstObj (ys ++ [x5]) k6) := by rw [hD6]; simp
              have hDn : NotTup (lstObj ys kk) := notTup_cls (by simp)
              have S9 : Stp [D] φ5 h5 φ5 h6 := .but (.inl (by simp)) hD5 hDn hD6' hs6.extBut
              have R6 : SR X.W φ5 H5 h6 := R5.but (hio5 D (.head _)).1 (hio5 D (.head _)).2 hD5 hDn hD6' hs6.extBut
              have F6 : FR X.W cenv nsC ρ2 φ5 h6 := (F4.mono0 S7).mono S9 (fun hm => hL D (.head _) (List.mem_singleton.mp hm)) (fun x c hx hm => hC D (.head _) x c hx (List.mem_singleton.mp hm))
              have st6 : St (i + 1) h6 := it.keep _ _ _ st5 fun a ha o e => hs6.extBut a o (fun e' => hDio (e' ▸ ha)) e
              have S10 : Stp (D :: W) φ' h' φ5 h6 := (S8.sub fun a ha => .tail _ ha).trans (S9.sub fun a ha => by rw [List.mem_singleton.mp ha]; exact .head _)
              refine ⟨(us.drop (i + 1)).length + 1, by rw [hd]; simp, i + 1, ρ2, H5, φ5, h6, tk5, acc ++ [y5], ys ++ [x5], k6, rfl, rfl, F6, R6, hw5, st6, hio5, back S10 ?_, ?_, hD6', (ra.mono S10).append (.one (r5.mono S9)), p'⟩
              · intro a ha
                rcases List.mem_cons.mp ha with rfl | ha
                · exact .head _
                · exact hW a ha
              · exact (hpre'.trans S10.kp)
            · cases p'
end
end Mine

end
section
set_option autoImplicit false
set_option linter.unusedVariables false
set_option linter.unusedSimpArgs false
namespace Mine
open PySem PySem.Calls PyProof.Rows

section
variable {W : Wo} {own φ φ' : List Addr} {h h' : Heap} {H : Hp}
/-- an object of one's own becomes a cell -/
theorem SR.adopt {D : Addr} {c : Cell} (R : SR W φ H h) (hD : D ∉ φ) (h0 : W.h₀.get? D = none) (hc : CellAt W (φ ++ [D]) h D c) : SR W (φ ++ [D]) (H ++ [c]) h := by
  refine ⟨R.keep, ?_, ?_, by simp [R.len], fun l c' e => ?_⟩
  · intro a ha
    rcases List.mem_append.mp ha with ha | ha
    · exact R.fresh a ha
    · rw [List.mem_singleton.mp ha]; exact h0
  · rw [List.nodup_append]
    exact ⟨R.nodup, by simp, fun a ha b hb e => hD (by rw [List.mem_singleton] at hb; rw [← hb, ← e]; exact ha)⟩
  · by_cases hl : l < H.length
    · rw [List.getElem?_append_left hl] at e
      obtain ⟨a, ha, r⟩ := R.cell l c' e
      exact ⟨a, by rw [List.getElem?_append_left (by rw [R.len]; exact hl)]; exact ha, r.kp ⟨⟨[D], rfl⟩, fun _ _ _ e => e⟩ fun _ e => e⟩
    · have e2 : l = H.length := by
        have := (List.getElem?_eq_some_iff.mp e).1
        simp at this; omega
      subst e2
      rw [List.getElem?_append_right (Nat.le_refl _)] at e
      simp at e
      subst e
      exact ⟨D, by rw [← R.len, List.getElem?_append_right (Nat.le_refl _)]; simp, hc⟩
theorem Stp.adopt {D : Addr} (S : Stp own φ h φ' h') (hD : h.get? D = none) : Stp own φ h (φ' ++ [D]) h' := by
  refine ⟨?_, S.keep, fun a ha hn => ?_, S.tup, S.alive⟩
  · obtain ⟨t, rfl⟩ := S.pre; exact ⟨t ++ [D], by simp⟩
  · rcases List.mem_append.mp ha with ha | ha
    · exact S.fresh a ha hn
    · rw [List.mem_singleton.mp ha]; exact hD
end

section
variable {X : Fix} {C : Ctx} {A : Around} {n : Nat} {Ex : Value → Shared → Prop} {s : Shared} {φ : List Addr} {H : Hp} {sc : Scope} {ns : List Str} {env : Env} {ρ : Env'}

theorem comp_core {elt : E} {t : Tgt} {it : It} {cs : List E} {e tg iter : Expr} {ifs : List Expr} {cs' : Scope} {loc : List Str} {pos p0 : Pos} {use : Option (Value → Sem Unit)} {Q : Value → Shared → Prop} {us vs : List V} {ws : List Nat} {H1 H2 : Hp}
    (c : CompSc sc ns loc cs') (hloc : tNames t tg = loc) (ht : chkT cs' (loc ++ ns) t tg = true) (htg : tgOk it tg = true) (hit : ItS X C n sc ns it iter) (helt : EvS X C n cs' (loc ++ ns) elt e) (hifs : LsS X C n cs' (loc ++ ns) cs ifs)
    (rm : Room A n) (kd : Kinds sc env) (F : FR X.W env ns ρ φ s.heap) (R : SR X.W φ H s.heap)
    (e1 : evalIt C it ρ H = .ok (us, ws) H1) (e2 : compG ws H1 t (fun ρ H => tests C cs ρ H) (fun ρ H => evalE C elt ρ H) us (List.replicate loc.length none ++ ρ) H1 [] = .ok vs H2) (e3 : vs.length < 1000000)
    (fin : ∀ φ' h' tk D C' ys k m, SR X.W φ' H2 h' → Stp [] φ s.heap φ' h' → h'.get? D = some (lstObj ys k) → RepL X.W.scr φ' h' vs ys → D ∉ φ' → s.heap.get? D = none → X.W.h₀.get? D = none → C' ∉ φ' → s.heap.get? C' = none → C' ≠ D → X.W.h₀.get? C' = none → h'.Ns C' m →
      compPost X.M A Ex use Q (.ref D) C' (.ok .next) { s with heap := h', toks := tk }) :
    wpAny X.M A (comprehension (.ListComp e [⟨tg, iter, ifs, 0⟩] cs' pos) cs' env p0 (newList []) false (eval iter env) use) Q Ex s := by
  have hcells : ∀ p ∈ cs'.names, p.2 = .free → ∃ d, env.cells.lookup p.1 = some d := by
    intro p hp hk
    obtain ⟨f1, f2, f3⟩ := c.free p hp hk
    have hkc : isCellK (env.kindOf p.1) := by
      rcases kd p.1 with e | ⟨_, e⟩
      · rw [← e]; exact f3
      · exact e
    obtain ⟨c1, v, q1, _⟩ := F.cel p.1 f1 hkc
    exact ⟨c1, q1⟩
  obtain ⟨cl, hclos, hcl1, hcl2, hcl3⟩ := closure_eq hcells
  refine wpAny_comprehension_free rfl (hit.1 env) hclos c.kind (fun x hx hl => by obtain ⟨y, k⟩ := x; cases hl; exact lookupK_nodup c.nodup hx) (hit.2 A env ρ φ H s tg _ Ex rm kd F R htg ?_)
  rw [e1]
  intro φ1 h1 tk I io St R1 S1 it1 st1 hio
  refine wpAny_newObj_type (wpAny_newFunctionEnv c.nocell (by intro y hy; simp at hy) (fun h₂ hns hsb => ?_) c.kind)
  dsimp only at hns hsb ⊢
  generalize hH2 : h1.push { cls := .type "list", dict := none, data := .seq ([] : List Value).toArray } = g at hns hsb ⊢
  have hCs : g.objs.size = h1.objs.size + 1 := by rw [← hH2, Heap.size_push]
  have old1 : ∀ a o, h1.get? a = some o → g.get? a = some o := fun a o e => hH2 ▸ Heap.get?_push_of_some _ e
  have old2 : ∀ a o, g.get? a = some o → h₂.get? a = some o := fun a o e => hsb.extBut a o (Nat.ne_of_lt (Heap.lt_size e)) (Heap.get?_push_of_some _ e)
  have old : ∀ a o, h1.get? a = some o → h₂.get? a = some o := fun a o e => old2 a o (old1 a o e)
  have hD : h₂.get? h1.objs.size = some (lstObj [] 0) := old2 _ _ (by rw [← hH2]; exact Heap.get?_push_size _ rfl)
  have frD := fresh_at R1 S1 (b := h1.objs.size) (Nat.le_refl _)
  have frC := fresh_at R1 S1 (b := g.objs.size) (by omega)
  have none1 : ∀ b, h1.objs.size ≤ b → h1.get? b = none := by
    intro b hb
    cases e : h1.get? b with
    | none => rfl
    | some o => exact absurd (Heap.lt_size e) (Nat.not_lt.mpr hb)
  have Fc : FR X.W (compEnvC cs' cl g.objs.size env) (loc ++ ns) (List.replicate loc.length none ++ ρ) φ1 h₂ := c.frame kd (F.mono0 S1) hcl1 hcl2 hcl3 ⟨frC.1, frC.2.2, none1 _ (by omega)⟩ old hns
  have St0 : St 0 h₂ := it1.keep _ _ _ st1 fun a _ o e => old a o e
  have liv : ∀ a ∈ io, ∃ o, h1.get? a = some o := fun a ha => it1.live _ _ st1 a ha
  have hlt : ∀ a ∈ io, a < h1.objs.size := fun a ha => let ⟨o, e⟩ := liv a ha; Heap.lt_size e
  have cellsF : ∀ p ∈ cl, ∃ o, s.heap.get? p.2 = some o := fun p hp => (F.alive _ (mem_of_lookup' (hcl3 p hp))).2
  have loop : codeAny X.M A (.compLoop (.ListComp e [⟨tg, iter, ifs, 0⟩] cs' pos) 0 (.ref I) (.ref h1.objs.size) (compEnvC cs' cl g.objs.size env)) (compPost X.M A Ex use Q (.ref h1.objs.size) g.objs.size) { s with heap := h₂, toks := tk } := by
    refine compTurns_snd (s := s) (φ := φ) (φ₀ := φ1) (io := io) (St := St) (us := us) (ws := ws) (H₀ := H1) (H1 := H1) rm (c.kinds) ?_ ht helt hifs ⟨it1.keep, it1.live, ?_, ?_, it1.self⟩ ?_ (S1.trans (.ext old)) Fc (R1.ext old) (by simp [stands]) St0 ?_ ?_ ?_ ⟨0, hD⟩ e3 e2 ?_
    · intro x hx
      rw [hloc] at hx
      exact .inl ⟨lookup_relabel_local (c.loc_ x hx), by show g.objs.size ∈ [g.objs.size]; simp⟩
    · intro A φ H s i v Q Ex rm kp
      exact it1.item A φ H s i v Q Ex rm (Kp.trans (Stp.kp (own := []) (.ext old)) kp)
    · intro A φ H s i Q Ex rm kp
      exact it1.done A φ H s i Q Ex rm (Kp.trans (Stp.kp (own := []) (.ext old)) kp)
    · intro a ha
      rcases List.mem_cons.mp ha with rfl | ha
      · exact frD.2.1
      · rcases List.mem_cons.mp ha with rfl | ha
        · exact frC.2.1
        · exact (hio a ha).2.1
    · intro a ha
      rcases List.mem_cons.mp ha with rfl | ha
      · exact ⟨frD.1, frD.2.2⟩
      · exact ⟨(hio a ha).1, (hio a ha).2.2⟩
    · intro a ha
      refine ⟨?_, fun p hp e => ?_⟩
      · show a ≠ g.objs.size
        rcases List.mem_cons.mp ha with rfl | ha
        · exact fun e => by rw [hCs] at e; exact absurd e (Nat.ne_of_lt (Nat.lt_succ_self _))
        · have := hlt a ha; exact fun e => by rw [hCs] at e; subst e; exact absurd this (Nat.not_lt.mpr (Nat.le_succ _))
      · obtain ⟨o, ho⟩ := cellsF p hp
        rw [e] at ho
        rcases List.mem_cons.mp ha with rfl | ha
        · rw [frD.2.1] at ho; cases ho
        · rw [(hio a ha).2.1] at ho; cases ho
    · intro hm
      exact Nat.lt_irrefl _ (hlt _ hm)
    · intro φ' h' tk' ys k ρ' r1 r2 r3 r4 r5 r6
      obtain ⟨m, hm, _⟩ := r3.loc
      exact fin φ' h' tk' h1.objs.size g.objs.size ys k m r1 r2 r4 r5 r6 frD.2.1 frD.2.2 r3.locA.1 frC.2.1 (fun e => by rw [hCs] at e; exact absurd e.symm (Nat.ne_of_lt (Nat.lt_succ_self _))) r3.locA.2 hm
  exact codeAny_compStart_list loop (it1.self A _ _ _ rm St0 loop)

theorem comp_snd {elt : E} {t : Tgt} {it : It} {cs : List E} {e tg iter : Expr} {ifs : List Expr} {cs' : Scope} {loc : List Str} {pos : Pos}
    (c : CompSc sc ns loc cs') (hloc : tNames t tg = loc) (ht : chkT cs' (loc ++ ns) t tg = true) (htg : tgOk it tg = true) (hit : ItS X C n sc ns it iter) (helt : EvS X C n cs' (loc ++ ns) elt e) (hifs : LsS X C n cs' (loc ++ ns) cs ifs) :
    EvS X C n sc ns (.comp loc.length elt t it cs) (.ListComp e [⟨tg, iter, ifs, 0⟩] cs' pos) := by
  intro A env ρ φ H s Q Ex rm kd F R p
  rw [evalE_comp0] at p
  rw [eval_ListComp]
  cases e1 : evalIt C it ρ H with
  | stuck => rw [e1] at p; exact p.elim
  | ok q H1 =>
    obtain ⟨us, ws⟩ := q
    rw [e1] at p
    change PostV X.W φ s Q ((compG ws H1 t (fun ρ H => tests C cs ρ H) (fun ρ H => evalE C elt ρ H) us (List.replicate loc.length none ++ ρ) H1 []).bind fun vs H => allocL vs H) at p
    cases e2 : compG ws H1 t (fun ρ H => tests C cs ρ H) (fun ρ H => evalE C elt ρ H) us (List.replicate loc.length none ++ ρ) H1 [] with
    | stuck => rw [e2] at p; exact p.elim
    | ok vs H2 =>
      rw [e2] at p
      change PostV X.W φ s Q (allocL vs H2) at p
      unfold allocL at p
      split at p
      · rename_i hz
        have hz' : vs.length < 1000000 := by simpa [szOk] using hz
        refine comp_core c hloc ht htg hit helt hifs rm kd F R e1 e2 hz' ?_
        intro φ' h' tk D C' ys k m R2 S2 hD r hDn hDs hD0 hCn hCs hCD hC0 hm
        refine ⟨m, hm, fun h3 hs3 => ?_⟩
        replace hs3 : Heap.SameBut C' h' h3 := hs3
        obtain ⟨o, es, ep, ho, hd, _⟩ := hm
        have FI : Fin [C'] h' h3 := ⟨fun a o hb e => hs3.extBut a o (by simpa using hb) e, fun a ha o' e => by rw [List.mem_singleton.mp ha, ho] at e; cases e; exact notTup_dict hd⟩
        have R3 := R2.fin (io := [C']) (fun a ha => by rw [List.mem_singleton.mp ha]; exact ⟨hCn, hC0⟩) FI
        have S3 := S2.fin FI (fun a ha => by rw [List.mem_singleton.mp ha]; exact hCs)
        have hD3 : h3.get? D = some (lstObj ys k) := FI.keep _ _ (by simpa using hCD.symm) hD
        have kp : Kp φ' h3 (φ' ++ [D]) h3 := ⟨⟨[D], rfl⟩, fun _ _ _ e => e⟩
        refine p (φ' ++ [D]) h3 tk (.ref D) (R3.adopt hDn hD0 ⟨ys, k, hD3, (r.kp FI.kp).kp kp, by omega⟩) (S3.adopt hDs) (.ref ?_)
        rw [← R3.len, List.getElem?_append_right (Nat.le_refl _)]; simp
      · exact p.elim

theorem asgComp_snd {elt : E} {t u : Tgt} {it : It} {cs : List E} {e tg iter : Expr} {ifs : List Expr} {cs' : Scope} {loc : List Str} {y : Str} {py cpos pos : Pos}
    (c : CompSc sc ns loc cs') (hloc : tNames t tg = loc) (ht : chkT cs' (loc ++ ns) t tg = true) (htg : tgOk it tg = true) (hit : ItS X C n sc ns it iter) (helt : EvS X C n cs' (loc ++ ns) elt e) (hifs : LsS X C n cs' (loc ++ ns) cs ifs)
    (hu : chkT sc ns u (.Name y py) = true) : SS X C n sc ns (.asg u (.comp loc.length elt t it cs)) (.Assign [.Name y py] (.ListComp e [⟨tg, iter, ifs, 0⟩] cs' cpos) pos) := by
  intro A env own ρ φ H s Q Ex rm kd hown F R p
  rw [execS_asg] at p
  have hev := comp_snd (pos := cpos) c hloc ht htg hit helt hifs
  have key : ∀ {Q1 : Value → Shared → Prop}, (∀ v ρ' H1 φ1 h1 tk y, asg u v ρ = some ρ' → SR X.W φ1 H1 h1 → Stp [] φ s.heap φ1 h1 → Rep X.W.scr φ1 h1 v y → PostO X.W env ns own φ s Q (.next ρ' H1) → Q1 y { s with heap := h1, toks := tk }) → PostV X.W φ s Q1 (evalE C (.comp loc.length elt t it cs) ρ H) := by
    intro Q1 hq
    cases hv : evalE C (.comp loc.length elt t it cs) ρ H with
    | stuck => rw [hv] at p; exact p.elim
    | ok v H1 =>
      rw [hv] at p
      intro φ1 h1 tk y R1 S1 r1
      change PostO X.W env ns own φ s Q (match asg u v ρ with | some ρ' => .next ρ' H1 | none => .stuck) at p
      cases ha : asg u v ρ with
      | none => rw [ha] at p; exact p.elim
      | some ρ' => rw [ha] at p; exact hq v ρ' H1 φ1 h1 tk y ha R1 S1 r1 p
  have hsw : ∃ b, swapsWith (.ListComp e [⟨tg, iter, ifs, 0⟩] cs' cpos) (some (.Name y py)) pos.line env = pure b := ⟨_, rfl⟩
  obtain ⟨b, hsw⟩ := hsw
  cases b with
  | false =>
    refine wpAny_Assign_stores (hev A env ρ φ H s _ Ex rm kd F R (key fun v ρ' H1 φ1 h1 tk y' ha R1 S1 r1 p1 => ?_)) hsw rfl
    show wpAny X.M A (assign (.Name y py) env y') (fun _ => Q .next) Ex { s with heap := h1, toks := tk }
    refine asg_snd (own := own) u (.Name y py) v y' A ρ ρ' φ1 H1 { s with heap := h1, toks := tk } _ _ hu (fun x hx => hown.1 x (tNames_sub u _ hu x hx)) rm (F.mono0 S1) R1 r1 ha fun h2 tk2 R2 F2 S2 => ?_
    exact p1 φ1 h2 tk2 R2 F2 (S1.nil.trans S2)
  | true =>
    rw [exec_Assign_Name_used _ _ _ _ hsw]
    refine wpAny_bind (wpAny_standAt (wpAny_bind ?_))
    show wpAny _ A (do let _ ← comprehension (.ListComp e [⟨tg, iter, ifs, 0⟩] cs' cpos) cs' env _ (newList []) false (eval iter env) (some (assign (.Name y py) env))) _ _ s
    refine wpAny_bind (wpAny_mono (Q := fun _ s' => Q .next s') ?_ (fun _ s' hq => wpAny_pure (wpAny_pure hq)) fun _ _ e => e)
    rw [evalE_comp0] at p
    cases e1 : evalIt C it ρ H with
    | stuck => rw [e1] at p; exact p.elim
    | ok q H1 =>
      obtain ⟨us, ws⟩ := q
      rw [e1] at p
      change PostO X.W env ns own φ s Q (Mine.R.out ρ _ ((compG ws H1 t (fun ρ H => tests C cs ρ H) (fun ρ H => evalE C elt ρ H) us (List.replicate loc.length none ++ ρ) H1 []).bind fun vs H => allocL vs H)) at p
      cases e2 : compG ws H1 t (fun ρ H => tests C cs ρ H) (fun ρ H => evalE C elt ρ H) us (List.replicate loc.length none ++ ρ) H1 [] with
      | stuck => rw [e2] at p; exact p.elim
      | ok vs H2 =>
        rw [e2] at p
        change PostO X.W env ns own φ s Q (Mine.R.out ρ _ (allocL vs H2)) at p
        unfold allocL at p
        split at p
        · rename_i hz
          have hz' : vs.length < 1000000 := by simpa [szOk] using hz
          change PostO X.W env ns own φ s Q (match asg u (.ref H2.length) ρ with | some ρ' => .next ρ' (H2 ++ [.list vs]) | none => .stuck) at p
          cases ha : asg u (.ref H2.length) ρ with
          | none => rw [ha] at p; exact p.elim
          | some ρ' =>
            rw [ha] at p
            refine comp_core c hloc ht htg hit helt hifs rm kd F R e1 e2 hz' ?_
            intro φ' h' tk D C' ys k m R2 S2 hD r hDn hDs hD0 hCn hCs hCD hC0 hm
            show wpAny X.M A (assign (.Name y py) env (.ref D)) _ _ _
            have kp : Kp φ' h' (φ' ++ [D]) h' := ⟨⟨[D], rfl⟩, fun _ _ _ e => e⟩
            have R3 := R2.adopt hDn hD0 (c := .list vs) ⟨ys, k, hD, r.kp kp, by omega⟩
            have S3 : Stp [] φ s.heap (φ' ++ [D]) h' := S2.adopt hDs
            have aliveL : ∃ o, s.heap.get? env.locals = some o := by obtain ⟨m, ⟨o, es, ep, ho, _⟩, _⟩ := F.loc; exact ⟨o, ho⟩
            refine asg_snd (own := own) u (.Name y py) (.ref H2.length) (.ref D) A ρ ρ' (φ' ++ [D]) (H2 ++ [.list vs]) { s with heap := h', toks := tk } _ _ hu (fun x hx => hown.1 x (tNames_sub u _ hu x hx)) rm (F.mono0 S3) R3 (.ref (by rw [← R2.len, List.getElem?_append_right (Nat.le_refl _)]; simp)) ha fun h4 tk4 R4 F4 S4 => ?_
            obtain ⟨o, es, ep, ho, hd, hrest⟩ := id hm
            have hCown : C' ∉ own := fun hmem => by
              obtain ⟨o, ho⟩ := hown.alive F C' hmem
              rw [hCs] at ho; cases ho
            have hCn' : C' ∉ φ' ++ [D] := fun hmem => by
              rcases List.mem_append.mp hmem with h | h
              · exact hCn h
              · exact hCD (List.mem_singleton.mp h)
            have hm4 : h4.Ns C' m := Ns_at hm fun o e => S4.keep _ _ e hCn' hCown
            refine ⟨m, hm4, fun h5 hs5 => ?_⟩
            replace hs5 : Heap.SameBut C' h4 h5 := hs5
            obtain ⟨o4, es4, ep4, ho4, hd4, _⟩ := hm4
            have FI : Fin [C'] h4 h5 := ⟨fun a o hb e => hs5.extBut a o (by simpa using hb) e, fun a ha o' e => by rw [List.mem_singleton.mp ha, ho4] at e; cases e; exact notTup_dict hd4⟩
            have R5 := R4.fin (io := [C']) (fun a ha => by rw [List.mem_singleton.mp ha]; exact ⟨hCn', hC0⟩) FI
            have S5 : Stp own φ s.heap (φ' ++ [D]) h5 := (S3.nil.trans S4).fin FI (fun a ha => by rw [List.mem_singleton.mp ha]; exact hCs)
            have hCL : C' ≠ env.locals := fun e => by obtain ⟨o, ho⟩ := aliveL; rw [← e, hCs] at ho; cases ho
            have F5 := F4.fin FI (fun hm => hCL (List.mem_singleton.mp hm).symm) (fun p hp hm => by
              obtain ⟨_, o, ho⟩ := F.alive p hp
              rw [List.mem_singleton.mp hm, hCs] at ho; cases ho)
            exact p _ h5 tk4 R5 F5 S5
        · exact p.elim
end
end Mine

end
section
set_option autoImplicit false
set_option linter.unusedVariables false
set_option linter.unusedSimpArgs false
namespace Mine
open PySem PySem.Calls PyProof.Rows

section
variable {X : Fix} {C : Ctx} {A : Around} {n : Nat} {Ex : Value → Shared → Prop} {s : Shared} {φ : List Addr} {H : Hp} {sc : Scope} {ns : List Str} {env : Env} {ρ : Env'}

theorem cmp2_snd {a b c : E} {o1 o2 : COp} {p1 p2 : CmpOp} {l r1 r2 : Expr} {pos : Pos} (G : X.Gl C) (h1 : copOk o1 p1 = true) (h2 : copOk o2 p2 = true) (hr0 : chkE X.K sc ns c r2 = true)
    (ha : EvS X C n sc ns a l) (hb : EvS X C n sc ns b r1) (hc : EvS X C n sc ns c r2) :
    EvS X C n sc ns (.cmp2 a o1 b o2 c) (.Compare l [p1, p2] [r1, r2] pos) ∧ TrS X C n sc ns (.cmp2 a o1 b o2 c) (.Compare l [p1, p2] [r1, r2] pos) := by
  have hm : lastMarks [p1, p2] [r1, r2] = false := by
    show behindInMarks p2 r2 = false
    exact noMarks hr0 p2
  have parts : ∀ {ρ : Env'} {H : Hp} {r : R V}, evalE C (.cmp2 a o1 b o2 c) ρ H = r → (∀ v H1, r = .ok v H1 → ∃ t, v = .bool t) := by
    intro ρ H r e v H1 hr
    subst hr
    rw [evalE_cmp2] at e
    cases e1 : evalE C a ρ H with
    | stuck => rw [e1] at e; cases e
    | ok x G1 =>
      rw [e1] at e
      change (evalE C b ρ G1).bind _ = _ at e
      cases e2 : evalE C b ρ G1 with
      | stuck => rw [e2] at e; cases e
      | ok y G2 =>
        rw [e2] at e
        change (ofOpt G2 (cmpV C.scr o1 x y G2)).bind _ = _ at e
        cases e3 : cmpV C.scr o1 x y G2 with
        | none => rw [e3] at e; cases e
        | some t =>
          rw [e3] at e
          cases t with
          | false => cases e; exact ⟨_, rfl⟩
          | true =>
            change (evalE C c ρ G2).bind _ = _ at e
            cases e4 : evalE C c ρ G2 with
            | stuck => rw [e4] at e; cases e
            | ok z G3 =>
              rw [e4] at e
              change (ofOpt G3 (cmpV C.scr o2 y z G3)).bind _ = _ at e
              cases e5 : cmpV C.scr o2 y z G3 with
              | none => rw [e5] at e; cases e
              | some t => rw [e5] at e; cases e; exact ⟨_, rfl⟩
  have ev : ∀ (A : Around) (env : Env) (ρ : Env') (φ : List Addr) (H : Hp) (s : Shared) (Q : Bool → Shared → Prop) (Ex : Value → Shared → Prop), Room A n → Kinds sc env → FR X.W env ns ρ φ s.heap → SR X.W φ H s.heap →
      PostB X.W φ s Q ((evalE C (.cmp2 a o1 b o2 c) ρ H).bind fun x H => ofOpt H (truthy C.scr H x)) →
      wpAny X.M A (eval l env) (fun x s₁ => wpAny X.M A (eval r1 env) (fun y s₂ => wpAny X.M A (compareOp p1 x y) (fun cv s₃ => wpAny X.M A (PySem.truthy cv) (fun t s₄ => if t then
        wpAny X.M A (eval r2 env) (fun z s₅ => wpAny X.M A (compareOp p2 y z) (fun w s₆ => ∃ t', w = .bool t' ∧ Q t' s₆) Ex s₅) Ex s₄ else cv = .bool false ∧ Q false s₄) Ex s₃) Ex s₂) Ex s₁) Ex s := by
    intro A env ρ φ H s Q Ex rm kd F R p
    rw [evalE_cmp2] at p
    refine ha A env ρ φ H s _ Ex rm kd F R ?_
    cases e1 : evalE C a ρ H with
    | stuck => rw [e1] at p; exact p.elim
    | ok v H1 =>
      rw [e1] at p
      intro φ1 h1' tk1 x R1 S1 rx
      refine hb A env ρ φ1 H1 { s with heap := h1', toks := tk1 } _ Ex rm kd (F.mono0 S1) R1 ?_
      change PostB X.W φ s Q (((evalE C b ρ H1).bind _).bind _) at p
      cases e2 : evalE C b ρ H1 with
      | stuck => rw [e2] at p; exact p.elim
      | ok u H2 =>
        rw [e2] at p
        intro φ2 h2' tk2 y R2 S2 ry
        change PostB X.W φ s Q (((ofOpt H2 (cmpV C.scr o1 v u H2)).bind _).bind _) at p
        cases e3 : cmpV C.scr o1 v u H2 with
        | none => rw [e3] at p; exact p.elim
        | some t =>
          rw [e3] at p
          refine cmp_snd (s := { s with heap := h2', toks := tk2 }) G R2 rm h1 (rx.mono S2) ry e3 fun tk3 => wpAny_truthy_bool ?_
          cases t with
          | false => exact ⟨rfl, p φ2 h2' tk3 R2 (S1.trans S2)⟩
          | true =>
            refine hc A env ρ φ2 H2 { s with heap := h2', toks := tk3 } _ Ex rm kd ((F.mono0 S1).mono0 S2) R2 ?_
            change PostB X.W φ s Q (((evalE C c ρ H2).bind _).bind _) at p
            cases e4 : evalE C c ρ H2 with
            | stuck => rw [e4] at p; exact p.elim
            | ok w H3 =>
              rw [e4] at p
              intro φ3 h3' tk4 z R3 S3 rz
              change PostB X.W φ s Q (((ofOpt H3 (cmpV C.scr o2 u w H3)).bind _).bind _) at p
              cases e5 : cmpV C.scr o2 u w H3 with
              | none => rw [e5] at p; exact p.elim
              | some t =>
                rw [e5] at p
                exact cmp_snd (s := { s with heap := h3', toks := tk4 }) G R3 rm h2 (ry.mono S3) rz e5 fun tk5 => ⟨t, rfl, p φ3 h3' tk5 R3 ((S1.trans S2).trans S3)⟩
  constructor
  · intro A env ρ φ H s Q Ex rm kd F R p
    refine Compare_chain (wpAny_mono (ev A env ρ φ H s (fun t s' => Q (.bool t) s') Ex rm kd F R ?_) (fun x s₁ h => chain_link (wpAny_mono h (fun y s₂ h => wpAny_mono h (fun cv s₃ h => wpAny_mono h (fun t s₄ h => ?_) fun _ _ e => e) fun _ _ e => e) fun _ _ e => e)) fun _ _ e => e) hm
    · cases hr : evalE C (.cmp2 a o1 b o2 c) ρ H with
      | stuck => rw [hr] at p; exact p.elim
      | ok v H1 =>
        obtain ⟨t, rfl⟩ := parts hr v H1 rfl
        rw [hr] at p
        exact fun φ' h' tk R' S' => p φ' h' tk _ R' S' (.bool _)
    · cases t with
      | false => obtain ⟨e0, hh⟩ := h; rw [e0]; exact hh
      | true => exact chain_last (wpAny_mono h (fun z s₅ h => wpAny_mono h (fun w s₆ h => by obtain ⟨t', rfl, h⟩ := h; exact h) fun _ _ e => e) fun _ _ e => e)
  · intro A env ρ φ H s Q Ex rm kd F R p
    refine isTrue_chain (wpAny_mono (ev A env ρ φ H s Q Ex rm kd F R p) (fun x s₁ h => test_link (wpAny_mono h (fun y s₂ h => wpAny_mono h (fun cv s₃ h => wpAny_mono h (fun t s₄ h => ?_) fun _ _ e => e) fun _ _ e => e) fun _ _ e => e)) fun _ _ e => e) hm
    cases t with
    | false => exact h.2
    | true => exact test_last (wpAny_mono h (fun z s₅ h => wpAny_mono h (fun w s₆ h => by obtain ⟨t', rfl, h⟩ := h; exact wpAny_truthy_bool h) fun _ _ e => e) fun _ _ e => e)

theorem low_of (G : X.Gl C) (R : SR X.W φ H s.heap) : (s.heap.objs.size == sysModules) = false := by
  obtain ⟨o, ho⟩ := G.1.low
  have := Heap.lt_size (R.keep _ _ ho)
  rw [beq_eq_false_iff_ne]
  intro e
  rw [e] at this
  exact absurd this (by decide)
/-- a cell of a list changed -/
theorem setList {l : Nat} {a : Addr} {vs ws : List V} {xs ys : List Value} {k k' : Nat} {h' : Heap} (R : SR X.W φ H s.heap) (ha : φ[l]? = some a) (h1 : s.heap.get? a = some (lstObj xs k)) (hs : Heap.ExtBut a s.heap h') (h2 : h'.get? a = some (lstObj ys k'))
    (r : RepL X.W.scr φ s.heap ws ys) (hz : ws.length ≤ 1000000) : SR X.W φ (H.set l (.list ws)) h' ∧ Stp [] φ s.heap φ h' := by
  have hn : NotTup (lstObj xs k) := notTup_cls (by simp)
  have S : Stp [] φ s.heap φ h' := .but (.inr (List.mem_of_getElem? ha)) h1 hn h2 hs
  exact ⟨R.set ha hs ⟨ys, k', h2, r.mono S, hz⟩, S⟩

theorem base_of {o : Expr} (h : isNameE o = true) (x : Str) (env : Env) : attributeBase o x env (eval o env) = eval o env :=
  Expr.Name.elim (motive_1 := fun o => attributeBase o x env (eval o env) = eval o env) o (of_decide_eq_true h) fun _ _ => rfl
theorem few_of {es : List Expr} {cs : List E} {pos : Pos} (h : LsS X C n sc ns cs es) (hl : es.length < 20) (env : Env) : ((backTo pos (starEach es env)).all (fun x => !x.1) && (backToKw pos (keywordEach [] env)).all (fun x => x.1.isSome)
      && decide (es.length + ([] : List Keyword).length + (if ([] : List Keyword).isEmpty then 0 else 1) < 30)) = true := by
  have h1 := h.plain env pos
  have h2 : (backTo pos (starEach es env)).all (fun x => !x.1) = true := by
    rw [List.all_eq_true]
    intro x hx
    have := List.any_eq_false.mp h1 x hx
    simpa using this
  rw [h2]
  simp [backToKw, keywordEach]
  omega

theorem kind_append {v : V} {H : Hp} {x : Value} {h : Heap} (R : SR X.W φ H h) (r : Rep X.W.scr φ h v x) (hk : meKind .append H v = true) : ∃ l ad ys k, v = .ref l ∧ x = .ref ad ∧ φ[l]? = some ad ∧ h.get? ad = some (lstObj ys k) := by
  cases v <;> first | exact Bool.noConfusion hk | skip
  rename_i l
  replace hk : isListB H (.ref l) = true := hk
  simp only [isListB] at hk
  split at hk <;> first | exact Bool.noConfusion hk | skip
  rename_i us1 hl1
  obtain ⟨ad, rfl, had⟩ := refAt r
  obtain ⟨b, hb, ys, k, q, _⟩ := R.cell l _ hl1
  rw [had] at hb; cases hb
  exact ⟨l, ad, ys, k, rfl, rfl, had, q⟩
theorem append_snd {a c : E} {o e : Expr} {ap pos : Pos} (ho : isNameE o = true) (hline : (ap.endLine == pos.line) = true) (ha : EvS X C n sc ns a o) (h : LsS X C n sc ns [c] [e]) : EvS X C n sc ns (.meth .append a [c]) (.Call (.Attribute o "append" ap) [e] [] pos) := by
  intro A env ρ φ H s Q Ex rm kd F R p
  rw [evalE_meth] at p
  refine wpAny_Call_method (base_of ho _ env) (few_of h (by simp) env) hline PySem.F.plainAttrs_list PySem.F.slot_list_append PySem.F.type_list_append (ha A env ρ φ H s _ Ex rm kd F R (bindV p fun v H1 p => ?_))
  obtain ⟨hkind, p⟩ := if_post p
  intro φ1 h1 tk x R1 S1 r1
  obtain ⟨l, ad, ys1, k1, rfl, rfl, had, hq1⟩ := kind_append R1 r1 hkind
  refine ⟨⟨_, hq1, rfl⟩, fun a' e => by cases e; exact ⟨_, hq1, rfl⟩, ?_⟩
  refine Calls.callWith_builtin (h.plain env pos) (evalArgs_of (h.plain env pos) (h.spl A env ρ φ1 H1 { s with heap := h1, toks := tk } _ Ex pos rm kd (F.mono0 S1) R1 (bindL (PostV.step p S1) fun us H2 p => ?_)))
  obtain ⟨l', xs, e0, hl2, p⟩ := onL_post (H := H2) (v := .ref l) (f := fun xs => bi1 us fun v => if szOk xs then .ok .none (H2.set l (.list (xs ++ [v]))) else .stuck) p
  cases e0
  obtain ⟨u, rfl, p⟩ := bi1_post p
  obtain ⟨hz, p⟩ := if_post p
  have hz' : xs.length < 1000000 := by simpa [szOk] using hz
  intro φ2 h2 tk2 zs R2 S2 r2
  cases r2 with
  | cons rz r2 =>
    cases r2
    obtain ⟨ad', ys, k, e', had2, q1, q2, q3⟩ := listAt (s := { s with heap := h2, toks := tk2 }) R2 (Rep.mono S2 (Rep.ref had)) hl2
    cases e'
    rename_i z
    have := q2.length
    refine wpAny_list_append_plain (s := { s with heap := h2, toks := tk2 }) (items := ys.toArray) ⟨k, q1⟩ (fun h3 hp3 hs3 => ?_) (by simp; unfold sizeLine; omega)
    obtain ⟨k3, hp3⟩ := hp3
    have hp3' : h3.get? ad = some (lstObj (ys ++ [z]) k3) := by rw [hp3]; simp
    obtain ⟨R3, S3⟩ := setList (s := { s with heap := h2, toks := tk2 }) (vs := xs) R2 had2 q1 hs3.extBut hp3' (q2.append (.one rz)) (by simp; omega)
    exact p φ2 h3 tk2 _ R3 (S2.trans S3) .none

/-- list(x) of a list, a tuple, a table -/
theorem listOf_snd {a : E} {e : Expr} {np pos : Pos} (G : X.Gl C) (hx : okGlob sc "list" = true) (h0 : chkE X.K sc ns a e = true) (ha : EvS X C n sc ns a e) : EvS X C n sc ns (.listOf a) (.Call (.Name "list" np) [e] [] pos) := by
  intro A env ρ φ H s Q Ex rm kd F R p
  have hpl : (backTo pos (starEach [e] env)).any (·.1) = false := by rw [notStarred h0 env]; rfl
  refine wpAny_Call_NameR (glob_bi G kd F R (v := .type "list") (bi_mem 5 (by decide)) hx ?_)
  refine PySem.callWith_type hpl (evalArgs_of hpl ?_)
  refine wpAny_items_cons (ha A env ρ φ H s _ Ex rm kd F R ?_) (notStarred h0 env _)
  rw [evalE_listOf_of] at p
  cases hv : evalE C a ρ H with
  | stuck => rw [hv] at p; exact p.elim
  | ok v H1 =>
    rw [hv] at p
    change PostV X.W φ s Q ((ofOpt H1 (itemsOf C.scr H1 v)).bind fun vs H => allocL vs H) at p
    cases hi : itemsOf C.scr H1 v with
    | none => rw [hi] at p; exact p.elim
    | some us =>
      rw [hi] at p
      change PostV X.W φ s Q (allocL us H1) at p
      intro φ1 h1 tk x R1 S1 r1
      refine wpAny_items_nil ?_
      have fr := fresh_at (b := h1.objs.size) R1 S1 (Nat.le_refl _)
      unfold allocL at p
      split at p
      · rename_i hz
        have hz' : us.length < 1000000 := by simpa [szOk] using hz
        have fin : ∀ {h2 : Heap} {tk2 c' : Nat} {xs : List Value}, (∀ b o', h1.get? b = some o' → h2.get? b = some o') → h2.get? h1.objs.size = some (lstObj xs c') → RepL X.W.scr φ1 h1 us xs → Q (.ref h1.objs.size) { s with heap := h2, toks := tk2 } := by
          intro h2 tk2 c' xs w1 w2 q1
          have R2 : SR X.W φ1 H1 h2 := R1.ext w1
          have S2 : Stp [] φ s.heap φ1 h2 := S1.trans (.ext w1)
          have kp : Kp φ1 h1 (φ1 ++ [h1.objs.size]) h2 := ⟨⟨_, rfl⟩, fun b xs n e => w1 b _ e⟩
          refine p (φ1 ++ [h1.objs.size]) h2 tk2 _ (R2.adopt (c := .list us) fr.1 fr.2.2 ⟨xs, c', w2, q1.kp kp, by omega⟩) (S2.adopt fr.2.1) (.ref ?_)
          rw [← R2.len, List.getElem?_append_right (Nat.le_refl _)]; simp
        obtain ⟨ad, xs, rfl, q1, q2, q3⟩ := items_at (s := { s with heap := h1, toks := tk }) G R1 r1 hi
        have hlen := q1.length
        have key : ∃ T o k, (T = "list" ∨ T = "tuple") ∧ h1.get? ad = some o ∧ o.cls = .type T ∧ o.data = .seq xs.toArray k := by
          rcases q3 with ⟨⟨o, w1, w2, k, w3⟩, _⟩ | ⟨⟨o, w1, w2, k, w3⟩, _⟩
          · exact ⟨_, o, k, .inr rfl, w1, w2, w3⟩
          · exact ⟨_, o, k, .inl rfl, w1, w2, w3⟩
        obtain ⟨T, o, k, t1, t2, t3, t4⟩ := key
        exact call_list_seq (s := { s with heap := h1, toks := tk }) ad t1 t2 t3 t4 (fun h2 c' w1 w2 => fin w1 w2 q1) (by simp; unfold sizeLine; omega)
      · exact p.elim

end
end Mine

end
section
set_option autoImplicit false
set_option linter.unusedVariables false
set_option linter.unusedSimpArgs false
namespace Mine
open PySem PySem.Calls PyProof.Rows

section
variable {X : Fix} {C : Ctx} {A : Around} {n : Nat} {Ex : Value → Shared → Prop} {s : Shared} {φ : List Addr} {H : Hp} {sc : Scope} {ns : List Str} {env : Env} {ρ : Env'}

theorem allInts_map : ∀ {vs : List V} {is : List Int}, allInts vs = some is → vs = is.map .int
  | [], is, h => by cases h; rfl
  | .int i :: r, is, h => by
    rw [allInts] at h
    obtain ⟨js, h1, rfl⟩ := Option.map_eq_some_iff.mp h
    rw [List.map_cons, ← allInts_map h1]
  | .none :: r, is, h => by simp [allInts] at h
  | .bool _ :: r, is, h => by simp [allInts] at h
  | .tup _ :: r, is, h => by simp [allInts] at h
  | .ref _ :: r, is, h => by simp [allInts] at h
  | .script :: r, is, h => by simp [allInts] at h
theorem intsAre_of {scr : Addr} {h : Heap} : ∀ {is : List Int} {xs : List Value}, RepL scr φ h (is.map .int) xs → IntsAre xs is
  | [], _, .nil => .nil
  | i :: is, _, .cons r1 r2 => by cases r1; exact .cons _ _ (intsAre_of r2)

end
end Mine

end
section
set_option autoImplicit false
set_option linter.unusedVariables false
set_option linter.unusedSimpArgs false
namespace Mine
open PySem PySem.Calls PyProof.Rows

theorem slice_bounds (lo hi : Option Int) (n : Nat) : sliceBounds lo hi none n = (((sliceEnd n 0 lo : Nat) : Int), ((sliceEnd n n hi : Nat) : Int), 1) := by
  unfold sliceBounds sliceEnd
  simp only [Option.getD_none]
  have h1 : (1 : Int) > 0 := by decide
  simp only [h1, if_true]
  congr 1
  · cases lo with
    | none => simp
    | some k => dsimp only; split <;> omega
  · congr 1
    cases hi with
    | none => simp
    | some k => dsimp only; split <;> omega
theorem slicePick_eq (xs : List Value) (lo hi : Option Int) : slicePick xs.toArray lo hi none = (pySlice xs lo hi).toArray := by
  unfold slicePick pySlice
  rw [List.size_toArray, slice_bounds]
  dsimp only
  rw [sliceRange_one, pick_run, List.drop_take]
theorem RepL.slice {scr : Addr} {φ : List Addr} {h : Heap} {vs : List V} {xs : List Value} (r : RepL scr φ h vs xs) (lo hi : Option Int) : RepL scr φ h (pySlice vs lo hi) (pySlice xs lo hi) := by
  unfold pySlice
  rw [r.length]
  exact (r.take _).drop _

theorem slice_adjust (lo hi : Option Int) (n : Nat) : Builtin.Slice.sliceAdjust lo hi 1 (n : Int) = (((sliceEnd n 0 lo : Nat) : Int), ((sliceEnd n n hi : Nat) : Int)) := by
  unfold Builtin.Slice.sliceAdjust sliceEnd
  have h1 : ¬ ((1 : Int) < 0) := by omega
  simp only [h1, if_false]
  congr 1
  · cases lo with
    | none => simp
    | some k => dsimp only; split <;> omega
  · cases hi with
    | none => simp
    | some k => dsimp only; split <;> omega
theorem slice_places (a b : Nat) : Builtin.Slice.slicePlaces (a : Int) (b : Int) 1 = b - a := by
  unfold Builtin.Slice.slicePlaces
  have h1 : (1 : Int) > 0 := by omega
  simp only [h1, if_true, Int.ediv_one]
  split <;> omega
theorem sliceEnd_le (n d : Nat) (hd : d ≤ n) (k : Option Int) : sliceEnd n d k ≤ n := by
  unfold sliceEnd
  cases k with
  | none => exact hd
  | some k => dsimp only; split <;> omega

section
variable {X : Fix} {C : Ctx} {A : Around} {n : Nat} {Ex : Value → Shared → Prop} {s : Shared} {φ : List Addr} {H : Hp} {sc : Scope} {ns : List Str} {env : Env} {ρ : Env'}

theorem slicePart_of {v : Value} {k : Option Int} {Q : Option Int → Shared → Prop} (hv : IsPart v k) (h : Q k s) : wpAny X.M A (Builtin.Slice.slicePartIndex v) Q Ex s := by
  cases hv with
  | none => exact slicePart_none h
  | int i t => exact slicePart_int h

/-- t[lo:hi] of a tuple: itself when it is whole, or a new one -/
theorem getItem_tuple_slice {t sl : Addr} {xs : List Value} {vl vu : Value} {lo hi : Option Int} {Q : Value → Shared → Prop} (ht : IsTup s.heap t xs.toArray) (hs : s.heap.IsSliceOf sl vl vu .none) (pl : IsPart vl lo) (pu : IsPart vu hi) (hz : xs.length ≤ 1000000)
    (h1 : pySlice xs lo hi = xs → Q (.ref t) s)
    (h2 : Q (.ref s.heap.objs.size) { s with heap := s.heap.push { cls := .type "tuple", data := .seq (pySlice xs lo hi).toArray } }) : wpAny X.M A (getItem (.ref t) (.ref sl)) Q Ex s := by
  have hsz : sizeOk (.seq (pySlice xs lo hi).toArray) := by
    show (pySlice xs lo hi).toArray.size ≤ sizeLine
    rw [List.size_toArray]
    unfold pySlice sizeLine
    rw [List.length_drop, List.length_take]
    omega
  obtain ⟨os, hos, hcs, hds⟩ := id hs
  have hTs : s.TypeIs (.ref sl) "slice" := ⟨os, hos, hcs⟩
  unfold getItem
  try with_reducible refine wpAny_holding ?_
  first | refine wpAny_bind (wpAny_pure ?_) | skip
  refine wpAny_bind (wpAny_sequenceKey ht.typeIs (by decide) ?_)
  refine wpAny_bind (wpAny_callSpecial?_slot (name := Str.ofString "__getitem__") ht.typeIs slot_tuple_getitem
    (wpAny_call_entry slot_tuple_getitem ht.typeIs entry_tuple_getitem ?_ (args_tuple_getitem _ _)))
  show wpAny _ _ (Builtin.Tuple.tupleItemsOf (.ref t) >>= _) _ _ s
  refine wpAny_bind (tupleItemsOf_ ht ?_)
  refine wpAny_bind (wpAny_typeOf hTs ?_)
  rw [if_pos (by decide)]
  refine wpAny_bind ?_
  unfold Builtin.Slice.sliceApplied Builtin.Slice.sliceFields
  refine wpAny_bind (wpAny_bind (wpAny_field hos hds (x := vl) rfl (wpAny_bind (wpAny_field hos hds (x := vu) rfl (wpAny_bind (wpAny_field hos hds (x := .none) rfl (wpAny_pure ?_)))))))
  refine wpAny_bind (slicePart_none ?_)
  show wpAny _ _ (if ((1 : Int) == 0) = true then _ else _) _ _ s
  rw [if_neg (by decide)]
  refine wpAny_bind (slicePart_of pl (wpAny_bind (slicePart_of pu (wpAny_bind (wpAny_pure ?_)))))
  show wpAny _ _ (match Builtin.Slice.sliceAdjust lo hi 1 ((xs.toArray.size : Nat) : Int) with | (lo, hi) => pure (lo, (1 : Int), Builtin.Slice.slicePlaces lo hi 1)) _ _ s
  rw [List.size_toArray, slice_adjust]
  show wpAny _ _ (pure (((sliceEnd xs.length 0 lo : Nat) : Int), (1 : Int), Builtin.Slice.slicePlaces ((sliceEnd xs.length 0 lo : Nat) : Int) ((sliceEnd xs.length xs.length hi : Nat) : Int) 1)) _ _ s
  rw [slice_places]
  refine wpAny_pure ?_
  generalize ha : sliceEnd xs.length 0 lo = a
  generalize hb : sliceEnd xs.length xs.length hi = b
  have hal : a ≤ xs.length := by rw [← ha]; exact sliceEnd_le _ _ (Nat.zero_le _) _
  have hbl : b ≤ xs.length := by rw [← hb]; exact sliceEnd_le _ _ (Nat.le_refl _) _
  have hpick : ((List.range (b - a)).filterMap fun (k : Nat) => xs.toArray[((a : Int) + (k : Int) * 1).toNat]?).toArray = (pySlice xs lo hi).toArray := by
    have e : (fun (k : Nat) => xs.toArray[((a : Int) + (k : Int) * 1).toNat]?) = fun k => xs.toArray[a + k]? := by
      funext k
      have : ((a : Int) + (k : Int) * 1).toNat = a + k := by omega
      rw [this]
    rw [e]
    have := pick_run xs.toArray a (b - a)
    rw [List.filterMap_map] at this
    have e2 : ((fun x => xs.toArray[x]?) ∘ fun x => a + x) = fun k => xs.toArray[a + k]? := rfl
    rw [e2] at this
    rw [this]
    unfold pySlice
    rw [ha, hb, List.drop_take]
  show wpAny _ _ (if ((a : Int) == 0 && (1 : Int) == 1 && (b - a) == xs.toArray.size) = true then _ else _) _ _ s
  by_cases hw : ((a : Int) == 0 && (1 : Int) == 1 && (b - a) == xs.toArray.size) = true
  · rw [if_pos hw]
    simp at hw
    have : pySlice xs lo hi = xs := by
      unfold pySlice
      rw [ha, hb]
      have h3 : a = 0 := by omega
      have h4 : b = xs.length := by omega
      rw [h3, h4]; simp
    refine wpAny_bind ?_
    unfold Builtin.Tuple.tupleIsExact
    refine wpAny_bind (wpAny_typeOf ht.typeIs (wpAny_pure ?_))
    rw [if_pos (by decide)]
    refine wpAny_bind (wpAny_rule ?_)
    exact wpAny_bind (wpAny_pure (wpAny_pure ⟨_, rfl, wpAny_pure (h1 this)⟩))
  · rw [if_neg hw, hpick]
    first
      | exact wpAny_bind (m := Builtin.Tuple.tupleExact _) (wpAny_newObj_type (wpAny_pure ⟨_, rfl, wpAny_pure h2⟩) hsz)
      | exact wpAny_bind (m := Builtin.Tuple.tupleExact _) (wpAny_newObj_type (wpAny_bind (wpAny_pure (wpAny_pure ⟨_, rfl, wpAny_pure h2⟩))) hsz)
      | exact wpAny_bind (wpAny_bind (m := Builtin.Tuple.tupleExact _) (wpAny_newObj_type (wpAny_pure (wpAny_pure ⟨_, rfl, wpAny_pure h2⟩)) hsz))
      | exact wpAny_bind (wpAny_bind (m := Builtin.Tuple.tupleExact _) (wpAny_newObj_type (wpAny_pure ⟨_, rfl, wpAny_pure h2⟩) hsz))

/-- a part of a slice: an int, or none -/
theorem part_snd {lo : Option E} {l : Option Expr} (h : chkO X.K sc ns lo l = true) (he : ∀ c e, lo = some c → l = some e → EvS X C n sc ns c e) (A : Around) (env : Env) (ρ : Env') (φ : List Addr) (H : Hp) (s : Shared) (Q : Value → Shared → Prop) (Ex : Value → Shared → Prop)
    (rm : Room A n) (kd : Kinds sc env) (F : FR X.W env ns ρ φ s.heap) (R : SR X.W φ H s.heap) (p : PostV X.W φ s Q (evalO C lo ρ H)) : wpAny X.M A (evalPart l env) Q Ex s := by
  cases lo with
  | none =>
    cases l with
    | none =>
      rw [evalPart_none]
      rw [evalO_none] at p
      exact wpAny_pure (p.now R .none s.toks)
    | some e => cases h
  | some c =>
    cases l with
    | none => cases h
    | some e =>
      rw [evalPart_some]
      rw [evalO_some] at p
      exact he c e rfl rfl A env ρ φ H s Q Ex rm kd F R p
theorem partOf_spec {v : V} {x : Value} {k : Option Int} {scr : Addr} {h : Heap} (r : Rep scr φ h v x) (e : partOf v = some k) : IsPart x k := by
  cases v <;> simp [partOf] at e
  · subst e; cases r; exact .none
  · obtain ⟨_, rfl⟩ := e; cases r; exact .int _ _

theorem slc_snd {a : E} {lo hi : Option E} {v : Expr} {l u : Option Expr} {p0 pos : Pos} (G : X.Gl C) (ha : EvS X C n sc ns a v) (hl : chkO X.K sc ns lo l = true) (hu : chkO X.K sc ns hi u = true)
    (hle : ∀ c e, lo = some c → l = some e → EvS X C n sc ns c e) (hue : ∀ c e, hi = some c → u = some e → EvS X C n sc ns c e) : EvS X C n sc ns (.slc a lo hi) (.Subscript v (.Slice l u none p0) pos) := by
  intro A env ρ φ H s Q Ex rm kd F R p
  rw [evalE_slc] at p
  refine Subscript_ (ha A env ρ φ H s _ Ex rm kd F R (bindV p fun x H1 p1 => ?_))
  intro φ1 h1 tk1 y R1 S1 r1
  refine wpAny_Slice (part_snd hl hle A env ρ φ1 H1 { s with heap := h1, toks := tk1 } _ Ex rm kd (F.mono0 S1) R1 (bindV (p1.step S1) fun lv H2 p2 => ?_))
  intro φ2 h2 tk2 z R2 S2 r2
  refine part_snd hu hue A env ρ φ2 H2 { s with heap := h2, toks := tk2 } _ Ex rm kd ((F.mono0 S1).mono0 S2) R2 (bindV (p2.step S2) fun hv H3 p3 => ?_)
  intro φ3 h3 tk3 w R3 S3 r3
  rw [evalPart_none]
  refine wpAny_pure ?_
  have rx := (r1.mono S2).mono S3
  unfold slcV at p3
  cases hp1 : partOf lv with
  | none => rw [hp1] at p3; exact p3.elim
  | some k1 =>
    cases hp2 : partOf hv with
    | none => rw [hp1, hp2] at p3; exact p3.elim
    | some k2 =>
      rw [hp1, hp2] at p3
      dsimp only at p3
      have q1 := partOf_spec (r2.mono S3) hp1
      have q2 := partOf_spec r3 hp2
      let oS : Obj := { cls := .type "slice", data := .fields #[z, w, .none] }
      have S4 : Stp [] φ3 h3 φ3 (h3.push oS) := .push _
      have R4 : SR X.W φ3 H3 (h3.push oS) := R3.ext fun a o e => Heap.get?_push_of_some _ e
      have sl : (h3.push oS).IsSliceOf h3.objs.size z w .none := Heap.IsSliceOf.new _ _ _ _
      have lst : ∀ {ad : Addr} {us : List V} {xs : List Value}, y = .ref ad → h3.IsList ad xs.toArray → RepL X.W.scr φ3 h3 us xs → us.length ≤ 1000000 → PostV X.W φ2 { s with heap := h2, toks := tk2 } Q (allocL (pySlice us k1 k2) H3) → wpAny X.M A (subscriptTail v (.Slice l u none p0) y (.ref h3.objs.size)) Q Ex { s with heap := h3.push oS, toks := tk3 } := by
        intro ad us xs e hL rs hz p4
        subst e
        have hL' := hL.push oS
        refine tail_any (s := { s with heap := h3.push oS, toks := tk3 }) hL'.typeIs PySem.slot_list_getitem.lookup ?_ rfl
        have hlen := rs.length
        refine wpAny_getItem_list_slice (s := { s with heap := h3.push oS, toks := tk3 }) hL' sl q1 q2 .none (by simp) ?_ (by simp; unfold sizeLine; omega)
        rw [slicePick_eq]
        unfold allocL at p4
        split at p4
        · rename_i hz2
          have hz3 : (pySlice us k1 k2).length < 1000000 := by simpa [szOk] using hz2
          exact alloc_snd (s := { s with heap := h3.push oS, toks := tk3 }) R4 ((rs.mono S4).slice k1 k2) (by omega) (PostV.step (s := { s with heap := h2, toks := tk2 }) p4 (S3.trans S4)) 0 tk3
        · exact p4.elim
      cases x with
      | tup us =>
        obtain ⟨ad, xs, k, rfl, g1, g2, g3⟩ := tupAt rx
        have g1' : (h3.push oS).get? ad = some (tupObj xs k) := Heap.get?_push_of_some _ g1
        have hT : IsTup (h3.push oS) ad xs.toArray := isTup_of g1'
        have hlen := g2.length
        refine tail_any (s := { s with heap := h3.push oS, toks := tk3 }) hT.typeIs slot_tuple_getitem.lookup ?_ rfl
        refine getItem_tuple_slice (s := { s with heap := h3.push oS, toks := tk3 }) hT sl q1 q2 (by omega) (fun e => ?_) ?_
        · have e' : pySlice us k1 k2 = us := by
            have : pySlice xs k1 k2 = xs := e
            unfold pySlice at this ⊢
            rw [hlen]
            have h5 := congrArg List.length this
            rw [List.length_drop, List.length_take] at h5
            have h6 : sliceEnd xs.length xs.length k2 ≤ xs.length := sliceEnd_le _ _ (Nat.le_refl _) _
            by_cases h7 : xs.length = 0
            · have : us = [] := List.length_eq_zero_iff.mp (hlen.trans h7)
              subst this; simp
            · have h8 : sliceEnd xs.length 0 k1 = 0 := by omega
              have h9 : sliceEnd xs.length xs.length k2 = xs.length := by omega
              rw [h8, h9, ← hlen]; simp
          dsimp only at p3
          rw [e'] at p3
          exact p3 φ3 _ tk3 _ R4 (S3.trans S4) (.tup g1' (g2.mono S4) g3)
        · have hl2 : (pySlice us k1 k2).length ≤ 1000000 := by unfold pySlice; rw [List.length_drop, List.length_take]; omega
          refine p3 φ3 _ tk3 _ (R4.ext fun a o e => Heap.get?_push_of_some _ e) ((S3.trans S4).trans (.push _)) (.tup (n := 0) (Heap.get?_push_size _ rfl) (((g2.mono S4).slice k1 k2).mono (own := []) (.push _)) hl2)
      | ref li =>
        dsimp only at p3
        split at p3
        · rename_i us hi
          obtain ⟨ad, xs, e, g1, g2, g3⟩ := items_at (s := { s with heap := h3, toks := tk3 }) G R3 rx hi
          rcases g3 with ⟨_, _, g3⟩ | ⟨g3, _⟩
          · cases g3
          · exact lst e g3 g1 g2 p3
        · exact p3.elim
      | script =>
        dsimp only at p3
        split at p3
        · rename_i us hi
          obtain ⟨ad, xs, e, g1, g2, g3⟩ := items_at (s := { s with heap := h3, toks := tk3 }) G R3 rx hi
          rcases g3 with ⟨_, _, g3⟩ | ⟨g3, _⟩
          · cases g3
          · exact lst e g3 g1 g2 p3
        · exact p3.elim
      | _ => exact p3.elim
end
end Mine

end
section
set_option autoImplicit false
set_option linter.unusedVariables false
set_option linter.unusedSimpArgs false
set_option maxRecDepth 100000
namespace Mine
open PySem PySem.Calls PyProof.Rows

noncomputable def PairAt (h : Heap) (base : Nat) (v : Value) (p : Int × Int) : Prop := ∃ (a : Addr) (t u : Tok) (n : Nat), v = .ref a ∧ a < base ∧ h.get? a = some (tupObj [.int p.1 t, .int p.2 u] n)
noncomputable def KeepB (base : Nat) (h h' : Heap) : Prop := ∀ b o, b < base → h.get? b = some o → h'.get? b = some o

section
variable {prog : Program} {w : World} {A : Around} {E : Value → Shared → Prop} {s : Shared}
theorem gt_pair {h₀ : Heap} {base : Nat} {v v' : Value} {p q : Int × Int} {Q : Value → Shared → Prop} (hk : KeepB base h₀ s.heap) (hv : PairAt h₀ base v p) (hv' : PairAt h₀ base v' q) (hu : A.units < cLine) (h : Q (.bool (gtP p q)) s) :
    wpAny (model prog w) A (richCompare .Gt v v') Q E s := by
  obtain ⟨a, t, u, n, rfl, ha, hoa⟩ := hv
  obtain ⟨b, t', u', n', rfl, hb, hob⟩ := hv'
  replace hoa := hk _ _ ha hoa
  replace hob := hk _ _ hb hob
  have hTa : s.TypeIs (.ref a) "tuple" := ⟨_, hoa, rfl⟩
  have hTb : s.TypeIs (.ref b) "tuple" := ⟨_, hob, rfl⟩
  have igt : ∀ {A : Around} {i j : Int} {t u : Tok} {Q : Value → Shared → Prop} {E : Value → Shared → Prop}, Q (.bool (decide (i > j))) s → wpAny (model prog w) A (richCompare .Gt (.int i t) (.int j u)) Q E s :=
    fun {A i j t u Q E} h => richCompare_gives (op := .Gt) (typeIs_int s _ t) (typeIs_int s _ u) PySem.F.slot_int_gt PySem.F.entry_int_gt (PySem.F.args_int_gt_2 _ _) (gives_int_gt _ _ t u) (fun x => nomatch x) h
  refine wpAny_richCompare_same_room (op := .Gt) hTa hTb PySem.F.slot_tuple_gt (wpAny_call_entry PySem.F.slot_tuple_gt hTa PySem.F.entry_tuple_gt ?_ (PySem.F.args_tuple_gt_2 _ _)) hu
  show wpAny _ _ (isInstance (.ref b) (.type "tuple") >>= _) _ _ s
  refine wpAny_bind (wpAny_isInstance hTb isSubtype_tuple_tuple ?_)
  simp only [Bool.not_true, Bool.false_eq_true, if_false]
  refine wpAny_bind (wpAny_tupleItemsOf hoa rfl ?_)
  refine wpAny_bind (wpAny_tupleItemsOf hob rfl ?_)
  show wpAny _ _ (forIn [(Value.int p.1 t, Value.int q.1 t'), (Value.int p.2 u, Value.int q.2 u')] _ _ >>= _) _ _ s
  rw [List.forIn_cons]
  refine wpAny_bind (wpAny_bind ?_)
  refine wpAny_bind (wpAny_eqBool_int ?_)
  by_cases h1 : p.1 = q.1
  · rw [beq_iff_eq.mpr h1]
    simp only [Bool.not_true, Bool.false_eq_true, if_false]
    refine wpAny_pure ?_
    dsimp only
    rw [List.forIn_cons]
    refine wpAny_bind (wpAny_bind (wpAny_eqBool_int ?_))
    by_cases h2 : p.2 = q.2
    · rw [beq_iff_eq.mpr h2]
      simp only [Bool.not_true, Bool.false_eq_true, if_false]
      refine wpAny_pure ?_
      dsimp only
      rw [List.forIn_nil]
      refine wpAny_pure (wpAny_pure ?_)
      have e : gtP p q = false := by simp [gtP, h1, h2]
      rw [e] at h
      exact ⟨_, rfl, (fun x => nomatch x), h⟩
    · have : (p.2 == q.2) = false := by simpa using h2
      rw [this]
      simp only [Bool.not_false, if_true]
      have e : gtP p q = decide (p.2 > q.2) := by simp [gtP, h1]
      rw [e] at h
      refine wpAny_bind (wpAny_rule (wpAny_bind (igt ?_)))
      exact wpAny_bind (wpAny_pure (wpAny_pure (wpAny_pure (wpAny_pure ⟨_, rfl, (fun x => nomatch x), h⟩))))
  · have : (p.1 == q.1) = false := by simpa using h1
    rw [this]
    simp only [Bool.not_false, if_true]
    have e : gtP p q = decide (p.1 > q.1) := by simp [gtP, h1]
    rw [e] at h
    refine wpAny_bind (wpAny_rule (wpAny_bind (igt ?_)))
    exact wpAny_bind (wpAny_pure (wpAny_pure (wpAny_pure (wpAny_pure ⟨_, rfl, (fun x => nomatch x), h⟩))))

theorem keepB_iter {base : Nat} {h₀ h h' : Heap} {I : Addr} (hI : base ≤ I) (hk : KeepB base h₀ h) (hs : ∀ b o, b ∉ [I] → h.get? b = some o → h'.get? b = some o) : KeepB base h₀ h' :=
  fun b o hb e => hs b o (fun hm => by have : b = I := by simpa using hm
                                       subst this; exact absurd hb (Nat.not_lt.mpr hI)) (hk b o hb e)
theorem keepB_upd {base : Nat} {h₀ h : Heap} {S : Addr} {f : Obj → Obj} (hS : base ≤ S) (hk : KeepB base h₀ h) : KeepB base h₀ (h.update S f) :=
  fun b o hb e => (Heap.get?_update_other _ _ (fun x : S = b => by subst x; exact absurd hb (Nat.not_lt.mpr hS))).trans (hk b o hb e)

/-- max of a list of pairs: the turns -/
theorem maxp_loop {R : Result → Shared → Prop} {a I S : Addr} {xs : List Value} {ps : List (Int × Int)} {h₀ : Heap} {base : Nat} (hh : A.handled = none) (hu : A.in1.units < cLine) (hI : base ≤ I) (hS : base ≤ S) (hSI : S ≠ I) (haI : a ≠ I) (haS : a ≠ S)
    (hlen : ps.length = xs.length) (hxs : ∀ (i : Nat) v p, xs[i]? = some v → ps[i]? = some p → PairAt h₀ base v p) :
    ∀ (k j : Nat) (s : Shared) (vb : Value) (m : Int × Int) (c : Nat), xs.length - j = k → j ≤ xs.length → s.heap.IsListIter I a j → s.heap.IsList a xs.toArray → KeepB base h₀ s.heap → PairAt h₀ base vb m →
    s.heap.get? S = some { cls := .type "list", dict := none, data := .seq #[vb, vb] c, slots := #[] } →
    (∀ v h' tk, PairAt h₀ base v (bestOf m (ps.drop j)) → KeepB base h₀ h' → R (.ok (.ret v)) { s with heap := h', toks := tk }) →
    codeAny (model prog w) A (.builtin "max.loop" ⟨[.ref I, .none, .ref S], []⟩) R s := by
  have hname : (toString "max" ++ toString ".loop" : String) = "max.loop" := by decide
  have W := Walks.list (prog := prog) (w := w) (A := A.in1) hh I a haI xs.toArray
  intro k
  induction k with
  | zero =>
    intro j s vb m c hk hj hit hl hkp hpb hSo hR
    have hin : j = xs.toArray.size := by simp; omega
    refine codeAny_builtin PySem.F.entry_max_loop ?_
    rw [Around.under_plainId PySem.F.plain_max_loop _]
    show wpAny _ A.in1 (seqItems? (.ref S) >>= _) _ _ s
    refine wpAny_bind (wpAny_seqItems hSo rfl ?_)
    show wpAny _ A.in1 (tryCatch (pyNext (.ref I)) _ >>= _) _ _ s
    refine wpAny_bind (wpAny_tryCatch (W.done s _ _ (hin ▸ ⟨hit, hl⟩) fun h' tk hk' => ?_))
    have hS' := hk' S _ (by simpa using hSI) hSo
    show wpAny _ A.in1 (updateSeq S (fun _ => #[]) >>= _) _ _ _
    refine wpAny_bind (wpAny_updateSeq hS' rfl (wpAny_bind (wpAny_letGo (wpAny_pure ?_))))
    have hd : ps.drop j = [] := List.drop_eq_nil_of_le (by simp at hin; omega)
    exact hR vb _ tk (by rw [hd]; exact hpb) (keepB_upd hS (keepB_iter hI hkp hk'))
  | succ k ih =>
    intro j s vb m c hk hj hit hl hkp hpb hSo hR
    have hlt : j < xs.toArray.size := by simp; omega
    have hlt' : j < ps.length := by simp at hlt; omega
    refine codeAny_builtin PySem.F.entry_max_loop ?_
    rw [Around.under_plainId PySem.F.plain_max_loop _]
    show wpAny _ A.in1 (seqItems? (.ref S) >>= _) _ _ s
    refine wpAny_bind (wpAny_seqItems hSo rfl ?_)
    show wpAny _ A.in1 (tryCatch (pyNext (.ref I)) _ >>= _) _ _ s
    refine wpAny_bind (wpAny_tryCatch (W.item j s _ _ hlt ⟨hit, hl⟩ fun v h' tk hP hst' hk' => ?_))
    have hS' := hk' S _ (by simpa using hSI) hSo
    have hkp' := keepB_iter hI hkp hk'
    have hpv : PairAt h₀ base v ps[j] := hxs j v ps[j] (by simpa using hP) (by simp [hlt'])
    have hd : ps.drop j = ps[j] :: ps.drop (j + 1) := List.drop_eq_getElem_cons hlt'
    rw [hd] at hR
    show wpAny _ A.in1 (tryCatch (holding [v, v] (richCompare .Gt v vb >>= _)) _ >>= _) _ _ _
    refine wpAny_bind (wpAny_tryCatch (wpAny_holding (wpAny_bind (gt_pair (A := A.in1) (s := { s with heap := h', toks := tk }) hkp' hpv hpb hu ?_))))
    refine wpAny_bind (wpAny_holding (wpAny_truthy_bool ?_))
    refine wpAny_bind (wpAny_letGo (wpAny_pure ?_))
    cases hb : gtP ps[j] m with
    | true =>
      have hbest : bestOf m (ps[j] :: ps.drop (j + 1)) = bestOf ps[j] (ps.drop (j + 1)) := by unfold bestOf; rw [List.foldl_cons]; simp only [hb, if_true]
      rw [hbest] at hR
      simp only [if_true]
      refine wpAny_bind (wpAny_updateSeq hS' rfl (wpAny_bind (wpAny_letGo ?_)))
      rw [hname]
      refine wpAny_pure ⟨plainId_quiet PySem.F.plain_max_loop _, ih (j + 1) _ v ps[j] _ (by simp at hlt; omega) hlt (W.frame _ _ _ hst' fun b hbf o e => ?_).1 (W.frame _ _ _ hst' fun b hbf o e => ?_).2 (keepB_upd hS hkp') hpv (Heap.get?_update_self _ hS' rfl) fun v' h'' tk'' hP' hk'' => hR v' h'' tk'' hP' hk''⟩
      · refine (Heap.get?_update_other _ _ (fun x : S = b => ?_)).trans e
        have : b = I ∨ b = a := by simpa using hbf
        rcases this with rfl | rfl
        · exact hSI x
        · exact haS x.symm
      · refine (Heap.get?_update_other _ _ (fun x : S = b => ?_)).trans e
        have : b = I ∨ b = a := by simpa using hbf
        rcases this with rfl | rfl
        · exact hSI x
        · exact haS x.symm
    | false =>
      have hbest : bestOf m (ps[j] :: ps.drop (j + 1)) = bestOf m (ps.drop (j + 1)) := by unfold bestOf; rw [List.foldl_cons]; simp only [hb, Bool.false_eq_true, if_false]
      rw [hbest] at hR
      simp only [Bool.false_eq_true, if_false]
      refine wpAny_bind (wpAny_letGo ?_)
      rw [hname]
      exact wpAny_pure ⟨plainId_quiet PySem.F.plain_max_loop _, ih (j + 1) _ vb m c (by simp at hlt; omega) hlt hst'.1 hst'.2 hkp' hpb hS' fun v' h'' tk'' hP' hk'' => hR v' h'' tk'' hP' hk''⟩

theorem maxp_first {R : Result → Shared → Prop} {a I S : Addr} {x : Value} {xs : List Value} {m : Int × Int} {ps : List (Int × Int)} {h₀ : Heap} {base c : Nat} (hh : A.handled = none) (hu : A.in1.units < cLine) (hI : base ≤ I) (hS : base ≤ S) (hSI : S ≠ I) (haI : a ≠ I) (haS : a ≠ S)
    (hlen : ps.length = xs.length) (h1 : PairAt h₀ base x m) (hxs : ∀ (i : Nat) v p, xs[i]? = some v → ps[i]? = some p → PairAt h₀ base v p) (hit : s.heap.IsListIter I a 0) (hl : s.heap.IsList a (x :: xs).toArray) (hkp : KeepB base h₀ s.heap)
    (hSo : s.heap.get? S = some { cls := .type "list", dict := none, data := .seq #[] c, slots := #[] })
    (hR : ∀ v h' tk, PairAt h₀ base v (bestOf m ps) → KeepB base h₀ h' → R (.ok (.ret v)) { s with heap := h', toks := tk }) :
    codeAny (model prog w) A (.builtin "max.loop" ⟨[.ref I, .none, .ref S], []⟩) R s := by
  have hname : (toString "max" ++ toString ".loop" : String) = "max.loop" := by decide
  have W := Walks.list (prog := prog) (w := w) (A := A.in1) hh I a haI (x :: xs).toArray
  refine codeAny_builtin PySem.F.entry_max_loop ?_
  rw [Around.under_plainId PySem.F.plain_max_loop _]
  show wpAny _ A.in1 (seqItems? (.ref S) >>= _) _ _ _
  refine wpAny_bind (wpAny_seqItems hSo rfl ?_)
  show wpAny _ A.in1 (tryCatch (pyNext (.ref I)) _ >>= _) _ _ _
  refine wpAny_bind (wpAny_tryCatch (W.item 0 _ _ _ (by simp) ⟨hit, hl⟩ fun v h' tk hP hst' hk' => ?_))
  have hS' := hk' S _ (by simpa using hSI) hSo
  have hv : v = x := by simpa using hP.symm
  subst hv
  have hk0 := keepB_iter hI hkp hk'
  show wpAny _ A.in1 (updateSeq S (fun _ => #[v, v]) >>= _) _ _ _
  refine wpAny_bind (wpAny_updateSeq hS' rfl ?_)
  rw [hname]
  refine wpAny_pure ⟨plainId_quiet PySem.F.plain_max_loop _, maxp_loop (ps := m :: ps) (xs := v :: xs) (base := base) (h₀ := h₀) hh hu hI hS hSI haI haS (by simp [hlen]) ?_ _ 1 _ v m _ rfl (by simp) (W.frame _ _ _ hst' fun b hbf o e => ?_).1 (W.frame _ _ _ hst' fun b hbf o e => ?_).2 (keepB_upd hS hk0) h1 (Heap.get?_update_self _ hS' rfl) fun v' h'' tk'' hP' hk'' => hR v' h'' tk'' (by simpa using hP') hk''⟩
  · intro i y p hy hp
    cases i with
    | zero => simp at hy hp; subst hy; subst hp; exact h1
    | succ i => simp at hy hp; exact hxs i y p hy hp
  · refine (Heap.get?_update_other _ _ (fun x : S = b => ?_)).trans e
    have : b = I ∨ b = a := by simpa using hbf
    rcases this with rfl | rfl
    · exact hSI x
    · exact haS x.symm
  · refine (Heap.get?_update_other _ _ (fun x : S = b => ?_)).trans e
    have : b = I ∨ b = a := by simpa using hbf
    rcases this with rfl | rfl
    · exact hSI x
    · exact haS x.symm

/-- max of a list of pairs -/
theorem maxp_call {Q : Value → Shared → Prop} {a : Addr} {x : Value} {xs : List Value} {m : Int × Int} {ps : List (Int × Int)} (hh : A.handled = none) (hu : A.in1.units < cLine) (hl : s.heap.IsList a (x :: xs).toArray) (hlen : ps.length = xs.length)
    (h1 : PairAt s.heap s.heap.objs.size x m) (hxs : ∀ (i : Nat) v p, xs[i]? = some v → ps[i]? = some p → PairAt s.heap s.heap.objs.size v p)
    (hQ : ∀ v h' tk, PairAt s.heap s.heap.objs.size v (bestOf m ps) → KeepB s.heap.objs.size s.heap h' → Q v { s with heap := h', toks := tk }) :
    wpAny (model prog w) A (call (.builtin "max") [.ref a]) Q E s := by
  have hname : (toString "max" ++ toString ".loop" : String) = "max.loop" := by decide
  have hlt : a < s.heap.objs.size := by obtain ⟨_, e, _⟩ := hl; exact Heap.lt_size e
  refine call_function_tree PySem.F.kind_max PySem.F.plain_max PySem.F.entry_max (PySem.F.args_max1 _) ?_
  show wpAny _ A.in1 (Builtin.Builtins.bindParams "max" ["key", "default"] 0 ⟨[], []⟩ >>= _) _ _ s
  refine wpAny_bind (wpAny_of_eq (show Builtin.Builtins.bindParams "max" ["key", "default"] 0 ⟨[], []⟩ = pure [none, none] from rfl) ?_)
  refine wpAny_bind (wpAny_pure ?_)
  refine wpAny_bind (wpAny_pyIter_list hl ?_)
  refine wpAny_bind (wpAny_newObj_type ?_)
  rw [hname]
  have e1 : (s.heap.push { cls := .type "list_iterator", data := .fields #[.ref a, .int 0 0] }).objs.size = s.heap.objs.size + 1 := Heap.size_push ..
  refine wpAny_pure ⟨plainId_quiet PySem.F.plain_max_loop _, maxp_first (base := s.heap.objs.size) (h₀ := s.heap) (a := a) (m := m) (ps := ps) (x := x) (xs := xs) hh hu (Nat.le_refl _) ?_ ?_ (Nat.ne_of_lt hlt) ?_ hlen h1 hxs ?_ ?_ ?_ (Heap.get?_push_size _ rfl) hQ⟩
  · show _ ≤ (s.heap.push _).objs.size
    rw [e1]; exact Nat.le_succ _
  · show (s.heap.push _).objs.size ≠ _
    rw [e1]; omega
  · intro z
    have z' : a = (s.heap.push { cls := .type "list_iterator", data := .fields #[.ref a, .int 0 0] }).objs.size := z
    rw [e1] at z'
    exact absurd hlt (by rw [z']; exact Nat.not_lt.mpr (Nat.le_succ _))
  · exact ⟨_, Heap.get?_push_of_some _ (Heap.get?_push_size _ rfl), rfl, rfl⟩
  · exact (hl.push _).push _
  · exact fun b o hb e => Heap.get?_push_of_some _ (Heap.get?_push_of_some _ e)

/-- min of a list of ints, with a default: the turns -/
theorem mind_loop {R : Result → Shared → Prop} {I : Addr} {fp wr : List Addr} {n : Nat} {P : Nat → Value → Prop} {St : Nat → Heap → Prop} {kw : List (Str × Value)} (W : Walks prog w A.in1 I fp wr n P St) (bt : Nat → Nat → Bool) (hcmp : CmpOf prog w A.in1 .Lt P bt) (S : Addr) (hSf : S ∉ fp) :
    ∀ (k j : Nat) (s : Shared) (vb : Value) (c : Nat), n - (j + 1) = k → j + 1 ≤ n → St (j + 1) s.heap → P (argBest bt j) vb →
    s.heap.get? S = some { cls := .type "list", dict := none, data := .seq #[vb, vb] c, slots := #[] } →
    (∀ v h' tk, P (argBest bt (n - 1)) v → (∀ b o, b ∉ wr → b ≠ S → s.heap.get? b = some o → h'.get? b = some o) → R (.ok (.ret v)) { s with heap := h', toks := tk }) →
    codeAny (model prog w) A (.builtin "min.loop" ⟨[.ref I, .none, .ref S], kw⟩) R s := by
  have hSw : S ∉ wr := fun h => hSf (W.sub _ h)
  have hname : (toString "min" ++ toString ".loop" : String) = "min.loop" := by decide
  intro k
  induction k with
  | zero =>
    intro j s vb c hk hj hst hPb hS hR
    have hin : j + 1 = n := by omega
    refine codeAny_builtin PySem.F.entry_min_loop ?_
    rw [Around.under_plainId PySem.F.plain_min_loop _]
    show wpAny _ A.in1 (seqItems? (.ref S) >>= _) _ _ s
    refine wpAny_bind (wpAny_seqItems hS rfl ?_)
    show wpAny _ A.in1 (tryCatch (pyNext (.ref I)) _ >>= _) _ _ s
    refine wpAny_bind (wpAny_tryCatch (W.done s _ _ (hin ▸ hst) fun h' tk hk' => ?_))
    have hS' := hk' S _ hSw hS
    show wpAny _ A.in1 (updateSeq S (fun _ => #[]) >>= _) _ _ _
    refine wpAny_bind (wpAny_updateSeq hS' rfl (wpAny_bind (wpAny_letGo (wpAny_pure ?_))))
    exact hR vb _ tk (by rw [← hin]; exact hPb) fun b o hbw hbS e => (Heap.get?_update_other _ _ (Ne.symm hbS)).trans (hk' b o hbw e)
  | succ k ih =>
    intro j s vb c hk hj hst hPb hS hR
    have hlt : j + 1 < n := by omega
    refine codeAny_builtin PySem.F.entry_min_loop ?_
    rw [Around.under_plainId PySem.F.plain_min_loop _]
    show wpAny _ A.in1 (seqItems? (.ref S) >>= _) _ _ s
    refine wpAny_bind (wpAny_seqItems hS rfl ?_)
    show wpAny _ A.in1 (tryCatch (pyNext (.ref I)) _ >>= _) _ _ s
    refine wpAny_bind (wpAny_tryCatch (W.item (j + 1) s _ _ hlt hst fun v h' tk hP hst' hk' => ?_))
    have hS' := hk' S _ hSw hS
    show wpAny _ A.in1 (tryCatch (holding [v, v] (richCompare .Lt v vb >>= _)) _ >>= _) _ _ _
    refine wpAny_bind (wpAny_tryCatch (wpAny_holding (wpAny_bind (hcmp (j + 1) (argBest bt j) v vb _ _ _ hP hPb ?_))))
    refine wpAny_bind (wpAny_holding (wpAny_truthy_bool ?_))
    refine wpAny_bind (wpAny_letGo (wpAny_pure ?_))
    cases hb : bt (j + 1) (argBest bt j) with
    | true =>
      have hbest : argBest bt (j + 1) = j + 1 := by unfold argBest; simp only [hb, if_true]
      simp only [if_true]
      refine wpAny_bind (wpAny_updateSeq hS' rfl (wpAny_bind (wpAny_letGo ?_)))
      rw [hname]
      refine wpAny_pure ⟨plainId_quiet PySem.F.plain_min_loop _, ih (j + 1) _ v _ (by omega) hlt (W.frame _ _ _ hst' fun b hbf o e => ?_) (by rw [hbest]; exact hP) (Heap.get?_update_self _ hS' rfl) fun v' h'' tk'' hP' hk'' => ?_⟩
      · exact (Heap.get?_update_other _ _ (fun h : S = b => hSf (by rw [h]; exact hbf))).trans e
      · exact hR v' h'' tk'' hP' fun b o hbw hbS e => hk'' b o hbw hbS ((Heap.get?_update_other _ _ (Ne.symm hbS)).trans (hk' b o hbw e))
    | false =>
      have hbest : argBest bt (j + 1) = argBest bt j := by rw [argBest]; simp only [hb, Bool.false_eq_true, if_false]
      simp only [Bool.false_eq_true, if_false]
      refine wpAny_bind (wpAny_letGo ?_)
      rw [hname]
      exact wpAny_pure ⟨plainId_quiet PySem.F.plain_min_loop _, ih (j + 1) _ vb c (by omega) hlt hst' (by rw [hbest]; exact hPb) hS' fun v' h'' tk'' hP' hk'' => hR v' h'' tk'' hP' fun b o hbw hbS e => hk'' b o hbw hbS (hk' b o hbw e)⟩

theorem mind_first {R : Result → Shared → Prop} {I S : Addr} {fp wr : List Addr} {n : Nat} {P : Nat → Value → Prop} {St : Nat → Heap → Prop} {dn : Str} {d : Value} {c : Nat} (W : Walks prog w A.in1 I fp wr n P St) (bt : Nat → Nat → Bool) (hcmp : CmpOf prog w A.in1 .Lt P bt) (hSf : S ∉ fp)
    (hst : St 0 s.heap) (hS : s.heap.get? S = some { cls := .type "list", dict := none, data := .seq #[] c, slots := #[] })
    (h0 : n = 0 → ∀ h' tk, (∀ b o, b ∉ wr → b ≠ S → s.heap.get? b = some o → h'.get? b = some o) → R (.ok (.ret d)) { s with heap := h', toks := tk })
    (h1 : 0 < n → ∀ v h' tk, P (argBest bt (n - 1)) v → (∀ b o, b ∉ wr → b ≠ S → s.heap.get? b = some o → h'.get? b = some o) → R (.ok (.ret v)) { s with heap := h', toks := tk }) :
    codeAny (model prog w) A (.builtin "min.loop" ⟨[.ref I, .none, .ref S], [(dn, d)]⟩) R s := by
  have hSw : S ∉ wr := fun h => hSf (W.sub _ h)
  have hname : (toString "min" ++ toString ".loop" : String) = "min.loop" := by decide
  refine codeAny_builtin PySem.F.entry_min_loop ?_
  rw [Around.under_plainId PySem.F.plain_min_loop _]
  show wpAny _ A.in1 (seqItems? (.ref S) >>= _) _ _ s
  refine wpAny_bind (wpAny_seqItems hS rfl ?_)
  show wpAny _ A.in1 (tryCatch (pyNext (.ref I)) _ >>= _) _ _ s
  rcases Nat.eq_zero_or_pos n with hn | hn
  · refine wpAny_bind (wpAny_tryCatch (W.done s _ _ (hn ▸ hst) fun h' tk hk' => ?_))
    exact wpAny_bind (wpAny_rule (wpAny_pure (h0 hn h' tk fun b o hb _ e => hk' b o hb e)))
  · refine wpAny_bind (wpAny_tryCatch (W.item 0 s _ _ hn hst fun v h' tk hP hst' hk' => ?_))
    have hS' := hk' S _ hSw hS
    show wpAny _ A.in1 (updateSeq S (fun _ => #[v, v]) >>= _) _ _ _
    refine wpAny_bind (wpAny_updateSeq hS' rfl ?_)
    rw [hname]
    refine wpAny_pure ⟨plainId_quiet PySem.F.plain_min_loop _, mind_loop W bt hcmp S hSf _ 0 _ v _ rfl hn (W.frame _ _ _ hst' fun b hbf o e => ?_) hP (Heap.get?_update_self _ hS' rfl) fun v' h'' tk'' hP' hk'' => ?_⟩
    · exact (Heap.get?_update_other _ _ (fun h : S = b => hSf (by rw [h]; exact hbf))).trans e
    · exact h1 hn v' h'' tk'' hP' fun b o hbw hbS e => hk'' b o hbw hbS ((Heap.get?_update_other _ _ (Ne.symm hbS)).trans (hk' b o hbw e))
/-- a call of a built-in with keywords -/
theorem call_tree_kw {id : String} {b : Builtin} {args : List Value} {kw : List (Str × Value)} {Q : Value → Shared → Prop} (hk : builtinKind id = none) (hp : plainId id = true) (hb : entryFor table id = some b) (ha : argsOk id ⟨args, kw⟩)
    (hc : wpAny (model prog w) A.in1 (b ⟨args, kw⟩) (fun fin s' => match fin with
      | .done f => (match (Except.ok f : Result) with | .ok (.ret v) => Q v s' | .ok _ => False | .error e => E e s')
      | .again c' => c'.quiet = true ∧ codeAny (model prog w) A c' (fun r s' => match r with | .ok (.ret v) => Q v s' | .ok _ => False | .error e => E e s') s') E s) :
    wpAny (model prog w) A (call (.builtin id) args kw) Q E s := by
  refine wpAny_call (codeAny_call_builtin hp hb ?_)
  simp only [checkBuiltinCall, hk]
  cases hsig : Manifest.signature? id with
  | none => exact wpAny_pure hc
  | some sig =>
    have ha' : Bind.checkArgs id sig ⟨args, kw⟩ = pure () := by simpa only [argsOk, hsig] using ha
    simp only [ha']
    exact wpAny_pure hc
/-- min of a list of ints, with a default -/
theorem mind_call {Q : Value → Shared → Prop} {l : Addr} {xs : Array (Int × Tok)} {d : Value} (hh : A.handled = none) (hl : s.heap.IsList l (intItems xs))
    (h0 : xs.size = 0 → ∀ h' tk, (∀ b o, s.heap.get? b = some o → h'.get? b = some o) → Q d { s with heap := h', toks := tk })
    (h1 : 0 < xs.size → ∀ v h' tk, (intItems xs)[argBest (fun i j => decide (numAt xs i < numAt xs j)) (xs.size - 1)]? = some v → (∀ b o, s.heap.get? b = some o → h'.get? b = some o) → Q v { s with heap := h', toks := tk }) :
    wpAny (model prog w) A (call (.builtin "min") [.ref l] [("default", d)]) Q E s := by
  have hname : (toString "min" ++ toString ".loop" : String) = "min.loop" := by decide
  have hlt : l < s.heap.objs.size := by obtain ⟨_, e, _⟩ := hl; exact Heap.lt_size e
  refine call_tree_kw PySem.F.kind_min PySem.F.plain_min PySem.F.entry_min (by unfold argsOk; rfl) ?_
  show wpAny _ A.in1 (Builtin.Builtins.bindParams "min" ["key", "default"] 0 ⟨[], [("default", d)]⟩ >>= _) _ _ s
  refine wpAny_bind (wpAny_of_eq (show Builtin.Builtins.bindParams "min" ["key", "default"] 0 ⟨[], [("default", d)]⟩ = pure [none, some d] from rfl) ?_)
  refine wpAny_bind (wpAny_pure ?_)
  refine wpAny_bind (wpAny_pyIter_list hl ?_)
  refine wpAny_bind (wpAny_newObj_type ?_)
  rw [hname]
  have e1 : (s.heap.push { cls := .type "list_iterator", data := .fields #[.ref l, .int 0 0] }).objs.size = s.heap.objs.size + 1 := Heap.size_push ..
  have hne : l ≠ s.heap.objs.size := Nat.ne_of_lt hlt
  have W := Walks.list (prog := prog) (w := w) (A := A.in1) hh s.heap.objs.size l hne (intItems xs)
  have hSf : s.heap.objs.size + 1 ∉ [s.heap.objs.size, l] := by
    intro hm
    have : s.heap.objs.size + 1 = s.heap.objs.size ∨ s.heap.objs.size + 1 = l := by simpa using hm
    rcases this with h | h
    · exact absurd h (Nat.succ_ne_self _)
    · rw [← h] at hlt; exact absurd hlt (Nat.not_lt.mpr (Nat.le_succ _))
  have hk2 : ∀ {h' : Heap} {o' : Obj}, (∀ b o, b ∉ [s.heap.objs.size] → b ≠ s.heap.objs.size + 1 → ((s.heap.push { cls := .type "list_iterator", data := .fields #[.ref l, .int 0 0] }).push o').get? b = some o → h'.get? b = some o) → ∀ b o, s.heap.get? b = some o → h'.get? b = some o := by
    intro h' o' hk b o e
    have hb := Heap.lt_size e
    exact hk b o (by intro hm; have : b = s.heap.objs.size := by simpa using hm
                     rw [this] at hb; exact Nat.lt_irrefl _ hb) (by intro hm; rw [hm] at hb; exact absurd hb (Nat.not_lt.mpr (Nat.le_succ _))) (Heap.get?_push_of_some _ (Heap.get?_push_of_some _ e))
  refine wpAny_pure ⟨plainId_quiet PySem.F.plain_min_loop _, ?_⟩
  refine mind_first (I := s.heap.objs.size) (S := (s.heap.push { cls := .type "list_iterator", data := .fields #[.ref l, .int 0 0] }).objs.size) W _ (CmpOf.ints_lt (numAt xs) (fun _ _ => intItems_at)) (by rw [e1]; exact hSf) (W.frame 0 _ _ ⟨⟨_, Heap.get?_push_size _ rfl, rfl, rfl⟩, hl.push _⟩ fun b _ o e => Heap.get?_push_of_some _ e) (Heap.get?_push_size _ rfl) ?_ ?_
  · intro hz h' tk hk
    exact h0 (by simpa [intItems] using hz) h' tk (hk2 (by rw [← e1]; exact fun b o hb hs e => hk b o hb hs e))
  · intro hz v h' tk hP hk
    exact h1 (by simpa [intItems] using hz) v h' tk (by simpa [intItems] using hP) (hk2 (by rw [← e1]; exact fun b o hb hs e => hk b o hb hs e))
end
end Mine

end
section
set_option autoImplicit false
set_option linter.unusedVariables false
set_option linter.unusedSimpArgs false
namespace Mine
open PySem PySem.Calls PyProof.Rows

section
variable {X : Fix} {C : Ctx} {A : Around} {n : Nat} {Ex : Value → Shared → Prop} {s : Shared} {φ : List Addr} {H : Hp} {sc : Scope} {ns : List Str} {env : Env} {ρ : Env'}

theorem max2_snd {c d : E} {e f : Expr} {np pos : Pos} (G : X.Gl C) (h2 : okGlob sc "max" = true) (h : LsS X C n sc ns [c, d] [e, f]) : EvS X C n sc ns (.bi .max2 [c, d]) (.Call (.Name "max" np) [e, f] [] pos) := by
  intro A env ρ φ H s Q Ex rm kd F R p
  rw [evalE_bi] at p
  refine wpAny_Call_NameR (glob_bi G kd F R (v := .builtin "max") (bi_mem 9 (by decide)) h2 ?_)
  refine Calls.callWith_builtin (h.plain env pos) (evalArgs_of (h.plain env pos) (h.spl A env ρ φ H s _ Ex pos rm kd F R (bindL p fun vs H1 p => ?_)))
  obtain ⟨u, v, rfl, p⟩ := bi2_post p
  obtain ⟨a, rfl, p⟩ := onInt_post p
  obtain ⟨b, rfl, p⟩ := onInt_post p
  intro φ1 h1' tk xs R1 S1 r1
  cases r1 with
  | cons ru r1 =>
    cases r1 with
    | cons rv r1 =>
      cases r1
      cases ru
      cases rv
      rename_i t u'
      refine max_two_ints (s := { s with heap := h1', toks := tk }) rm.handled fun h' tk' hk => ?_
      have e : (if b > a then Value.int b u' else Value.int a t) = .int (max a b) (if b > a then u' else t) := by
        by_cases hba : b > a
        · rw [if_pos hba, if_pos hba, Int.max_eq_right (Int.le_of_lt hba)]
        · rw [if_neg hba, if_neg hba, Int.max_eq_left (by omega)]
      rw [e]
      exact PostV.later (s := { s with heap := h1', toks := tk }) (PostV.step p S1) R1 hk (.int _ _) tk'

theorem pairOf_spec {v : V} {p : Int × Int} (h : pairOf v = some p) : v = pairV p := by
  unfold pairOf at h
  split at h
  · cases h; rfl
  · cases h
theorem pairs_of : ∀ {vs : List V} {ps : List (Int × Int)}, pairsOf vs = some ps → vs = ps.map pairV
  | [], ps, h => by cases h; rfl
  | v :: r, ps, h => by
    change (pairOf v).bind _ = _ at h
    cases h1 : pairOf v with
    | none => rw [h1] at h; cases h
    | some p =>
      rw [h1] at h
      change (pairsOf r).map _ = _ at h
      cases h2 : pairsOf r with
      | none => rw [h2] at h; cases h
      | some ps =>
        rw [h2] at h
        cases h
        rw [List.map_cons, ← pairs_of h2, pairOf_spec h1]
theorem rep_pair {scr : Addr} {h : Heap} {p : Int × Int} {x : Value} (r : Rep scr φ h (.tup [.int p.1, .int p.2]) x) : PairAt h h.objs.size x p := by
  cases r with
  | tup q1 q2 q3 =>
    cases q2 with
    | cons r1 q2 =>
      cases q2 with
      | cons r2 q2 =>
        cases q2
        cases r1
        cases r2
        exact ⟨_, _, _, _, rfl, Heap.lt_size q1, q1⟩
theorem pair_rep {scr : Addr} {h h' : Heap} {p : Int × Int} {x : Value} (r : PairAt h h.objs.size x p) (hk : KeepB h.objs.size h h') : Rep scr φ h' (.tup [.int p.1, .int p.2]) x := by
  obtain ⟨a, t, u, n, rfl, ha, ho⟩ := r
  exact .tup (hk a _ ha ho) (.cons (.int _ _) (.cons (.int _ _) .nil)) (by simp)
theorem maxL_snd {v : V} {x : Value} {Q : Value → Shared → Prop} (G : X.Gl C) (R : SR X.W φ H s.heap) (rm : Room A n) (rv : Rep X.W.scr φ s.heap v x) (p : PostV X.W φ s Q (biV C.scr .maxL [v] H)) : wpAny X.M A (call (.builtin "max") [x]) Q Ex s := by
  obtain ⟨l, vs, rfl, hl, p⟩ := onL_post p
  obtain ⟨m', hm, p2⟩ := onO_post p
  cases hps : pairsOf vs with
  | none => rw [hps] at hm; cases hm
  | some ps =>
    rw [hps] at hm
    cases ps with
    | nil => cases hm
    | cons m ps =>
      cases hm
      obtain rfl := pairs_of hps
      obtain ⟨a, xs, k, rfl, ha, q1, q2, q3⟩ := listAt R rv hl
      cases q2 with
      | cons r0 q2 =>
        rename_i x0 xs
        have hlen := q2.length
        refine maxp_call (m := m) (ps := ps) rm.handled (by have := units_of rm; show A.units + 1 < cLine; omega) (isList_of q1) (by simpa using hlen) (rep_pair r0) ?_ ?_
        · intro i y q hy hq
          obtain ⟨z, hz, rz⟩ := q2.get (i := i) (v := pairV q) (by rw [List.getElem?_map, hq]; rfl)
          rw [hy] at hz; cases hz
          exact rep_pair rz
        · intro y h' tk hy hk
          have hk' : ∀ b o, s.heap.get? b = some o → h'.get? b = some o := fun b o e => hk b o (Heap.lt_size e) e
          exact p2 φ h' tk y (R.ext hk') (.ext hk') (pair_rep hy hk)

/-- tuple(x) of a list or a tuple -/
theorem tupleOf_snd {a : E} {e : Expr} {np pos : Pos} (G : X.Gl C) (hx : okGlob sc "tuple" = true) (h : LsS X C n sc ns [a] [e]) : EvS X C n sc ns (.bi .tupleOf [a]) (.Call (.Name "tuple" np) [e] [] pos) := by
  intro A env ρ φ H s Q Ex rm kd F R p
  refine wpAny_Call_NameR (glob_bi G kd F R (v := .type "tuple") (bi_mem 4 (by decide)) hx ?_)
  rw [evalE_bi] at p
  refine PySem.callWith_type (h.plain env pos) (evalArgs_of (h.plain env pos) (h.spl A env ρ φ H s _ Ex pos rm kd F R (bindL p fun vs H1 p => ?_)))
  obtain ⟨v, rfl, p2⟩ := bi1_post p
  · obtain ⟨us, hi, p⟩ := onO_post p2
    obtain ⟨hz, p⟩ := if_post p
    have hz' : us.length < 1000000 := by simpa [szOk] using hz
    intro φ1 h1 tk xs R1 S1 r1
    cases r1 with
    | cons r1 r2 =>
      cases r2
      obtain ⟨ad, xs, rfl, q1, q2, q3⟩ := items_at (s := { s with heap := h1, toks := tk }) G R1 r1 hi
      have hlen := q1.length
      rcases q3 with ⟨hT, ⟨k, hk⟩, _⟩ | ⟨hL, _⟩
      · exact call_tuple_tup (s := { s with heap := h1, toks := tk }) hT (p φ1 h1 tk _ R1 S1 (.tup hk q1 q2))
      · refine call_tuple_list (s := { s with heap := h1, toks := tk }) hL (fun h' hk => ?_) (by simp; unfold sizeLine; omega)
        have w1 : ∀ b o', h1.get? b = some o' → (h'.push { cls := .type "tuple", data := .seq xs.toArray }).get? b = some o' := fun b o' e => Heap.get?_push_of_some _ (hk b o' e)
        have S2 : Stp [] φ1 h1 φ1 (h'.push { cls := .type "tuple", data := .seq xs.toArray }) := .ext w1
        exact p φ1 _ tk _ (R1.ext w1) (S1.trans S2) (.tup (n := 0) (Heap.get?_push_size _ rfl) (q1.mono S2) q2)

theorem best_min (val : Nat → Int) : ∀ k, val (argBest (fun i j => decide (val i < val j)) k) = ((List.range k).map fun i => val (i + 1)).foldl min (val 0)
  | 0 => rfl
  | k + 1 => by
    rw [List.range_succ, List.map_append, List.foldl_append, ← best_min val k, argBest]
    simp only [List.map_cons, List.map_nil, List.foldl_cons, List.foldl_nil]
    by_cases h : val (k + 1) < val (argBest (fun i j => decide (val i < val j)) k)
    · simp only [h, decide_true, if_true]
      rw [Int.min_eq_right (by omega)]
    · simp only [h, decide_false, Bool.false_eq_true, if_false]
      rw [Int.min_eq_left (by omega)]
theorem min_items {zs : Array (Int × Tok)} {a : Int} {is : List Int} (h : a :: is = zs.toList.map (·.1)) : numAt zs (argBest (fun i j => decide (numAt zs i < numAt zs j)) (zs.size - 1)) = is.foldl min a := by
  have hn : ∀ i, i < zs.size → numAt zs i = ((a :: is)[i]?).getD 0 := by
    intro i hi
    rw [h, List.getElem?_map, Array.getElem?_toList]; rfl
  have hl : (a :: is).length = zs.size := by rw [h]; simp
  simp only [List.length_cons] at hl
  rw [best_min (numAt zs)]
  have e0 : numAt zs 0 = a := by rw [hn 0 (by omega)]; rfl
  have e1 : ((List.range (zs.size - 1)).map fun i => numAt zs (i + 1)) = is := by
    apply List.ext_getElem
    · simp; omega
    · intro i h1 h2
      simp only [List.getElem_map, List.getElem_range]
      rw [hn (i + 1) (by omega)]
      simp [h2]
  rw [e0, e1]

theorem minD_snd {a d : E} {e v : Expr} {np kp pos : Pos} (G : X.Gl C) (hx : okGlob sc "min" = true) (h0 : chkE X.K sc ns a e = true) (ha : EvS X C n sc ns a e) (hd : EvS X C n sc ns d v) :
    EvS X C n sc ns (.minD a d) (.Call (.Name "min" np) [e] [⟨some "default", v, kp⟩] pos) := by
  intro A env ρ φ H s Q Ex rm kd F R p
  have hpl : (backTo pos (starEach [e] env)).any (·.1) = false := by rw [notStarred h0 env]; rfl
  rw [evalE_minD] at p
  show wpAny X.M A (do callWith pos (← eval (.Name "min" np) env) [] (backTo pos (starEach [e] env)) (backToKw pos (keywordEach [⟨some "default", v, kp⟩] env))) Q Ex s
  refine wpAny_bind (glob_bi G kd F R (v := .builtin "min") (bi_mem 8 (by decide)) hx ?_)
  refine callWith_builtin_kwB hpl rfl ?_
  obtain ⟨y, hy⟩ : ∃ y, backTo pos (starEach [e] env) = [(false, y)] := ⟨_, by rw [notStarred h0 env]; rfl⟩
  rw [hy]
  refine evalArgs_kwB rfl ?_
  rw [← hy]
  refine wpAny_items_cons (ha A env ρ φ H s _ Ex rm kd F R ?_) (notStarred h0 env _)
  cases hv : evalE C a ρ H with
  | stuck => rw [hv] at p; exact p.elim
  | ok v1 H1 =>
    rw [hv] at p
    change PostV X.W φ s Q ((evalE C d ρ H1).bind _) at p
    intro φ1 h1 tk x R1 S1 r1
    refine wpAny_items_nil ?_
    refine kws_cons (hd A env ρ φ1 H1 { s with heap := h1, toks := tk } _ Ex rm kd (F.mono0 S1) R1 ?_)
    cases hv2 : evalE C d ρ H1 with
    | stuck => rw [hv2] at p; exact p.elim
    | ok v2 H2 =>
      rw [hv2] at p
      change PostV X.W φ s Q (minDV v1 v2 H2) at p
      intro φ2 h2 tk2 x2 R2 S2 r2
      refine kws_nil ?_
      show wpAny X.M A (call (.builtin "min") [x] [("default", x2)]) Q Ex _
      unfold minDV at p
      cases v1 with
      | ref l =>
        dsimp only at p
        split at p
        · rename_i hl
          obtain ⟨ad, xs, k, rfl, had, q1, q2, q3⟩ := listAt (s := { s with heap := h2, toks := tk2 }) R2 (r1.mono S2) hl
          cases q2
          refine mind_call (s := { s with heap := h2, toks := tk2 }) (xs := #[]) rm.handled (show h2.IsList ad (intItems #[]) by rw [show intItems #[] = ([] : List Value).toArray from by simp [intItems]]; exact isList_of q1) (fun _ h' tk' hk => ?_) fun h => by simp at h
          exact PostV.later (s := { s with heap := h2, toks := tk2 }) (PostV.step p (S1.trans S2)) R2 hk r2 tk'
        · rename_i v0 r hl
          split at p
          · rename_i a0 is hi
            obtain ⟨ad, xs, k, rfl, had, q1, q2, q3⟩ := listAt (s := { s with heap := h2, toks := tk2 }) R2 (r1.mono S2) hl
            rw [allInts_map hi] at q2
            have hI := intsAre_of q2
            obtain ⟨zs, hzs⟩ := hI.allInts.items
            have e1 : a0 :: is = zs.toList.map (·.1) := by
              rw [← nums_intItems, ← hzs]
              exact (show numsOf xs.toArray.toList = a0 :: is from hI.numsOf).symm
            refine mind_call (s := { s with heap := h2, toks := tk2 }) (xs := zs) rm.handled (hzs ▸ isList_of q1) (fun h0 => ?_) fun h0 y h' tk' hy hk => ?_
            · have := congrArg List.length e1
              simp [h0] at this
            · obtain ⟨t, rfl⟩ := intItems_at hy
              rw [min_items e1]
              exact PostV.later (s := { s with heap := h2, toks := tk2 }) (PostV.step p (S1.trans S2)) R2 hk (.int _ _) tk'
          · exact p.elim
        · exact p.elim
      | _ => exact p.elim
end
end Mine

end
section
set_option autoImplicit false
set_option linter.unusedVariables false
set_option linter.unusedSimpArgs false
namespace Mine
open PySem PySem.Calls PyProof.Rows

section
variable {X : Fix} {C : Ctx} {A : Around} {n : Nat} {Ex : Value → Shared → Prop} {s : Shared} {φ : List Addr} {H : Hp} {sc : Scope} {ns : List Str} {env : Env} {ρ : Env'}

theorem len_snd {v : V} {x : Value} {r : V} {H' : Hp} {Q : Value → Shared → Prop} (G : X.Gl C) (R : SR X.W φ H s.heap) (rv : Rep X.W.scr φ s.heap v x) (e : biV C.scr .len [v] H = .ok r H') (hQ : ∀ tk i t, r = .int i → H' = H → Q (.int i t) { s with toks := tk }) :
    wpAny X.M A (call (.builtin "len") [x]) Q Ex s := by
  change onO (itemsOf C.scr H v) _ = _ at e
  cases hl : itemsOf C.scr H v with
  | none => rw [hl] at e; cases e
  | some l =>
    rw [hl] at e
    cases e
    obtain ⟨a, xs, rfl, h1, h2, h3⟩ := items_at G R rv hl
    have hlen := h1.length
    rcases h3 with ⟨h3, _, _⟩ | ⟨h3, _⟩
    · exact PyProof.Rows.len_tuple h3 (small_of_len h1 h2) (hQ _ _ _ (by simp [hlen]) rfl)
    · exact call_len_list h3 (small_of_len h1 h2) (hQ _ _ _ (by simp [hlen]) rfl)
theorem bi1_snd {b : Bi} {c : E} {x : Str} {id : String} {e : Expr} {np pos : Pos} (G : X.Gl C) (h1 : (x, Value.builtin id) ∈ biTable) (h2 : okGlob sc x = true) (h : LsS X C n sc ns [c] [e])
    (hb : ∀ (A : Around) (φ : List Addr) (H : Hp) (s : Shared) (v : V) (y : Value) (Q : Value → Shared → Prop) (Ex : Value → Shared → Prop), Room A n → SR X.W φ H s.heap → Rep X.W.scr φ s.heap v y → PostV X.W φ s Q (biV C.scr b [v] H) → wpAny X.M A (call (.builtin id) [y]) Q Ex s) :
    EvS X C n sc ns (.bi b [c]) (.Call (.Name x np) [e] [] pos) := by
  intro A env ρ φ H s Q Ex rm kd F R p
  rw [evalE_bi] at p
  refine wpAny_Call_NameR (glob_bi G kd F R h1 h2 ?_)
  refine Calls.callWith_builtin (h.plain env pos) (evalArgs_of (h.plain env pos) (h.spl A env ρ φ H s _ Ex pos rm kd F R ?_))
  cases hv : evalEs C [c] ρ H with
  | stuck => rw [hv] at p; exact p.elim
  | ok vs H1 =>
    have hl := evalEs_len hv
    rw [hv] at p
    intro φ1 h1' tk xs R1 S1 r1
    cases r1 with
    | nil => cases hl
    | cons r1 r2 =>
      cases r2 with
      | cons _ _ => cases hl
      | nil => exact hb A φ1 H1 { s with heap := h1', toks := tk } _ _ Q Ex rm R1 r1 (PostV.step p S1)
theorem isiE_snd {b : Bi} {t : String} {c : E} {e : Expr} {y : Str} {np yp pos : Pos} (G : X.Gl C) (ht : isiName b = some t) (h2 : okGlob sc "isinstance" = true) (hy : okGlob sc (Str.ofString t) = true) (h0 : chkE X.K sc ns c e = true) (h : EvS X C n sc ns c e ∧ TrS X C n sc ns c e) :
    EvS X C n sc ns (.bi b [c]) (.Call (.Name "isinstance" np) [e, .Name (Str.ofString t) yp] [] pos) := by
  intro A env ρ φ H s Q Ex rm kd F R p
  rw [evalE_bi] at p
  refine wpAny_Call_NameR (glob_bi G kd F R (v := .builtin "isinstance") (bi_mem 1 (by decide)) h2 ?_)
  have hpl : (backTo pos (starEach [e, .Name (Str.ofString t) yp] env)).any (·.1) = false := by
    rw [notStarred h0 env]; rfl
  refine Calls.callWith_builtin hpl (evalArgs_of hpl ?_)
  refine wpAny_items_cons (h.1 A env ρ φ H s _ Ex rm kd F R ?_) (notStarred h0 env _)
  cases hv : evalE C c ρ H with
  | stuck => rw [evalEs_cons, hv] at p; exact p.elim
  | ok v H1 =>
    rw [evalEs_cons, hv] at p
    change PostV X.W φ s Q (biV C.scr b [v] H1) at p
    intro φ1 h1 tk x R1 S1 r1
    refine wpAny_items_cons (glob_bi (s := { s with heap := h1, toks := tk }) G kd (F.mono0 S1) R1 (isi_mem ht) hy ?_) rfl
    refine wpAny_items_nil ?_
    cases hb : biV C.scr b [v] H1 with
    | stuck => rw [hb] at p; exact p.elim
    | ok r H2 =>
      rw [hb] at p
      refine isi_snd (s := { s with heap := h1, toks := tk }) ht r1 hb fun tk' b' e1 e2 => ?_
      subst e1; subst e2
      exact p φ1 h1 tk' _ R1 S1 (.bool _)
end

section
variable {X : Fix} {C : Ctx} {n : Nat}
theorem scIn_spec {sc cs' : Scope} {ns loc : List Str} (h : scIn sc ns loc cs' = true) : CompSc sc ns loc cs' := by
  unfold scIn at h
  simp only [Bool.and_eq_true, Bool.not_eq_true', decide_eq_true_eq] at h
  obtain ⟨⟨⟨⟨⟨⟨⟨h1, h2⟩, h3⟩, h4⟩, h5⟩, h6⟩, h7⟩, h8⟩ := h
  have h6 := List.all_eq_true.mp h6
  have h7 := List.all_eq_true.mp h7
  refine ⟨?_, ⟨h2, h3⟩, h5, ?_, ?_, ?_, ?_, ?_⟩
  · cases hk : cs'.kind <;> rw [hk] at h1 <;> first | rfl | cases h1
  · intro p hp hk
    have := h6 p hp
    rw [hk] at this
    simp only [Bool.or_eq_true] at this
    rcases this with this | this
    · exact .inl (eq_of_beq this)
    · exact .inr (List.contains_iff_mem.mp this)
  · intro p hp hk
    have := h6 p hp
    rw [hk] at this
    cases this
  · intro p hp hk
    have := h6 p hp
    rw [hk] at this
    simp only [Bool.and_eq_true, Bool.not_eq_true'] at this
    refine ⟨List.contains_iff_mem.mp this.1.1, fun hm => ?_, ?_⟩
    · rw [List.contains_iff_mem.mpr hm] at this
      cases this.1.2
    · have h9 := this.2
      split at h9
      · rename_i e; exact .inl e
      · rename_i e; exact .inr e
      · cases h9
  · intro x hx
    have := h7 x hx
    split at this
    · assumption
    · cases this
  · intro hm
    rw [List.contains_iff_mem.mpr hm] at h8
    cases h8
theorem len_two {α : Type} {l : List α} (h : l.length = 2) : ∃ a b, l = [a, b] := by
  match l, h with
  | [a, b], _ => exact ⟨a, b, rfl⟩
theorem both {sc : Scope} {ns : List Str} {c : E} {e : Expr} (G : X.Gl C) (h : plainTest e = true) (q : EvS X C n sc ns c e) : EvS X C n sc ns c e ∧ TrS X C n sc ns c e := ⟨q, .of G h q⟩
section
variable {sc : Scope} {ns : List Str} {x : Str} {xs : List Expr} {es : List E} {np pos : Pos}
theorem bi_arg {y : Str} {m : Nat} (h : (x == y && decide (xs.length = m) && chkEs X.K sc ns es xs) = true) : x = y ∧ xs.length = m ∧ es.length = m ∧ chkEs X.K sc ns es xs = true := by
  have h := Bool.and_eq_true_iff.mp h
  have h1 := Bool.and_eq_true_iff.mp h.1
  have l := of_decide_eq_true h1.2
  exact ⟨eq_of_beq h1.1, l, (chkEs_len h.2).trans l, h.2⟩
theorem isi_arg {t : String} (h : (x == ("isinstance" : Str) && if2 xs fun e nm => ifName nm fun y => y == Str.ofString t && okGlob sc y && chkEs X.K sc ns es [e]) = true) :
    x = "isinstance" ∧ ∃ e yp, xs = [e, .Name (Str.ofString t) yp] ∧ okGlob sc (Str.ofString t) = true ∧ chkEs X.K sc ns es [e] = true := by
  have h := Bool.and_eq_true_iff.mp h
  obtain ⟨e, nm, rfl, h2⟩ := if2.spec h.2
  obtain ⟨y, yp, rfl, h2⟩ := ifName.spec h2
  have h2 := Bool.and_eq_true_iff.mp h2
  have h3 := Bool.and_eq_true_iff.mp h2.1
  obtain rfl := eq_of_beq h3.1
  exact ⟨eq_of_beq h.1, e, yp, rfl, h3.2, h2.2⟩
theorem one_one {α β : Type} {l : List α} {m : List β} {P : List α → List β → Prop} (h1 : l.length = 1) (h2 : m.length = 1) (h : ∀ a b, P [a] [b]) : P l m := by
  obtain ⟨a, rfl⟩ := List.length_eq_one_iff.mp h1
  obtain ⟨b, rfl⟩ := List.length_eq_one_iff.mp h2
  exact h a b
theorem len_all (G : X.Gl C) (hx : okGlob sc "len" = true) (l1 : xs.length = 1) (l2 : es.length = 1) (hs : LsS X C n sc ns es xs) : EvS X C n sc ns (.bi .len es) (.Call (.Name "len" np) xs [] pos) := by
  refine one_one (P := fun es xs => LsS X C n sc ns es xs → EvS X C n sc ns (.bi .len es) (.Call (.Name "len" np) xs [] pos)) l2 l1 (fun c e hs => ?_) hs
  refine bi1_snd (id := "len") G (bi_mem 0 (by decide)) hx hs ?_
  intro A φ H s v y Q Ex rm R r p
  cases hv : biV C.scr .len [v] H with
  | stuck => rw [hv] at p; exact p.elim
  | ok u H' =>
    rw [hv] at p
    refine len_snd G R r hv fun tk i t e1 e2 => ?_
    subst e1; subst e2
    exact p.now R (.int _ _) tk
theorem tup_all (G : X.Gl C) (hx : okGlob sc "tuple" = true) (l1 : xs.length = 1) (l2 : es.length = 1) (hs : LsS X C n sc ns es xs) : EvS X C n sc ns (.bi .tupleOf es) (.Call (.Name "tuple" np) xs [] pos) :=
  one_one (P := fun es xs => LsS X C n sc ns es xs → EvS X C n sc ns (.bi .tupleOf es) (.Call (.Name "tuple" np) xs [] pos)) l2 l1 (fun c e hs => tupleOf_snd G hx hs) hs
theorem max_all (G : X.Gl C) (hx : okGlob sc "max" = true) (l1 : xs.length = 1) (l2 : es.length = 1) (hs : LsS X C n sc ns es xs) : EvS X C n sc ns (.bi .maxL es) (.Call (.Name "max" np) xs [] pos) :=
  one_one (P := fun es xs => LsS X C n sc ns es xs → EvS X C n sc ns (.bi .maxL es) (.Call (.Name "max" np) xs [] pos)) l2 l1 (fun c e hs => bi1_snd (id := "max") G (bi_mem 9 (by decide)) hx hs fun A φ H s v y Q Ex rm R r p => maxL_snd G R rm r p) hs
theorem max2_all (G : X.Gl C) (hx : okGlob sc "max" = true) (l1 : xs.length = 2) (l2 : es.length = 2) (hs : LsS X C n sc ns es xs) : EvS X C n sc ns (.bi .max2 es) (.Call (.Name "max" np) xs [] pos) := by
  obtain ⟨a, b, rfl⟩ := len_two l1
  obtain ⟨c, d, rfl⟩ := len_two l2
  exact max2_snd G hx hs
theorem isi_all {b : Bi} {t : String} {e : Expr} {yp : Pos} (G : X.Gl C) (ht : isiName b = some t) (hx : okGlob sc "isinstance" = true) (h3 : okGlob sc (Str.ofString t) = true) (h4 : chkEs X.K sc ns es [e] = true) (hs : LsS X C n sc ns es [e]) : EvS X C n sc ns (.bi b es) (.Call (.Name "isinstance" np) [e, .Name (Str.ofString t) yp] [] pos) := by
  obtain ⟨a, rfl⟩ := List.length_eq_one_iff.mp (chkEs_len h4)
  exact isiE_snd (y := Str.ofString t) G ht hx h3 (Bool.and_eq_true_iff.mp h4).1 (hs.one a _ rfl rfl)
end
set_option maxHeartbeats 2000000
mutual
theorem sndE (G : X.Gl C) (hc : X.CallOk C n) : ∀ (c : E) (sc : Scope) (ns : List Str) (e : Expr), chkE X.K sc ns c e = true → EvS X C n sc ns c e ∧ TrS X C n sc ns c e
  | .k v, sc, ns, e, h => by
    replace h := ifConst.spec h
    obtain ⟨c, k, p, rfl, h⟩ := h
    exact both G rfl (k_snd h)
  | .var i, sc, ns, e, h => by
    obtain ⟨y, p, rfl, h'⟩ := ifName.spec h
    exact both G rfl (var_snd h)
  | .bin op a b, sc, ns, e, h => by
    replace h := ifBin.spec h
    obtain ⟨l, o, r, p, rfl, h⟩ := h
    simp only [Bool.and_eq_true] at h
    exact both G rfl (bin_snd G h.1.1 (sndE G hc a sc ns _ h.1.2).1 (sndE G hc b sc ns _ h.2).1)
  | .neg a, sc, ns, e, h => by
    replace h := ifUn.spec h
    obtain ⟨o, y, p, rfl, h⟩ := h
    rw [Bool.and_eq_true] at h
    obtain rfl := of_decide_eq_true h.1
    exact both G rfl (neg_snd (sndE G hc a sc ns _ h.2).1)
  | .not a, sc, ns, e, h => by
    replace h := ifUn.spec h
    obtain ⟨o, y, p, rfl, h⟩ := h
    rw [Bool.and_eq_true] at h
    obtain rfl := of_decide_eq_true h.1
    exact not_snd G (sndE G hc a sc ns _ h.2)
  | .and es, sc, ns, e, h => by
    replace h := ifBool.spec h
    obtain ⟨o, ys, p, rfl, h⟩ := h
    rw [Bool.and_eq_true] at h
    obtain rfl := of_decide_eq_true h.1
    exact and_snd (sndEs G hc es sc ns _ h.2)
  | .or es, sc, ns, e, h => by
    replace h := ifBool.spec h
    obtain ⟨o, ys, p, rfl, h⟩ := h
    rw [Bool.and_eq_true] at h
    obtain rfl := of_decide_eq_true h.1
    exact or_snd (sndEs G hc es sc ns _ h.2)
  | .ife c a b, sc, ns, e, h => by
    replace h := ifIfe.spec h
    obtain ⟨t, y, z, p, rfl, h⟩ := h
    simp only [Bool.and_eq_true] at h
    exact ife_snd (sndE G hc c sc ns _ h.1.1) (sndE G hc a sc ns _ h.1.2) (sndE G hc b sc ns _ h.2)
  | .cmp op a b, sc, ns, e, h => by
    replace h := ifCmp.spec h
    obtain ⟨l, os, rs, p, rfl, h⟩ := h
    replace h := if1.spec h
    obtain ⟨o, rfl, h⟩ := h
    replace h := if1.spec h
    obtain ⟨r, rfl, h⟩ := h
    simp only [Bool.and_eq_true] at h
    exact cmpE_snd G h.1.1 h.2 (sndE G hc a sc ns _ h.1.2).1 (sndE G hc b sc ns _ h.2).1
  | .cmp2 a o1 b o2 c, sc, ns, e, h => by
    replace h := ifCmp.spec h
    obtain ⟨l, os, rs, p, rfl, h⟩ := h
    replace h := if2.spec h
    obtain ⟨q1, q2, rfl, h⟩ := h
    replace h := if2.spec h
    obtain ⟨r1, r2, rfl, h⟩ := h
    simp only [Bool.and_eq_true] at h
    exact cmp2_snd G h.1.1.1.1 h.1.1.1.2 h.2 (sndE G hc a sc ns _ h.1.1.2).1 (sndE G hc b sc ns _ h.1.2).1 (sndE G hc c sc ns _ h.2).1
  | .isNone a, sc, ns, e, h => by
    replace h := ifCmp.spec h
    obtain ⟨l, os, rs, p, rfl, h⟩ := h
    replace h := if1.spec h
    obtain ⟨o, rfl, h⟩ := h
    rw [Bool.and_eq_true] at h
    obtain rfl := of_decide_eq_true h.1
    replace h := if1.spec h.2
    obtain ⟨r, rfl, h⟩ := h
    replace h := ifConst.spec h
    obtain ⟨c, k, q, rfl, h⟩ := h
    rw [Bool.and_eq_true] at h
    obtain rfl := of_decide_eq_true h.1
    exact isNone_snd (sndE G hc a sc ns _ h.2).1
  | .notNone a, sc, ns, e, h => by
    replace h := ifCmp.spec h
    obtain ⟨l, os, rs, p, rfl, h⟩ := h
    replace h := if1.spec h
    obtain ⟨o, rfl, h⟩ := h
    rw [Bool.and_eq_true] at h
    obtain rfl := of_decide_eq_true h.1
    replace h := if1.spec h.2
    obtain ⟨r, rfl, h⟩ := h
    replace h := ifConst.spec h
    obtain ⟨c, k, q, rfl, h⟩ := h
    rw [Bool.and_eq_true] at h
    obtain rfl := of_decide_eq_true h.1
    exact notNone_snd (sndE G hc a sc ns _ h.2).1
  | .tup es, sc, ns, e, h => by
    replace h := ifTuple.spec h
    obtain ⟨ys, k, p, rfl, h⟩ := h
    simp only [Bool.and_eq_true, decide_eq_true_eq] at h
    exact both G rfl (tup_snd (by rw [chkEs_len h.1]; exact h.2) (sndEs G hc es sc ns _ h.1))
  | .lst es, sc, ns, e, h => by
    replace h := ifList.spec h
    obtain ⟨ys, p, rfl, h⟩ := h
    simp only [Bool.and_eq_true, decide_eq_true_eq] at h
    exact both G rfl (lst_snd (by rw [chkEs_len h.1]; exact h.2) (sndEs G hc es sc ns _ h.1))
  | .idx a i, sc, ns, e, h => by
    replace h := ifSub.spec h
    obtain ⟨y, z, p, rfl, h⟩ := h
    rw [Bool.and_eq_true] at h
    exact both G rfl (idxE_snd G h.2 (sndE G hc a sc ns _ h.1).1 (sndE G hc i sc ns _ h.2).1)
  | .slc a lo hi, sc, ns, e, h => by
    replace h := ifSub.spec h
    obtain ⟨y, z, p, rfl, h⟩ := h
    replace h := ifSlice.spec h
    obtain ⟨l, u, t, q, rfl, h⟩ := h
    simp only [Bool.and_eq_true, Option.isNone_iff_eq_none] at h
    obtain ⟨⟨⟨rfl, h1⟩, h2⟩, h3⟩ := h
    exact both G rfl (slc_snd G (sndE G hc a sc ns _ h1).1 h2 h3 (sndO G hc lo sc ns _ h2) (sndO G hc hi sc ns _ h3))
  | .call f es, sc, ns, e, h => by
    replace h := ifCall.spec h
    obtain ⟨g, xs, ks, p, rfl, h⟩ := h
    rw [Bool.and_eq_true] at h
    obtain rfl := List.isEmpty_iff.mp h.1
    replace h := ifName.spec h.2
    obtain ⟨x, q, rfl, h⟩ := h
    simp only [Bool.and_eq_true, decide_eq_true_eq] at h
    exact both G rfl (call_snd G hc h.1.1.1 h.1.1.2 (sndEs G hc es sc ns _ h.2))
  | .bi b es, sc, ns, e, h => by
    replace h := ifCall.spec h
    obtain ⟨g, xs, ks, pos, rfl, h⟩ := h
    rw [Bool.and_eq_true] at h
    obtain rfl := List.isEmpty_iff.mp h.1
    replace h := ifName.spec h.2
    obtain ⟨x, np, rfl, h⟩ := h
    rw [Bool.and_eq_true] at h
    obtain ⟨hx, h⟩ := h
    cases b with
    | len =>
      obtain ⟨rfl, l1, l2, h3⟩ := bi_arg (y := "len") (m := 1) h
      exact both G rfl (len_all G hx l1 l2 (sndEs G hc es sc ns xs h3))
    | tupleOf =>
      obtain ⟨rfl, l1, l2, h3⟩ := bi_arg (y := "tuple") (m := 1) h
      exact both G rfl (tup_all G hx l1 l2 (sndEs G hc es sc ns xs h3))
    | maxL =>
      obtain ⟨rfl, l1, l2, h3⟩ := bi_arg (y := "max") (m := 1) h
      exact both G rfl (max_all G hx l1 l2 (sndEs G hc es sc ns xs h3))
    | max2 =>
      obtain ⟨rfl, l1, l2, h3⟩ := bi_arg (y := "max") (m := 2) h
      exact both G rfl (max2_all G hx l1 l2 (sndEs G hc es sc ns xs h3))
    | isInt =>
      obtain ⟨rfl, e, yp, rfl, h3, h4⟩ := isi_arg (t := "int") h
      exact both G rfl (isi_all G rfl hx h3 h4 (sndEs G hc es sc ns _ h4))
    | isBool =>
      obtain ⟨rfl, e, yp, rfl, h3, h4⟩ := isi_arg (t := "bool") h
      exact both G rfl (isi_all G rfl hx h3 h4 (sndEs G hc es sc ns _ h4))
    | isTuple =>
      obtain ⟨rfl, e, yp, rfl, h3, h4⟩ := isi_arg (t := "tuple") h
      exact both G rfl (isi_all G rfl hx h3 h4 (sndEs G hc es sc ns _ h4))
  | .minD a d, sc, ns, e, h => by
    replace h := ifCall.spec h
    obtain ⟨g, xs, ks, p, rfl, h⟩ := h
    replace h := ifName.spec h
    obtain ⟨x, q, rfl, h⟩ := h
    simp only [Bool.and_eq_true] at h
    obtain ⟨⟨h1, h3⟩, h⟩ := h
    replace h := if1.spec h
    obtain ⟨e, rfl, h⟩ := h
    replace h := if1.spec h
    obtain ⟨kw, rfl, h⟩ := h
    replace h := ifKw.spec h
    obtain ⟨y, v, kp, rfl, h⟩ := h
    simp only [Bool.and_eq_true] at h
    obtain ⟨⟨h2, h4⟩, h5⟩ := h
    obtain rfl := eq_of_beq h1
    obtain rfl := eq_of_beq h2
    exact both G rfl (minD_snd G h3 h4 (sndE G hc a sc ns _ h4).1 (sndE G hc d sc ns _ h5).1)
  | .meth m a es, sc, ns, e, h => by
    replace h := ifCall.spec h
    obtain ⟨g, xs, ks, pos, rfl, h⟩ := h
    rw [Bool.and_eq_true] at h
    obtain rfl := List.isEmpty_iff.mp h.1
    replace h := ifAttr.spec h.2
    obtain ⟨o, x, apos, rfl, h⟩ := h
    simp only [Bool.and_eq_true, decide_eq_true_eq] at h
    obtain ⟨⟨⟨⟨⟨h2, h3⟩, h4⟩, h5⟩, h6⟩, h7⟩ := h
    obtain rfl := eq_of_beq h2
    have hb := (sndE G hc a sc ns _ h6).1
    have hs := sndEs G hc es sc ns xs h7
    have hl := chkEs_len h7
    cases m
    obtain ⟨c, rfl⟩ := List.length_eq_one_iff.mp (hl.trans h5)
    obtain ⟨e, rfl⟩ := List.length_eq_one_iff.mp h5
    exact both G rfl (append_snd h3 h4 hb hs)
  | .comp nl elt t it cs, sc, ns, e, h => by
    replace h := ifComp.spec h
    obtain ⟨x, gs, cs', p, rfl, h⟩ := h
    replace h := if1.spec h
    obtain ⟨g, rfl, h⟩ := h
    replace h := ifGen.spec h
    obtain ⟨tg, iter, ifs, rfl, h⟩ := h
    simp only [Bool.and_eq_true, decide_eq_true_eq] at h
    obtain ⟨⟨⟨⟨⟨⟨h1, h2⟩, h3⟩, h4⟩, h5⟩, h6⟩, h7⟩ := h
    subst h1
    exact both G rfl (comp_snd (scIn_spec h2) rfl h5 h4 (sndIt G hc it sc ns _ h3) (sndE G hc elt _ _ _ h6).1 (sndEs G hc cs _ _ _ h7))
  | .listOf a, sc, ns, e, h => by
    replace h := ifCall.spec h
    obtain ⟨g, xs, ks, p, rfl, h⟩ := h
    rw [Bool.and_eq_true] at h
    obtain rfl := List.isEmpty_iff.mp h.1
    replace h := ifName.spec h.2
    obtain ⟨x, q, rfl, h⟩ := h
    simp only [Bool.and_eq_true] at h
    obtain ⟨⟨h1, h2⟩, h⟩ := h
    replace h := if1.spec h
    obtain ⟨e, rfl, h⟩ := h
    obtain rfl := eq_of_beq h1
    exact both G rfl (listOf_snd G h2 h (sndE G hc a sc ns e h).1)
theorem sndEs (G : X.Gl C) (hc : X.CallOk C n) : ∀ (cs : List E) (sc : Scope) (ns : List Str) (es : List Expr), chkEs X.K sc ns cs es = true → LsS X C n sc ns cs es
  | [], sc, ns, es, h => by
    obtain rfl := List.isEmpty_iff.mp h
    exact .nil
  | c :: cs, sc, ns, es, h => by
    replace h := ifCons.spec h
    obtain ⟨e, es, rfl, h⟩ := h
    rw [Bool.and_eq_true] at h
    exact .cons G h.1 (chkEs_len h.2) (sndE G hc c sc ns e h.1) (sndEs G hc cs sc ns es h.2)
theorem sndO (G : X.Gl C) (hc : X.CallOk C n) : ∀ (lo : Option E) (sc : Scope) (ns : List Str) (l : Option Expr), chkO X.K sc ns lo l = true → ∀ c e, lo = some c → l = some e → EvS X C n sc ns c e
  | none, _, _, _, _, _, _, h, _ => by cases h
  | some c, sc, ns, l, h, c', e, h1, h2 => by
    cases h1
    subst h2
    exact (sndE G hc c sc ns e h).1
theorem sndIt (G : X.Gl C) (hc : X.CallOk C n) : ∀ (it : It) (sc : Scope) (ns : List Str) (e : Expr), chkIt X.K sc ns it e = true → ItS X C n sc ns it e
  | .of c, sc, ns, e, h => of_its G h (sndE G hc c sc ns e h).1
  | .range a b, sc, ns, e, h => by
    replace h := ifCall.spec h
    obtain ⟨g, xs, ks, p, rfl, h⟩ := h
    rw [Bool.and_eq_true] at h
    obtain rfl := List.isEmpty_iff.mp h.1
    replace h := ifName.spec h.2
    obtain ⟨x, q, rfl, h⟩ := h
    simp only [Bool.and_eq_true, Bool.or_eq_true] at h
    obtain ⟨⟨h1, h2⟩, h⟩ := h
    obtain rfl := eq_of_beq h1
    rcases h with h | h
    · replace h := if1.spec h
      obtain ⟨e, rfl, h⟩ := h
      rw [Bool.and_eq_true] at h
      obtain rfl := isZeroE.spec h.1
      exact range1_its G h2 h.2 (sndE G hc _ sc ns _ h.2).1
    · replace h := if2.spec h
      obtain ⟨e1, e2, rfl, h⟩ := h
      rw [Bool.and_eq_true] at h
      exact range2_its G h2 h.1 h.2 (sndE G hc _ sc ns _ h.1).1 (sndE G hc _ sc ns _ h.2).1
  | .enum c, sc, ns, e, h => by
    replace h := ifCall.spec h
    obtain ⟨g, xs, ks, p, rfl, h⟩ := h
    rw [Bool.and_eq_true] at h
    obtain rfl := List.isEmpty_iff.mp h.1
    replace h := ifName.spec h.2
    obtain ⟨x, q, rfl, h⟩ := h
    simp only [Bool.and_eq_true] at h
    obtain ⟨⟨h1, h2⟩, h⟩ := h
    obtain rfl := eq_of_beq h1
    replace h := if1.spec h
    obtain ⟨e, rfl, h⟩ := h
    exact enum_its G h2 h (sndE G hc _ sc ns _ h).1
end
end
end Mine

end
section
set_option autoImplicit false
set_option linter.unusedVariables false
set_option linter.unusedSimpArgs false
set_option maxRecDepth 100000
namespace Mine
open PySem PySem.Calls PyProof.Rows

section
variable {X : Fix} {C : Ctx} {A : Around} {n : Nat} {Ex : Value → Shared → Prop} {s : Shared} {φ : List Addr} {H : Hp} {sc : Scope} {ns : List Str} {env : Env} {ρ : Env'} {own : List Addr}

theorem outV {r : R V} {f : V → Hp → Out} {Q : Flow → Shared → Prop} {Q1 : Value → Shared → Prop} (p : PostO X.W env ns own φ s Q (r.out ρ f)) (k : ∀ v H1, PostO X.W env ns own φ s Q (f v H1) → PostV X.W φ s Q1 (.ok v H1)) : PostV X.W φ s Q1 r := by
  cases r with
  | ok v H1 => exact k v H1 p
  | stuck => exact p.elim
theorem outB {r : R Bool} {f : Bool → Hp → Out} {Q : Flow → Shared → Prop} {Q1 : Bool → Shared → Prop} (p : PostO X.W env ns own φ s Q (r.out ρ f)) (k : ∀ v H1, PostO X.W env ns own φ s Q (f v H1) → PostB X.W φ s Q1 (.ok v H1)) : PostB X.W φ s Q1 r := by
  cases r with
  | ok v H1 => exact k v H1 p
  | stuck => exact p.elim

theorem noSwap {x : Expr} {o : Option Expr} (h : notComp x = true) (line : Nat) : swapsWith x o line env = pure false := by
  cases x <;> first | rfl | cases h
theorem tgt_of {t : Tgt} {tg : Expr} (h : chkT sc ns t tg = true) : tg.ctorIdx = 23 ∨ tg.ctorIdx = 25 := by
  cases t with
  | var i => exact .inl (got h)
  | tup ts => exact .inr (got h)
theorem each_of {t : Tgt} {tg : Expr} (h : chkT sc ns t tg = true) : assignEach [tg] env = [(false, assign tg env)] := by
  rcases tgt_of h with h | h
  · exact Expr.Name.elim (motive_1 := fun tg => assignEach [tg] env = [(false, assign tg env)]) tg h fun _ _ => rfl
  · exact Expr.Tuple.elim (motive_1 := fun tg => assignEach [tg] env = [(false, assign tg env)]) tg h fun _ _ _ => rfl

theorem expr_snd {e : E} {x : Expr} {pos : Pos} (hn : notComp x = true) (he : EvS X C n sc ns e x) : SS X C n sc ns (.expr e) (.Expr x pos) := by
  intro A env own ρ φ H s Q Ex rm kd hown F R p
  rw [execS_expr] at p
  refine wpAny_Expr_any (he A env ρ φ H s _ Ex rm kd F R (outV p fun v H1 p1 => ?_)) F.gen.2.2 (noSwap hn _)
  exact fun φ1 h1 tk x R1 S1 r1 => p1 φ1 h1 tk R1 (F.mono0 S1) S1.nil

/-- an assignment whose value is no comprehension -/
theorem asgS_snd {t : Tgt} {e : E} {tg x : Expr} {pos : Pos} (hn : notComp x = true) (ht : chkT sc ns t tg = true) (hx : noPair tg x = true) (he : EvS X C n sc ns e x) : SS X C n sc ns (.asg t e) (.Assign [tg] x pos) := by
  intro A env own ρ φ H s Q Ex rm kd hown F R p
  rw [execS_asg] at p
  have key : ∀ {Q1 : Value → Shared → Prop}, (∀ v ρ' H1 φ1 h1 tk y, asg t v ρ = some ρ' → SR X.W φ1 H1 h1 → Stp [] φ s.heap φ1 h1 → Rep X.W.scr φ1 h1 v y → PostO X.W env ns own φ s Q (.next ρ' H1) → Q1 y { s with heap := h1, toks := tk }) → PostV X.W φ s Q1 (evalE C e ρ H) := by
    intro Q1 hq
    refine outV p fun v H1 p1 => ?_
    intro φ1 h1 tk y R1 S1 r1
    cases ha : asg t v ρ with
    | none => rw [ha] at p1; exact p1.elim
    | some ρ' => rw [ha] at p1; exact hq v ρ' H1 φ1 h1 tk y ha R1 S1 r1 p1
  have fin : ∀ v ρ' H1 φ1 h1 tk y, asg t v ρ = some ρ' → SR X.W φ1 H1 h1 → Stp [] φ s.heap φ1 h1 → Rep X.W.scr φ1 h1 v y → PostO X.W env ns own φ s Q (.next ρ' H1) → wpAny X.M A (assign tg env y) (fun _ => Q .next) Ex { s with heap := h1, toks := tk } := by
    intro v ρ' H1 φ1 h1 tk y ha R1 S1 r1 p1
    refine asg_snd (own := own) t tg v y A ρ ρ' φ1 H1 { s with heap := h1, toks := tk } _ _ ht (fun x hx => hown.1 x (tNames_sub t tg ht x hx)) rm (F.mono0 S1) R1 r1 ha fun h2 tk2 R2 F2 S2 => ?_
    exact p1 φ1 h2 tk2 R2 F2 (S1.nil.trans S2)
  refine wpAny_Assign_stores (he A env ρ φ H s _ Ex rm kd F R (key fun v ρ' H1 φ1 h1 tk y ha R1 S1 r1 p1 => ?_)) (noSwap hn _) ?_
  · rw [each_of ht]
    exact fin v ρ' H1 φ1 h1 tk y ha R1 S1 r1 p1
  · cases tg <;> first | rfl | (cases t <;> exact Bool.noConfusion ht) | skip
    cases x <;> first | rfl | cases hx

theorem ret_snd {e : E} {x : Expr} {pos : Pos} (he : EvS X C n sc ns e x) : SS X C n sc ns (.ret e) (.Return (some x) pos) := by
  intro A env own ρ φ H s Q Ex rm kd hown F R p
  rw [execS_ret] at p
  refine wpAny_Return_some (he A env ρ φ H s _ Ex rm kd F R (outV p fun v H1 p1 => ?_))
  exact fun φ1 h1 tk x R1 S1 r1 => p1 φ1 h1 tk x R1 S1.nil r1

theorem if_snd {c : E} {a b : List S} {t : Expr} {x y : List Stmt} {pos : Pos} (hc : TrS X C n sc ns c t) (ha : SsS X C n sc ns a x) (hb : SsS X C n sc ns b y) : SS X C n sc ns (.ife c a b) (.If t x y pos) := by
  intro A env own ρ φ H s Q Ex rm kd hown F R p
  rw [execS_ife] at p
  refine wpAny_If (hc A env ρ φ H s _ Ex rm kd F R (outB p fun v H1 p1 => ?_))
  intro φ1 h1 tk R1 S1
  cases v with
  | true => exact ha A env own ρ φ1 H1 { s with heap := h1, toks := tk } _ Ex rm kd hown (F.mono0 S1) R1 (p1.step S1.nil)
  | false => exact hb A env own ρ φ1 H1 { s with heap := h1, toks := tk } _ Ex rm kd hown (F.mono0 S1) R1 (p1.step S1.nil)

/-- what holds between two turns of a while loop -/
inductive WTurn (X : Fix) (C : Ctx) (s : Shared) (φ : List Addr) (env : Env) (ns : List Str) (own : List Addr) (c : E) (b : List S) (Q : Flow → Shared → Prop) (k : Nat) (s' : Shared) : Prop
  | mk (ρ' : Env') (H' : Hp) (φ' : List Addr) (h' : Heap) (tk : Nat) (e1 : s' = { s with heap := h', toks := tk }) (F : FR X.W env ns ρ' φ' h') (R : SR X.W φ' H' h') (S : Stp own φ s.heap φ' h')
    (p : PostO X.W env ns own φ s Q (whileG (fun ρ H => tst C c ρ H) (fun ρ H => execSs C b ρ H) k ρ' H')) : WTurn X C s φ env ns own c b Q k s'

theorem while_snd {c : E} {b : List S} {t : Expr} {y : List Stmt} {pos : Pos} (hc : TrS X C n sc ns c t) (hb : SsS X C n sc ns b y) : SS X C n sc ns (.while c b) (.While t y [] pos) := by
  intro A env own ρ φ H s Q Ex rm kd hown F R p
  rw [execS_while0] at p
  refine wpAny_While (codeAny_whileLoop (WTurn X C s φ env ns own c b Q) ?_ _ ⟨ρ, H, φ, s.heap, s.toks, rfl, F, R, .refl, p⟩)
  rintro k s' ⟨ρ', H', φ', h', tk, rfl, F', R', S', p'⟩
  cases k with
  | zero => exact p'.elim
  | succ k =>
    rw [whileG] at p'
    refine hc A env ρ' φ' H' { s with heap := h', toks := tk } _ _ rm kd F' R' ?_
    cases ht : tst C c ρ' H' with
    | stuck => rw [ht] at p'; exact p'.elim
    | ok v H1 =>
      rw [ht] at p'
      intro φ1 h1 tk1 R1 S1
      have F1 := F'.mono0 S1
      have S2 : Stp own φ s.heap φ1 h1 := S'.trans S1.nil
      cases v with
      | false => exact wpAny_execs_nil (p' φ1 h1 tk1 R1 F1 S2)
      | true =>
        refine hb A env own ρ' φ1 H1 { s with heap := h1, toks := tk1 } _ _ rm kd hown F1 R1 ?_
        simp only [Mine.R.out, if_true] at p'
        cases hx : execSs C b ρ' H1 with
        | next ρ2 H2 => rw [hx] at p'; exact fun φ2 h2 tk2 R2 F2 S3 => ⟨k, Nat.lt_succ_self _, ρ2, H2, φ2, h2, tk2, rfl, F2, R2, S2.trans S3, p'⟩
        | ret v2 H2 => rw [hx] at p'; exact fun φ2 h2 tk2 x R2 S3 r3 => p' φ2 h2 tk2 x R2 (S2.trans S3) r3
        | stuck => rw [hx] at p'; exact p'.elim

theorem ss_nil : SsS X C n sc ns [] [] := by
  intro A env own ρ φ H s Q Ex rm kd hown F R p
  rw [execSs_nil0] at p
  exact wpAny_execs_nil (p φ s.heap s.toks R F .refl)
theorem ss_cons {c : S} {cs : List S} {st : Stmt} {ss : List Stmt} (h1 : SS X C n sc ns c st) (h2 : SsS X C n sc ns cs ss) : SsS X C n sc ns (c :: cs) (st :: ss) := by
  intro A env own ρ φ H s Q Ex rm kd hown F R p
  rw [execSs_cons0] at p
  refine wpAny_execs_cons (h1 A env own ρ φ H s _ Ex rm kd hown F R ?_)
  cases hx : execS C c ρ H with
  | next ρ2 H2 => rw [hx] at p; exact fun φ2 h2' tk2 R2 F2 S3 => h2 A env own ρ2 φ2 H2 { s with heap := h2', toks := tk2 } Q Ex rm kd hown F2 R2 (p.step S3)
  | ret v2 H2 => rw [hx] at p; exact p
  | stuck => rw [hx] at p; exact p.elim

theorem setAt_own {prog : Program} {w : World} {A : Around} {E : Value → Shared → Prop} {s : Shared} {l : Addr} {xs : List Value} {n : Nat} {k : Int} {t : Tok} {v : Value} {Q : Unit → Shared → Prop} (ho : s.heap.get? l = some (lstObj xs n)) (h0 : 0 ≤ k) (hfit : k < 2 ^ 63) (hn : k < xs.toArray.size)
    (hQ : Q () { s with heap := s.heap.update l (Obj.mapSeq (·.setIfInBounds k.toNat v)) }) : wpAny (model prog w) A (setItem (.ref l) (.int k t) v) Q E s := by
  have hl : s.heap.IsList l xs.toArray := isList_of ho
  unfold setItem
  refine wpAny_holding (wpAny_bind (wpAny_sequenceKey hl.typeIs (by decide) (wpAny_bind (wpAny_callSpecial?_slot (name := Str.ofString "__setitem__") hl.typeIs PySem.slot_list_setitem
    (wpAny_call_entry PySem.slot_list_setitem hl.typeIs PySem.entry_list_setitem ?_ (PySem.args_list_setitem _ _ _))))))
  show wpAny _ _ (Builtin.List.listSubscript? (.int k t) >>= _) _ _ s
  refine wpAny_bind (wpAny_listSubscript_int (fitsIndex_of h0 hfit) ?_)
  clear hfit
  obtain ⟨j, rfl⟩ := Int.eq_ofNat_of_zero_le h0
  have hj : j < xs.toArray.size := by omega
  show wpAny _ _ ((seqItemAt l j >>= fun r => pure (r.map (j, ·))) >>= _) _ _ s
  refine wpAny_bind (wpAny_bind (wpAny_seqItemAt ho rfl (wpAny_pure ?_)))
  rw [Array.getElem?_eq_getElem hj]
  show wpAny _ _ (setSeqItemAt l j v >>= _) _ _ s
  refine wpAny_bind (wpAny_setSeqItemAt ho rfl ?_)
  first
    | exact wpAny_bind (wpAny_pure (wpAny_pure ⟨.none, rfl, wpAny_pure hQ⟩))
    | exact wpAny_pure ⟨.none, rfl, wpAny_pure hQ⟩
theorem setIdx_snd {a i e : E} {o j x : Expr} {sp pos : Pos} (G : X.Gl C) (hn : notComp x = true) (ha : EvS X C n sc ns a o) (hi : EvS X C n sc ns i j) (he : EvS X C n sc ns e x) : SS X C n sc ns (.setIdx a i e) (.Assign [.Subscript o j sp] x pos) := by
  intro A env own ρ φ H s Q Ex rm kd hown F R p
  rw [execS_setIdx] at p
  refine wpAny_Assign_Subscript (he A env ρ φ H s _ Ex rm kd F R (outV p fun v H1 p1 => ?_)) (noSwap hn _)
  intro φ1 h1 tk1 y R1 S1 r1
  refine ha A env ρ φ1 H1 { s with heap := h1, toks := tk1 } _ Ex rm kd (F.mono0 S1) R1 (outV (p1.step S1.nil) fun u H2 p2 => ?_)
  intro φ2 h2 tk2 z R2 S2 r2
  refine hi A env ρ φ2 H2 { s with heap := h2, toks := tk2 } _ Ex rm kd ((F.mono0 S1).mono0 S2) R2 (outV (p2.step S2.nil) fun k H3 p3 => ?_)
  intro φ3 h3 tk3 kx R3 S3 r3
  have F3 := ((F.mono0 S1).mono0 S2).mono0 S3
  have ru := r2.mono S3
  have rv := (r1.mono S2).mono S3
  cases hs : setIdxV u k v H3 with
  | none => rw [hs] at p3; exact p3.elim
  | some H4 =>
    rw [hs] at p3
    unfold setIdxV at hs
    split at hs
    · rename_i l
      split at hs
      · rename_i xs hl
        split at hs
        · rename_i k'
          split at hs
          · rename_i hk
            cases hs
            obtain ⟨ad, ys, m, rfl, had, q1, q2, q3⟩ := listAt (s := { s with heap := h3, toks := tk3 }) R3 ru hl
            cases r3
            rename_i t
            have hlen := q2.length
            refine setAt_own (s := { s with heap := h3, toks := tk3 }) (n := m) q1 hk.1 (by omega) (by rw [List.size_toArray, ← hlen]; exact hk.2) ?_
            have hlt : k'.toNat < ys.length := by omega
            have he4 : (h3.update ad (Obj.mapSeq (·.setIfInBounds k'.toNat y))).get? ad = some (lstObj (ys.set k'.toNat y) m) := by
              rw [Heap.get?_update_self _ q1 rfl]
              simp [Obj.mapSeq]
            obtain ⟨R4, S4⟩ := setList (s := { s with heap := h3, toks := tk3 }) (vs := xs) (k' := m) R3 had q1 (Heap.SameBut.update ..).extBut he4 (q2.set k'.toNat rv) (by simpa using q3)
            exact p3 φ3 _ tk3 R4 (F3.mono0 S4) (S3.trans S4).nil
          · cases hs
        · cases hs
      · cases hs
    · cases hs
end
end Mine

end
section
set_option autoImplicit false
set_option linter.unusedVariables false
set_option linter.unusedSimpArgs false
namespace Mine
open PySem PySem.Calls PyProof.Rows

section
variable {X : Fix} {C : Ctx} {n : Nat}
theorem asgC_snd (G : X.Gl C) (hc : X.CallOk C n) {sc : Scope} {ns : List Str} {u : Tgt} {e : E} {tg x : Expr} {pos : Pos} (hn : isNameE tg = true) (he : isCompE e = true) (hu : chkT sc ns u tg = true) (h : chkE X.K sc ns e x = true) : SS X C n sc ns (.asg u e) (.Assign [tg] x pos) := by
  refine Expr.Name.elim (motive_1 := fun tg => chkT sc ns u tg = true → SS X C n sc ns (.asg u e) (.Assign [tg] x pos)) tg (of_decide_eq_true hn) (fun y py hu => ?_) hu
  refine E.comp.elim (motive_1 := fun e => chkE X.K sc ns e x = true → SS X C n sc ns (.asg u e) (.Assign [.Name y py] x pos)) e (of_decide_eq_true he) (fun nl elt t it cs k => ?_) h
  clear h
  replace k := ifComp.spec k
  obtain ⟨x, gs, cs', p, rfl, k⟩ := k
  replace k := if1.spec k
  obtain ⟨g, rfl, k⟩ := k
  replace k := ifGen.spec k
  obtain ⟨tg, iter, ifs, rfl, k⟩ := k
  simp only [Bool.and_eq_true, decide_eq_true_eq] at k
  obtain ⟨⟨⟨⟨⟨⟨h1, h2⟩, h3⟩, h4⟩, h5⟩, h6⟩, h7⟩ := k
  subst h1
  exact asgComp_snd (scIn_spec h2) rfl h5 h4 (sndIt G hc _ sc ns _ h3) (sndE G hc _ _ _ _ h6).1 (sndEs G hc _ _ _ _ h7) hu
mutual
theorem sndS (G : X.Gl C) (hc : X.CallOk C n) : ∀ (c : S) (sc : Scope) (ns : List Str) (st : Stmt), chkS X.K sc ns c st = true → SS X C n sc ns c st
  | .expr e, sc, ns, st, h => by
    replace h := isExprS.spec h
    obtain ⟨x, p, rfl, h⟩ := h
    rw [Bool.and_eq_true] at h
    exact expr_snd h.2 (sndE G hc e sc ns _ h.1).1
  | .asg t e, sc, ns, st, h => by
    replace h := isAssign.spec h
    obtain ⟨ts, x, pos, rfl, h⟩ := h
    replace h := if1.spec h
    obtain ⟨tg, rfl, h⟩ := h
    simp only [Bool.and_eq_true, Bool.or_eq_true] at h
    obtain ⟨⟨⟨h1, h2⟩, h3⟩, h4⟩ := h
    rcases h3 with h3 | h3
    · exact asgC_snd G hc h3.1 h3.2 h1 h2
    · exact asgS_snd h3 h1 h4 (sndE G hc e sc ns _ h2).1
  | .setIdx a i e, sc, ns, st, h => by
    replace h := isAssign.spec h
    obtain ⟨ts, x, pos, rfl, h⟩ := h
    replace h := if1.spec h
    obtain ⟨tg, rfl, h⟩ := h
    replace h := ifSub.spec h
    obtain ⟨o, j, p, rfl, h⟩ := h
    simp only [Bool.and_eq_true] at h
    exact setIdx_snd G h.2 (sndE G hc a sc ns _ h.1.1.1).1 (sndE G hc i sc ns _ h.1.1.2).1 (sndE G hc e sc ns _ h.1.2).1
  | .ret e, sc, ns, st, h => by
    replace h := isReturn.spec h
    obtain ⟨x, p, rfl, h⟩ := h
    replace h := ifSome.spec h
    obtain ⟨x, rfl, h⟩ := h
    exact ret_snd (sndE G hc e sc ns _ h).1
  | .ife c a b, sc, ns, st, h => by
    replace h := isIf.spec h
    obtain ⟨t, x, y, p, rfl, h⟩ := h
    simp only [Bool.and_eq_true] at h
    exact if_snd (sndE G hc c sc ns _ h.1.1).2 (sndSs G hc a sc ns _ h.1.2) (sndSs G hc b sc ns _ h.2)
  | .for t it body, sc, ns, st, h => by
    replace h := isFor.spec h
    obtain ⟨tg, iter, b, o, p, rfl, h⟩ := h
    simp only [Bool.and_eq_true] at h
    obtain rfl := List.isEmpty_iff.mp h.1.1.1.1
    exact for_snd h.1.1.1.2 h.1.1.2 (sndIt G hc it sc ns _ h.1.2) (sndSs G hc body sc ns _ h.2)
  | .while c body, sc, ns, st, h => by
    replace h := isWhile.spec h
    obtain ⟨t, b, o, p, rfl, h⟩ := h
    simp only [Bool.and_eq_true] at h
    obtain rfl := List.isEmpty_iff.mp h.1.1
    exact while_snd (sndE G hc c sc ns _ h.1.2).2 (sndSs G hc body sc ns _ h.2)
theorem sndSs (G : X.Gl C) (hc : X.CallOk C n) : ∀ (cs : List S) (sc : Scope) (ns : List Str) (ss : List Stmt), chkSs X.K sc ns cs ss = true → SsS X C n sc ns cs ss
  | [], sc, ns, ss, h => by
    obtain rfl := List.isEmpty_iff.mp h
    exact ss_nil
  | c :: cs, sc, ns, ss, h => by
    replace h := ifCons.spec h
    obtain ⟨st, ss, rfl, h⟩ := h
    rw [Bool.and_eq_true] at h
    exact ss_cons (sndS G hc c sc ns st h.1) (sndSs G hc cs sc ns ss h.2)
end
end
end Mine

end
section
set_option autoImplicit false
set_option linter.unusedVariables false
set_option linter.unusedSimpArgs false
namespace Mine
open PySem PySem.Calls PyProof.Rows

theorem lookup_zip {α : Type} : ∀ (ps : List Str) (xs : List α) (i : Nat) (x : Str) (v : α), ps.Nodup → ps[i]? = some x → xs[i]? = some v → (ps.zip xs).lookup x = some v
  | [], _, i, x, v, _, h, _ => by simp at h
  | p :: ps, [], i, x, v, _, _, h => by simp at h
  | p :: ps, y :: xs, 0, x, v, _, h1, h2 => by
    simp at h1 h2
    subst h1; subst h2
    simp
  | p :: ps, y :: xs, i + 1, x, v, hn, h1, h2 => by
    simp at h1 h2
    rw [List.nodup_cons] at hn
    have hne : ¬ (x == p) = true := fun e => hn.1 (by rw [← eq_of_beq e]; exact List.mem_of_getElem? h1)
    rw [List.zip_cons_cons, List.lookup_cons]
    simp only [hne]
    exact lookup_zip ps xs i x v hn.2 h1 h2

theorem filterMap_zip {α : Type} : ∀ (ps : List Str) (xs : List α) (f : Str → Option α), ps.length = xs.length → (∀ (i : Nat) (x : Str) (v : α), ps[i]? = some x → xs[i]? = some v → f x = some v) → ps.filterMap (fun n => (f n).map (n, ·)) = ps.zip xs
  | [], [], _, _, _ => rfl
  | [], _ :: _, _, h, _ => by cases h
  | _ :: _, [], _, h, _ => by cases h
  | p :: ps, x :: xs, f, h, hf => by
    have h0 := hf 0 p x rfl rfl
    rw [List.filterMap_cons, h0]
    simp only [Option.map_some, List.zip_cons_cons]
    rw [filterMap_zip ps xs f (by simpa using h) fun i y v h1 h2 => hf (i + 1) y v (by simpa using h1) (by simpa using h2)]

theorem bindArgs_eq {name : Str} {params : Arguments} {body : List Stmt} {scope : Scope} {pm cd doc : Value} {ps : List Str} {xs : List Value} (hp : plainParams params ps = true) (hn : ps.Nodup) (hl : ps.length = xs.length) :
    bindArgs (docDef name params body scope pm cd doc) ⟨xs, []⟩ = pure (ps.zip xs) := by
  obtain ⟨po, ar, va, ko, kd, kw, df⟩ := params
  simp only [plainParams, Bool.and_eq_true, List.isEmpty_iff, Option.isNone_iff_eq_none, decide_eq_true_eq] at hp
  obtain ⟨⟨⟨⟨⟨⟨rfl, rfl⟩, rfl⟩, rfl⟩, rfl⟩, rfl⟩, hps⟩ := hp
  have key : ∀ (i : Nat) (x : Str) (v : Value), ps[i]? = some x → xs[i]? = some v → (ps.zip xs).lookup x = some v := fun i x v h1 h2 => lookup_zip ps xs i x v hn h1 h2
  have hmiss : (ps.filter fun n => ((ps.zip xs).lookup n).isNone) = [] := by
    rw [List.filter_eq_nil_iff]
    intro x hx
    obtain ⟨i, hi, rfl⟩ := List.getElem_of_mem hx
    rw [key i ps[i] xs[i] (by simp) (by simp)]
    simp
  unfold bindArgs
  have e1 : seqItems? Value.none = (pure none : Sem _) := rfl
  have e2 : ∀ {α β : Type} (a : α) (f : α → Sem β), (pure a >>= f) = f a := fun _ _ => rfl
  have e3 : ¬ (xs.length > ps.length) := by omega
  simp only [docDef, List.map_nil, List.nil_append, List.append_nil, hps, List.forIn_nil, e1, e2, e3, decide_false, Bool.false_and, Bool.false_eq_true, if_false, Option.getD_none, Array.toList_empty, List.length_nil, Nat.zero_sub, List.drop_nil, Nat.sub_zero, List.take_length, hmiss, List.isEmpty_nil, Bool.not_true, List.zip_nil_right]
  rw [filterMap_zip ps xs _ hl key]
end Mine

end
section
set_option autoImplicit false
set_option linter.unusedVariables false
set_option linter.unusedSimpArgs false
namespace Mine
open PySem PySem.Calls PyProof.Rows

theorem cellsFrom_mem : ∀ (names : List (Str × NameKind)) (k : Nat) (acc : List (Str × Addr)) (x : Str) (c : Addr), (x, c) ∈ cellsFrom k names acc → (x, c) ∈ acc ∨ ((x, NameKind.cell) ∈ names ∧ k ≤ c)
  | [], _, _, _, _, h => .inl h
  | (y, kd) :: r, k, acc, x, c, h => by
    unfold cellsFrom at h
    split at h
    · rename_i hk
      have hk : kd = .cell := by simpa using hk
      rcases cellsFrom_mem r (k + 1) _ x c h with h | ⟨h1, h2⟩
      · rcases List.mem_cons.mp h with h | h
        · cases h; subst hk; exact .inr ⟨.head _, Nat.le_refl _⟩
        · exact .inl h
      · exact .inr ⟨.tail _ h1, by omega⟩
    · rcases cellsFrom_mem r k _ x c h with h | ⟨h1, h2⟩
      · exact .inl h
      · exact .inr ⟨.tail _ h1, h2⟩

theorem cellsFrom_some' : ∀ (names : List (Str × NameKind)) (k : Nat) (acc : List (Str × Addr)) (x : Str), names.lookup x = some .cell ∨ (acc.lookup x).isSome = true → ((cellsFrom k names acc).lookup x).isSome = true
  | [], _, _, _, h => h.elim (fun e => by cases e) id
  | (y, kd) :: r, k, acc, x, h => by
    unfold cellsFrom
    rw [List.lookup_cons] at h
    by_cases hk : (kd == NameKind.cell) = true
    · rw [if_pos hk]
      refine cellsFrom_some' r (k + 1) _ x ?_
      by_cases hy : (x == y) = true
      · exact .inr (by rw [List.lookup_cons, hy]; rfl)
      · have hy' : (x == y) = false := by simpa using hy
        rw [hy'] at h
        rw [List.lookup_cons, hy']
        exact h
    · rw [if_neg hk]
      refine cellsFrom_some' r k acc x ?_
      by_cases hy : (x == y) = true
      · rw [hy] at h
        refine .inr (h.elim (fun e => ?_) id)
        exact absurd (by rw [Option.some.inj e]; rfl) hk
      · have hy' : (x == y) = false := by simpa using hy
        rw [hy'] at h
        exact h

theorem cellsFrom_nodup : ∀ (names : List (Str × NameKind)) (k : Nat) (acc : List (Str × Addr)), (names.map (·.1)).Nodup → (acc.map (·.1)).Nodup → (∀ p ∈ names, ∀ q ∈ acc, p.1 ≠ q.1) → ((cellsFrom k names acc).map (·.1)).Nodup
  | [], _, acc, _, h, _ => h
  | (y, kd) :: r, k, acc, h1, h2, h3 => by
    rw [List.map_cons, List.nodup_cons] at h1
    unfold cellsFrom
    split
    · refine cellsFrom_nodup r (k + 1) _ h1.2 ?_ ?_
      · rw [List.map_cons, List.nodup_cons]
        refine ⟨fun hm => ?_, h2⟩
        obtain ⟨q, hq, e⟩ := List.mem_map.mp hm
        exact h3 (y, kd) (.head _) q hq e.symm
      · intro p hp q hq
        rcases List.mem_cons.mp hq with rfl | hq
        · intro e
          exact h1.1 (e ▸ List.mem_map.mpr ⟨p, hp, rfl⟩)
        · exact h3 p (.tail _ hp) q hq
    · exact cellsFrom_nodup r k _ h1.2 h2 fun p hp q hq => h3 p (.tail _ hp) q hq

theorem lookup_of_mem {x : Str} {c : Addr} : ∀ {l : List (Str × Addr)}, (l.map (·.1)).Nodup → (x, c) ∈ l → l.lookup x = some c
  | (y, d) :: r, hn, h => by
    rw [List.map_cons, List.nodup_cons] at hn
    rw [List.lookup_cons]
    rcases List.mem_cons.mp h with h | h
    · cases h; simp
    · have hne : ¬ (x == y) = true := fun e => hn.1 (by rw [← eq_of_beq e]; exact List.mem_map.mpr ⟨(x, c), h, rfl⟩)
      simp only [hne]
      exact lookup_of_mem hn.2 h

theorem bindL_eq (kf : Str → Option NameKind) : ∀ (binds : List (Str × Value)) (m : Str → Option Value) (x : Str), (binds.map (·.1)).Nodup → kf x = some .local → PySem.bindL kf binds m x = (match binds.lookup x with | some v => some v | none => m x)
  | [], m, x, _, _ => rfl
  | (y, v) :: r, m, x, hn, hk => by
    rw [List.map_cons, List.nodup_cons] at hn
    unfold PySem.bindL
    rw [bindL_eq kf r _ x hn.2 hk, List.lookup_cons]
    by_cases e : x = y
    · subst e
      have : r.lookup x = none := by
        cases hr : r.lookup x with
        | none => rfl
        | some u =>
          exfalso
          refine hn.1 ?_
          clear hn
          induction r with
          | nil => cases hr
          | cons p r ih =>
            obtain ⟨z, w⟩ := p
            rw [List.lookup_cons] at hr
            split at hr
            · rename_i e; rw [eq_of_beq e]; simp
            · exact List.mem_cons_of_mem _ (ih hr)
      rw [this]
      simp [hk]
    · have hne : (x == y) = false := by simpa using e
      rw [hne]
      dsimp only
      cases r.lookup x with
      | some u => rfl
      | none =>
        dsimp only
        split
        · simp [e]
        · rfl
theorem bindC_eq (kf : Str → Option NameKind) : ∀ (binds : List (Str × Value)) (m : Str → Option Value) (x : Str), (binds.map (·.1)).Nodup → kf x = some .cell → PySem.bindC kf binds m x = (match binds.lookup x with | some v => some v | none => m x)
  | [], m, x, _, _ => rfl
  | (y, v) :: r, m, x, hn, hk => by
    rw [List.map_cons, List.nodup_cons] at hn
    unfold PySem.bindC
    rw [bindC_eq kf r _ x hn.2 hk, List.lookup_cons]
    by_cases e : x = y
    · subst e
      have : r.lookup x = none := by
        cases hr : r.lookup x with
        | none => rfl
        | some u =>
          exfalso
          refine hn.1 ?_
          clear hn
          induction r with
          | nil => cases hr
          | cons p r ih =>
            obtain ⟨z, w⟩ := p
            rw [List.lookup_cons] at hr
            split at hr
            · rename_i e; rw [eq_of_beq e]; simp
            · exact List.mem_cons_of_mem _ (ih hr)
      rw [this]
      simp [hk]
    · have hne : (x == y) = false := by simpa using e
      rw [hne]
      dsimp only
      cases r.lookup x with
      | some u => rfl
      | none =>
        dsimp only
        split
        · rfl
        · simp [e]

theorem lookup_zip_mem {α : Type} : ∀ (ps : List Str) (xs : List α) (x : Str) (y : α), (ps.zip xs).lookup x = some y → x ∈ ps
  | [], _, _, _, h => by simp at h
  | p :: ps, [], _, _, h => by simp at h
  | p :: ps, w :: xs, x, y, h => by
    rw [List.zip_cons_cons, List.lookup_cons] at h
    split at h
    · rename_i e; rw [eq_of_beq e]; simp
    · exact List.mem_cons_of_mem _ (lookup_zip_mem ps xs x y h)

section
variable {X : Fix} {s : Shared} {φ : List Addr} {H : Hp}

/-- the arguments stand in the slots of the parameters -/
theorem args_rep {ns : List Str} {np nl : Nat} {vs : List V} {xs : List Value} {scr : Addr} {h : Heap} (hn : ns.Nodup) (hlen : ns.length = np + nl) (hv : vs.length = np) (r : RepL scr φ h vs xs) (x : Str) (hx : x ∈ ns) :
    OptRep scr φ h (lk ns (vs.map some ++ List.replicate nl none) x) (((ns.take np).zip xs).lookup x) := by
  obtain ⟨i, hi, rfl⟩ := List.getElem_of_mem hx
  have hidx : ns.idxOf ns[i] = i := by
    have h1 := List.idxOf_lt_length_of_mem hx
    exact nodup_inj hn h1 hi (by simp)
  unfold lk
  rw [hidx]
  by_cases hip : i < np
  · rw [List.getElem?_append_left (by simpa [hv] using hip)]
    have hvi : i < vs.length := by omega
    have e1 : (vs.map some)[i]? = some (some vs[i]) := by simp [hvi]
    rw [e1]
    obtain ⟨y, hy, hr⟩ := r.get (i := i) (v := vs[i]) (by simp [hvi])
    have e2 : ((ns.take np).zip xs).lookup ns[i] = some y := lookup_zip (ns.take np) xs i ns[i] y (hn.sublist (List.take_sublist _ _)) (by rw [List.getElem?_take]; simp [hip]) hy
    rw [e2]
    exact .some hr
  · rw [List.getElem?_append_right (by simp [hv]; omega)]
    have e1 : ((List.replicate nl (none : Option V))[i - (vs.map some).length]?).join = none := by
      rw [List.getElem?_replicate]
      split <;> rfl
    rw [e1]
    have e2 : ((ns.take np).zip xs).lookup ns[i] = none := by
      cases hq : ((ns.take np).zip xs).lookup ns[i] with
      | none => rfl
      | some y =>
        exfalso
        have hm : ns[i] ∈ ns.take np := lookup_zip_mem _ _ _ _ hq
        obtain ⟨j, hj, e⟩ := List.getElem_of_mem hm
        have hj' : j < np := by have := hj; simp at this; omega
        have : ns[j]'(by omega) = ns[i] := by rw [← e]; simp
        have := nodup_inj hn (by omega) hi this
        omega
    rw [e2]
    exact .none

/-- room at a caller that may have no frame -/
structure RoomC (A : Around) (n : Nat) : Prop where
  depth : A.depth + n + 110 ≤ recursionLimit
  units : A.units + 4 * n + 200 ≤ cLine
  handled : A.handled = none
  frames : ∃ l, A.frames = some l
theorem Room.toC {A : Around} {n : Nat} (rm : Room A n) : RoomC A n := let ⟨fe, outer, e, _⟩ := rm.frames; ⟨rm.depth, rm.units, rm.handled, _, e⟩
theorem RoomC.deeper {A : Around} {n : Nat} {env : Env} (rm : RoomC A (n + 1)) (h1 : env.scope.isGenerator = false) (h2 : env.scope.isCoroutine = false) (h3 : env.builtins = builtinsNs) (h4 : env.globals = mainGlobals) : Room (A.deeper env) n := by
  obtain ⟨l, e⟩ := rm.frames
  refine ⟨?_, ?_, rm.handled, env, l, ?_, h1, h2, h3, h4⟩
  · have := rm.depth; show A.depth + 1 + n + 110 ≤ _; omega
  · have := rm.units; show A.units + 3 + 4 * n + 200 ≤ _; omega
  · show A.frames.map (env :: ·) = _; rw [e]; rfl

/-- a def of the text, called -/
theorem fn_snd {C' : Ctx} {n : Nat} {f : Fn} {d : Def} {ns : List Str} {A : Around} {a : Addr} {o : Obj} {pm cd doc : Value} {vs : List V} {xs : List Value} {Q Ex : Value → Shared → Prop} (G : X.Gl C') (hc : X.CallOk C' n) (rm : RoomC A (n + 1))
    (hck : chkFn X.K d ns f = true) (ho : X.W.h₀.get? a = some o) (hd : o.data = .func (docDef d.name d.params d.body d.scope pm cd doc)) (hcd : X.W.h₀.CodeRec cd d.name)
    (R : SR X.W φ H s.heap) (r : RepL X.W.scr φ s.heap vs xs) (hv : vs.length = f.np) (p : PostV X.W φ s Q (endOut (execSs C' f.body (vs.map some ++ List.replicate f.nl none) H))) : wpAny X.M A (call (.ref a) xs) Q Ex s := by
  simp only [chkFn, Bool.and_eq_true, decide_eq_true_eq, Bool.not_eq_true'] at hck
  obtain ⟨⟨⟨⟨⟨⟨⟨⟨⟨⟨c1, c2⟩, c3⟩, c4⟩, c5⟩, c6⟩, c7⟩, c8⟩, c9⟩, c10⟩, c11⟩ := hck
  have hkind : d.scope.kind = .function := by
    revert c5
    cases d.scope.kind <;> simp
  have hps : (ns.take f.np).length = xs.length := by rw [List.length_take, ← r.length, hv, c3]; omega
  have hnp : (ns.take f.np).Nodup := c4.sublist (List.take_sublist _ _)
  have hkn : ∀ x ∈ ns, d.scope.names.lookup x = some .local ∨ d.scope.names.lookup x = some .cell := by
    intro x hx
    have := List.all_eq_true.mp c10 x hx
    revert this
    cases d.scope.names.lookup x with
    | none => simp
    | some k => cases k <;> simp
  have hcells : ∀ (k : Nat) (x : Str), d.scope.names.lookup x = some .cell → ((cellsFrom k d.scope.names []).lookup x).isSome = true := fun k x hx => cellsFrom_some' _ _ _ _ (.inl hx)
  have hcn : ∀ k, ((cellsFrom k d.scope.names []).map (·.1)).Nodup := fun k => cellsFrom_nodup _ _ _ c8 (by simp) (by simp)
  refine wpAny_call (codeAny_call_cells (by have := rm.depth; omega) (R.keep _ _ ho) hd (G.1.nolimit.keeps R.keep) (hcd.keeps R.keep) rfl (bindArgs_eq c2 hnp hps) rfl ?_ (fun s₁ hin => ?_) c7 c6 hkind)
  · intro x hx
    have hm : x.1 ∈ ns := List.mem_of_mem_take (List.of_mem_zip hx).1
    rcases hkn _ hm with h | h
    · exact .inl h
    · exact .inr ⟨h, hcells _ _ h⟩
  · generalize hfd : docDef d.name d.params d.body d.scope pm cd doc = fd at hin ⊢
    generalize henv : callEnvC fd s.heap.objs.size a = env at hin ⊢
    have eL : env.locals = s.heap.objs.size := by rw [← henv]; rfl
    have eS : env.scope = d.scope := by rw [← henv, ← hfd]; rfl
    have eC : env.cells = cellsFrom (s.heap.objs.size + 1) d.scope.names [] := by rw [← henv, ← hfd]; rfl
    have eG : env.globals = mainGlobals := by rw [← henv, ← hfd]; rfl
    have eB : env.builtins = builtinsNs := by rw [← henv, ← hfd]; rfl
    have eK : env.kindOf = fun x => d.scope.names.lookup x := by funext x; unfold Env.kindOf; rw [eS]
    obtain ⟨h₁, tk₁, hs₁⟩ := hin.toInCall.same
    have keep : ∀ b o, s.heap.get? b = some o → s₁.heap.get? b = some o := hin.toInCall.keep
    have S0 : Stp (env.locals :: env.cells.map (·.2)) φ s.heap φ s₁.heap := .ext keep
    have fresh : ∀ b : Nat, s.heap.objs.size ≤ b → s.heap.get? b = none ∧ b ∉ φ ∧ X.W.h₀.get? b = none := by
      intro b hb
      have h1 : s.heap.get? b = none := by
        cases e : s.heap.get? b with
        | none => rfl
        | some o => exact absurd (Heap.lt_size e) (Nat.not_lt.mpr hb)
      refine ⟨h1, fun hm => ?_, ?_⟩
      · obtain ⟨o, e, _⟩ := R.obj hm; rw [h1] at e; cases e
      · cases e : X.W.h₀.get? b with
        | none => rfl
        | some o => rw [R.keep _ _ e] at h1; cases h1
    have hnz : (((ns.take f.np).zip xs).map (·.1)).Nodup := by rw [List.map_fst_zip (by omega)]; exact hnp
    have hcm : ∀ (x : Str) (c : Nat), (x, c) ∈ env.cells → s.heap.objs.size < c := by
      intro x c hm
      have := hin.above x c hm
      rw [eL] at this
      exact this
    have rep1 := fun x hx => args_rep (np := f.np) (nl := f.nl) c4 c3 hv (r.mono (own := []) (.ext keep) : RepL X.W.scr φ s₁.heap vs xs) x hx
    have F : FR X.W env ns (vs.map some ++ List.replicate f.nl none) φ s₁.heap := by
      refine ⟨by rw [eS]; exact hkind, eG, eB, ⟨by rw [eS]; exact c6, by rw [eS]; exact c7, by unfold interactive; rw [eS, hkind]; rfl⟩, by simp [hv, c3], ?_, ?_, ?_, ?_, ?_⟩
      · refine ⟨_, hin.toInCall.ns, fun x hx hk => ?_⟩
        rw [bindL_eq _ _ _ _ hnz hk]
        have := rep1 x hx
        cases hq : ((ns.take f.np).zip xs).lookup x with
        | none => rw [hq] at this; exact this
        | some y => rw [hq] at this; exact this
      · rw [eL]
        exact ⟨(fresh _ (Nat.le_refl _)).2.1, (fresh _ (Nat.le_refl _)).2.2⟩
      · intro x hx hk
        have hk' : env.kindOf x = some .cell := by
          rcases hk with hk | hk
          · exact hk
          · rw [eK] at hk
            dsimp only at hk
            rcases hkn x hx with h | h <;> rw [h] at hk <;> cases hk
        have hlook : (env.cells.lookup x).isSome = true := by rw [eC]; exact hcells _ _ (by rw [eK] at hk'; exact hk')
        obtain ⟨c, hc'⟩ := Option.isSome_iff_exists.mp hlook
        have hlt := hcm x c (mem_of_lookup' hc')
        refine ⟨c, _, hc', (fresh c (Nat.le_of_lt hlt)).2.1, by rw [eL]; exact Nat.ne_of_gt hlt, (fresh c (Nat.le_of_lt hlt)).2.2, hin.cell x c hc', ?_⟩
        rw [bindC_eq _ _ _ _ hnz hk']
        have := rep1 x hx
        cases hq : ((ns.take f.np).zip xs).lookup x with
        | none => rw [hq] at this; exact this
        | some y => rw [hq] at this; exact this
      · intro x y c h1 h2
        exact name_of_addr hin.apart (mem_of_lookup' h1) (mem_of_lookup' h2)
      · rintro ⟨x, c⟩ hm
        have hlt := hcm x c hm
        have hl := lookup_of_mem (by rw [eC]; exact hcn _) hm
        obtain ⟨o, ho', _⟩ := hin.cell x c hl
        exact ⟨(fresh c (Nat.le_of_lt hlt)).2.1, o, ho'⟩
    have hown : OwnF env (env.locals :: env.cells.map (·.2)) ns := by
      refine ⟨fun x hx => ?_, fun b hb => ?_⟩
      · rcases hkn x hx with h | h
        · exact .inl ⟨by rw [eK]; exact h, .head _⟩
        · exact .inr ⟨by rw [eK]; exact h, fun c hc' => .tail _ (List.mem_map.mpr ⟨(x, c), mem_of_lookup' hc', rfl⟩)⟩
      · rcases List.mem_cons.mp hb with hb | hb
        · exact .inl hb
        · obtain ⟨q, hq, e⟩ := List.mem_map.mp hb; exact .inr ⟨q, hq, e⟩
    have drop : ∀ {φ' : List Addr} {h' : Heap}, Stp (env.locals :: env.cells.map (·.2)) φ s₁.heap φ' h' → Stp [] φ s.heap φ' h' := fun q => (S0.trans q).drop fun b hb _ => by
      rcases List.mem_cons.mp hb with rfl | hb
      · rw [eL]; exact size_none _
      · obtain ⟨⟨x, c⟩, hq, rfl⟩ := List.mem_map.mp hb
        exact (fresh c (Nat.le_of_lt (hcm x c hq))).1
    have rm' : Room (A.deeper env) n := rm.deeper (by rw [eS]; exact c6) (by rw [eS]; exact c7) eB eG
    have hss := sndSs G hc f.body d.scope ns d.body c11 (A.deeper env) env _ _ φ H s₁ (fun fl s' => Q (match fl with | .ret v => v | _ => .none) s') (fun e s' => wpAny X.M (A.deeper env) (leaving env e) (fun _ s'' => Ex e s'') (fun e' s'' => Ex e' s'') s') rm' (fun x => .inl (by rw [eK])) hown F (R.ext keep) ?_
    · exact wpAny_mono hss (fun fl s' q => by cases fl <;> exact q) (fun e s' q => q)
    · subst hs₁
      cases hx : execSs C' f.body (vs.map some ++ List.replicate f.nl none) H with
      | next ρ2 H2 => rw [hx] at p; exact fun φ2 h2 tk2 R2 F2 S2 => p φ2 h2 tk2 _ R2 (drop S2) .none
      | ret v2 H2 => rw [hx] at p; exact fun φ2 h2 tk2 x R2 S2 r2 => p φ2 h2 tk2 _ R2 (drop S2) r2
      | stuck => rw [hx] at p; exact p.elim
end

/-- calls, whatever room is left -/
theorem callOk {X : Fix} {gks : List V} {fns : List Fn} {nss : List (List Str)} (hck : chkAll X.K X.defs nss fns = true) (G : ∀ n, X.Gl ⟨X.scr, gks, callF X.scr gks fns n⟩) : ∀ n, X.CallOk ⟨X.scr, gks, callF X.scr gks fns n⟩ n := by
  intro n
  induction n with
  | zero =>
    intro A f x a vs H φ s xs Q Ex rm h1 h2 R r p
    exact p.elim
  | succ n ih =>
    intro A f x a vs H φ s xs Q Ex rm h1 h2 R r p
    obtain ⟨a', o, d, pm, cd, doc, e1, e2, e3, e4, e5, e6⟩ := (G n).1.fn f x h1
    rw [h2] at e3; cases e3
    change PostV X.W φ s Q (callF X.scr gks fns (n + 1) f vs H) at p
    rw [callF] at p
    cases hf : fns[f]? with
    | none => rw [hf] at p; exact p.elim
    | some fn =>
      rw [hf] at p
      dsimp only at p
      split at p
      · rename_i hv
        obtain ⟨ns, hc⟩ := chkAll_get hck e1 hf
        exact fn_snd (G n) ih rm.toC (hc hv.2) e4 e5 e6 R r hv.1 p
      · exact p.elim
end Mine

end
section
set_option autoImplicit false
set_option linter.unusedVariables false
set_option linter.unusedSimpArgs false
namespace Mine
open PySem PySem.Calls PyProof.Rows PySem.W

noncomputable def defQ (d : DefRec) : Def := ⟨d.name, d.params, d.body, d.scope⟩
noncomputable def defsQ (q : Program) : List Def := (recsOf q).map defQ

/-- the names of the built-ins are the built-ins' own -/
noncomputable def biFree (q : Program) (loose : List Str) : Bool := biTable.all fun p => !startupNames.contains p.1 && !loose.contains p.1 && !((recsOf q).map (·.name)).contains p.1 && !((litsOf q).map (·.1)).contains p.1 && !((clssOf q loose).map (·.name)).contains p.1 &&
  !(p.1 == ("__name__" : Str)) && decide (bootBuiltins p.1 = some p.2)

theorem ints_rep {scr : Addr} {φ : List Addr} {h : Heap} : ∀ {vs : List Value} {ns : List Int}, IntsAre vs ns → RepL scr φ h (ns.map .int) vs := by
  intro vs ns hI
  induction hI with
  | nil => exact .nil
  | cons _ _ _ ih => exact .cons (.int _ _) ih

/-- a whole law, by the interpreter's answer -/
theorem law_of {q prog : Program} {loose : List Str} {mean : ExcName → Option Value} {mg mb : Str → Option Value} {w : World} {s₁ : Shared} {K : CK} {fns : List Fn} {nss : List (List Str)} {gks : List V} {scr : Addr} {vs : List Value} {ns : List Int} {fa : Addr} {N lawIdx : Nat} {Q Ex : Value → Shared → Prop}
    (T : Top q loose mean mg mb s₁.heap) (hK : K.fns = (defsQ q).map (·.name)) (hck : chkAll K (defsQ q) nss fns = true) (hbi : biFree q loose = true) (himp : importsNone q = true) (htree : prog.given.tree = none)
    (hgk : ∀ (j : Nat) (x : Str), K.gks[j]? = some x → ∃ v y, gks[j]? = some v ∧ mg x = some y ∧ Rep scr [] s₁.heap v y)
    (hL : s₁.heap.IsList scr vs.toArray) (hI : IntsAre vs ns) (hlen : ns.length ≤ 63) (hN : N ≤ 560) (hlaw : K.fns[lawIdx]? = some (Str.ofString "law")) (hfa : mg "law" = some (.ref fa))
    (hrun : ∃ H, callF ns gks fns N lawIdx [.script] [] = .ok (.bool true) H)
    (hQ : ∀ h' tk, (∀ b o, s₁.heap.get? b = some o → h'.get? b = some o) → Q (.bool true) { s₁ with heap := h', toks := tk }) : wpAny (model prog w) callerA (call (.ref fa) [.ref scr]) Q Ex s₁ := by
  let W : Wo := ⟨s₁.heap, scr, prog, w⟩
  let X : Fix := ⟨prog, w, W, K, defsQ q, ns, mg, mb⟩
  have hbi' := List.all_eq_true.mp hbi
  have G : ∀ n, X.Gl ⟨ns, gks, callF ns gks fns n⟩ := by
    intro n
    refine ⟨⟨T.g, T.b, fun p hp => ?_, fun f x hx => ?_, hgk, T.nolimit, T.seer himp, htree, ⟨vs, hL, ints_rep hI⟩, by show ns.length ≤ 1000; omega, let ⟨mc, ⟨o, _, _, ho, _⟩, _⟩ := T.nodigits; ⟨o, ho⟩, rfl, rfl⟩, rfl⟩
    · have h := hbi' p hp
      simp only [Bool.and_eq_true, Bool.not_eq_true', decide_eq_true_eq] at h
      obtain ⟨⟨⟨⟨⟨⟨h1, h2⟩, h3⟩, h4⟩, h5⟩, h6⟩, h7⟩ := h
      have nc : ∀ {l : List Str} {x : Str}, l.contains x = false → x ∉ l := fun h hm => by rw [List.contains_iff_mem.mpr hm] at h; cases h
      exact ⟨T.free p.1 (nc h1) (nc h2) (nc h3) (nc h4) (nc h5), (T.builtins p.1 (fun e => by rw [e] at h6; simp at h6)).trans h7⟩
    · have hx' : ((defsQ q).map (·.name))[f]? = some x := by rw [← hK]; exact hx
      rw [List.getElem?_map] at hx'
      obtain ⟨d, hd, rfl⟩ := Option.map_eq_some_iff.mp hx'
      have hd' := hd
      unfold defsQ at hd'
      rw [List.getElem?_map] at hd'
      obtain ⟨r, hr, rfl⟩ := Option.map_eq_some_iff.mp hd'
      obtain ⟨a, o, pm, cd, doc, h1, h2, h3, h4⟩ := T.fn r (List.mem_of_getElem? hr)
      exact ⟨a, o, defQ r, pm, cd, doc, hd, rfl, h1, h2, h3, h4⟩
  have R0 : SR W [] [] s₁.heap := ⟨fun _ _ e => e, fun a ha => (by cases ha), List.nodup_nil, rfl, fun l c e => (by cases e)⟩
  obtain ⟨H, hrun⟩ := hrun
  cases N with
  | zero => cases hrun
  | succ n =>
    obtain ⟨a', o, d, pm, cd, doc, e1, e2, e3, e4, e5, e6⟩ := (G n).1.fn lawIdx "law" hlaw
    change mg _ = _ at e3
    rw [hfa] at e3; cases e3
    rw [callF] at hrun
    cases hf : fns[lawIdx]? with
    | none => rw [hf] at hrun; cases hrun
    | some fn =>
      rw [hf] at hrun
      dsimp only at hrun
      split at hrun
      · rename_i hv
        obtain ⟨nn, hc⟩ := chkAll_get hck e1 hf
        have rm : RoomC callerA (n + 1) := ⟨by show 1 + 300 + (n + 1) + 110 ≤ 1000; omega, by show 4 + 4 * (n + 1) + 200 ≤ 9900; omega, rfl, _, rfl⟩
        refine fn_snd (X := X) (G n) (callOk (X := X) hck G n) rm (hc hv.2) e4 e5 e6 R0 (.cons .script .nil) hv.1 ?_
        rw [hrun]
        intro φ' h' tk x R1 S1 r1
        cases r1
        exact hQ h' tk fun b o e => R1.keep b o e
      · cases hrun
end Mine

end
section
set_option autoImplicit false
set_option linter.unusedVariables false
set_option linter.unusedSimpArgs false
set_option maxRecDepth 100000
namespace Mine.P
open PySem
abbrev i_lives : Nat := 0
abbrev i_spouse_on : Nat := 1
abbrev i_will_on : Nat := 2
abbrev i_law_cell_at : Nat := 3
abbrev i_law_whole : Nat := 4
abbrev i_law_stream : Nat := 5
abbrev i_law_some : Nat := 6
abbrev i_law_people : Nat := 7
abbrev i_law_adopting : Nat := 8
abbrev i_law_lives : Nat := 9
abbrev i_law_parents : Nat := 10
abbrev i_law_children : Nat := 11
abbrev i_law_lined : Nat := 12
abbrev i_law_ends : Nat := 13
abbrev i_law_meets : Nat := 14
abbrev i_law_weddings : Nat := 15
abbrev i_law_lowest : Nat := 16
abbrev i_law_is_part : Nat := 17
abbrev i_law_gifts : Nat := 18
abbrev i_law_wills : Nat := 19
abbrev i_law_spouse : Nat := 20
abbrev i_law_will : Nat := 21
abbrev i_law_days : Nat := 22
abbrev i_law : Nat := 23
noncomputable def pn_lives : List Str := ["people", "person", "day", "born", "parents", "adopted", "died"]
noncomputable def pb_lives : List S :=
  [.asg (.tup [(.var 3), (.var 4), (.var 5), (.var 6)]) (.idx (.var 0) (.var 1)),
   .ret (.and [(.cmp .le (.var 3) (.var 2)), (.or [(.isNone (.var 6)), (.cmp .lt (.var 2) (.var 6))])])]
noncomputable def pn_spouse_on : List Str := ["roll", "person", "day", "one", "other", "begun"]
noncomputable def pb_spouse_on : List S :=
  [.for (.tup [(.var 3), (.var 4), (.var 5)]) (.of (.idx (.var 0) (.k (.int 1))))
    [.ife (.and [(.cmp .le (.var 5) (.var 2)), (.cmp .eq (.var 3) (.var 1)), (.call i_lives [(.idx (.var 0) (.k (.int 0))), (.var 4), (.var 2)])])
      [.ret (.var 4)]
      [],
     .ife (.and [(.cmp .le (.var 5) (.var 2)), (.cmp .eq (.var 4) (.var 1)), (.call i_lives [(.idx (.var 0) (.k (.int 0))), (.var 3), (.var 2)])])
      [.ret (.var 3)]
      []],
   .ret (.k .none)]
noncomputable def pn_will_on : List Str := ["roll", "person", "day", "latest", "found", "one", "told", "gifts"]
noncomputable def pb_will_on : List S :=
  [.asg (.var 3) (.neg (.k (.int 1))),
   .asg (.var 4) (.tup []),
   .for (.tup [(.var 5), (.var 6), (.var 7)]) (.of (.idx (.var 0) (.k (.int 2))))
    [.ife (.and [(.cmp .eq (.var 5) (.var 1)), (.cmp2 (.var 3) .le (.var 6) .le (.var 2))])
      [.asg (.var 3) (.var 6),
       .asg (.var 4) (.var 7)]
      []],
   .ret (.var 4)]
noncomputable def pn_law_cell_at : List Str := ["_law_script", "_law_k"]
noncomputable def pb_law_cell_at : List S :=
  [.ife (.cmp .lt (.var 1) (.bi .len [(.var 0)]))
    [.ret (.idx (.var 0) (.var 1))]
    [],
   .ret (.k (.int 0))]
noncomputable def pn_law_whole : List Str := ["_law_found"]
noncomputable def pb_law_whole : List S :=
  [.ret (.and [(.bi .isInt [(.var 0)]), (.not (.bi .isBool [(.var 0)]))])]
noncomputable def pn_law_stream : List Str := ["_law_cell", "_law_many", "_law_found", "_law_number", "_law_k"]
noncomputable def pb_law_stream : List S :=
  [.asg (.var 2) (.lst []),
   .asg (.var 3) (.bin .mod (.var 0) (.k (.int 2147483647))),
   .for (.var 4) (.range (.k (.int 0)) (.var 1))
    [.asg (.var 3) (.bin .mod (.bin .add (.bin .add (.bin .mul (.var 3) (.k (.int 48271))) (.k (.int 11))) (.var 4)) (.k (.int 2147483647))),
     .expr (.meth .append (.var 2) [(.var 3)])],
   .ret (.var 2)]
noncomputable def pn_law_some : List Str := ["_law_elders", "_law_y", "_law_fewest", "_law_one", "_law_other"]
noncomputable def pb_law_some : List S :=
  [.ife (.or [(.cmp .eq (.var 0) (.lst [])), (.and [(.cmp .eq (.var 2) (.k (.int 0))), (.cmp .eq (.bin .mod (.bin .fdiv (.var 1) (.k (.int 7))) (.k (.int 5))) (.k (.int 0)))])])
    [.ret (.tup [])]
    [],
   .asg (.var 3) (.idx (.var 0) (.bin .mod (.var 1) (.bi .len [(.var 0)]))),
   .asg (.var 4) (.idx (.var 0) (.bin .mod (.bin .fdiv (.var 1) (.k (.int 60))) (.bi .len [(.var 0)]))),
   .ife (.or [(.cmp .eq (.var 3) (.var 4)), (.cmp .eq (.bin .mod (.bin .fdiv (.var 1) (.k (.int 3))) (.k (.int 4))) (.k (.int 0)))])
    [.ret (.tup [(.var 3)])]
    [],
   .ret (.tup [(.var 3), (.var 4)])]
noncomputable def pn_law_people : List Str := ["_law_cell", "_law_many", "_law_people_here", "_law_scale", "_law_house", "_law_k", "_law_x", "_law_born", "_law_elders", "_law_parents_here", "_law_died"]
noncomputable def pb_law_people : List S :=
  [.asg (.var 2) (.lst []),
   .asg (.var 3) (.idx (.lst [(.k (.int 1)), (.k (.int 1)), (.k (.int 1)), (.k (.int 600))]) (.bin .mod (.var 0) (.k (.int 4)))),
   .asg (.var 4) (.lst [(.tup []), (.tup []), (.tup [(.k (.int 1)), (.k (.int 0))]), (.tup [(.k (.int 1)), (.k (.int 0))]), (.tup [(.k (.int 2))]), (.tup [(.k (.int 3))]), (.tup []), (.tup [(.k (.int 5))]), (.tup [(.k (.int 3))]), (.tup [(.k (.int 1))]), (.tup []), (.tup [(.k (.int 2))])]),
   .for (.tup [(.var 5), (.var 6)]) (.enum (.call i_law_stream [(.bin .fdiv (.var 0) (.k (.int 4))), (.var 1)]))
    [.asg (.var 7) (.bin .mul (.bin .add (.bin .mul (.k (.int 5)) (.bin .fdiv (.var 5) (.k (.int 3)))) (.bin .mod (.var 6) (.k (.int 11)))) (.var 3)),
     .asg (.var 8) (.comp 1 (.var 0) (.var 0) (.range (.k (.int 0)) (.var 5)) [(.cmp .lt (.idx (.idx (.var 3) (.var 0)) (.k (.int 0))) (.var 8))]),
     .asg (.var 9) (.call i_law_some [(.slc (.var 8) (some (.neg (.k (.int 7)))) none), (.bin .fdiv (.var 6) (.k (.int 11))), (.k (.int 0))]),
     .ife (.and [(.cmp .gt (.var 5) (.k (.int 0))), (.cmp .eq (.bin .mod (.bin .fdiv (.var 6) (.k (.int 13))) (.k (.int 3))) (.k (.int 0))), (.cmp .eq (.comp 1 (.var 0) (.var 0) (.of (.idx (.idx (.var 2) (.bin .sub (.var 5) (.k (.int 1)))) (.k (.int 1)))) [(.cmp .notIn (.var 0) (.var 9))]) (.lst []))])
      [.asg (.var 9) (.idx (.idx (.var 2) (.bin .sub (.var 5) (.k (.int 1)))) (.k (.int 1)))]
      [],
     .ife (.and [(.cmp .eq (.bin .mod (.bin .fdiv (.var 0) (.k (.int 4))) (.k (.int 3))) (.k (.int 0))), (.cmp .lt (.var 5) (.k (.int 12)))])
      [.asg (.var 7) (.bin .mul (.bin .add (.bin .mul (.k (.int 12)) (.bin .fdiv (.var 5) (.k (.int 2)))) (.bin .mod (.var 6) (.k (.int 11)))) (.var 3)),
       .asg (.var 9) (.idx (.var 4) (.var 5))]
      [],
     .asg (.var 10) (.k .none),
     .ife (.cmp .gt (.bin .mod (.bin .fdiv (.var 6) (.k (.int 500))) (.idx (.lst [(.k (.int 4)), (.k (.int 9))]) (.bin .mod (.bin .fdiv (.var 0) (.k (.int 12))) (.k (.int 2))))) (.k (.int 0)))
      [.asg (.var 10) (.bin .add (.var 7) (.bin .mul (.bin .mod (.bin .fdiv (.var 6) (.k (.int 1500))) (.k (.int 40))) (.var 3)))]
      [],
     .expr (.meth .append (.var 2) [(.tup [(.var 7), (.var 9), (.k .none), (.var 10)])])],
   .ret (.var 2)]
noncomputable def pn_law_adopting : List Str := ["_law_people_here", "_law_cell", "_law_found", "_law_k", "_law_x", "_law_born", "_law_parents_here", "_law_adopted", "_law_died", "_law_elders", "_law_day"]
noncomputable def pb_law_adopting : List S :=
  [.asg (.var 2) (.listOf (.var 0)),
   .for (.tup [(.var 3), (.var 4)]) (.enum (.call i_law_stream [(.var 1), (.bi .len [(.var 0)])]))
    [.asg (.tup [(.var 5), (.var 6), (.var 7), (.var 8)]) (.idx (.var 0) (.var 3)),
     .asg (.var 9) (.comp 1 (.var 0) (.var 0) (.range (.k (.int 0)) (.bi .len [(.var 0)])) [(.cmp .lt (.idx (.idx (.var 1) (.var 0)) (.k (.int 0))) (.var 6))]),
     .asg (.var 10) (.bin .add (.var 5) (.bin .mod (.var 4) (.k (.int 30)))),
     .ife (.and [(.cmp .eq (.bin .mod (.bin .fdiv (.var 4) (.k (.int 30))) (.k (.int 4))) (.k (.int 0))), (.cmp .ne (.var 9) (.lst [])), (.or [(.isNone (.var 8)), (.cmp .lt (.var 10) (.var 8))])])
      [.setIdx (.var 2) (.var 3) (.tup [(.var 5), (.var 6), (.tup [(.var 10), (.call i_law_some [(.var 9), (.bin .fdiv (.var 4) (.k (.int 120))), (.k (.int 1))])]), (.var 8)])]
      []],
   .ret (.var 2)]
noncomputable def pn_law_lives : List Str := ["_law_people_here", "_law_person", "_law_day"]
noncomputable def pb_law_lives : List S :=
  [.ife (.cmp .lt (.var 2) (.idx (.idx (.var 0) (.var 1)) (.k (.int 0))))
    [.ret (.k (.bool false))]
    [],
   .ret (.or [(.isNone (.idx (.idx (.var 0) (.var 1)) (.k (.int 3)))), (.cmp .gt (.idx (.idx (.var 0) (.var 1)) (.k (.int 3))) (.var 2))])]
noncomputable def pn_law_parents : List Str := ["_law_people_here", "_law_person", "_law_day"]
noncomputable def pn_law_children : List Str := ["_law_people_here", "_law_person", "_law_day", "_law_found", "_law_one"]
noncomputable def pn_law_lined : List Str := ["_law_people_here", "_law_day", "_law_lined_here", "_law_one", "_law_turn", "_law_parent"]
noncomputable def pn_law_ends : List Str := ["_law_people_here", "_law_marriage", "_law_ends_here"]
noncomputable def pb_law_ends : List S :=
  [.asg (.var 2) (.comp 1 (.idx (.idx (.var 1) (.var 0)) (.k (.int 3))) (.var 0) (.of (.slc (.var 1) none (some (.k (.int 2))))) [(.notNone (.idx (.idx (.var 1) (.var 0)) (.k (.int 3))))]),
   .ret (.minD (.var 2) (.bin .pow (.k (.int 10)) (.k (.int 9))))]
noncomputable def pn_law_meets : List Str := ["_law_people_here", "_law_one", "_law_other"]
noncomputable def pb_law_meets : List S :=
  [.ret (.and [(.cmp .gt (.call i_law_ends [(.var 0), (.var 1)]) (.idx (.var 2) (.k (.int 2)))), (.cmp .gt (.call i_law_ends [(.var 0), (.var 2)]) (.idx (.var 1) (.k (.int 2))))])]
noncomputable def pn_law_weddings : List Str := ["_law_people_here", "_law_cell", "_law_many", "_law_found", "_law_x", "_law_one", "_law_other", "_law_day", "_law_new", "_law_fits", "_law_marriage"]
noncomputable def pb_law_weddings : List S :=
  [.asg (.var 3) (.lst []),
   .for (.var 4) (.of (.call i_law_stream [(.var 1), (.var 2)]))
    [.asg (.var 5) (.bin .mod (.var 4) (.bi .len [(.var 0)])),
     .asg (.var 6) (.bin .mod (.bin .fdiv (.var 4) (.k (.int 60))) (.bi .len [(.var 0)])),
     .asg (.var 7) (.bin .add (.bi .max2 [(.idx (.idx (.var 0) (.var 5)) (.k (.int 0))), (.idx (.idx (.var 0) (.var 6)) (.k (.int 0)))]) (.bin .mod (.bin .fdiv (.var 4) (.k (.int 3600))) (.k (.int 40)))),
     .asg (.var 8) (.tup [(.var 5), (.var 6), (.var 7)]),
     .asg (.var 9) (.and [(.cmp .ne (.var 5) (.var 6)), (.call i_law_lives [(.var 0), (.var 5), (.var 7)]), (.call i_law_lives [(.var 0), (.var 6), (.var 7)])]),
     .for (.var 10) (.of (.var 3))
      [.ife (.or [(.cmp .isIn (.var 5) (.slc (.var 10) none (some (.k (.int 2))))), (.cmp .isIn (.var 6) (.slc (.var 10) none (some (.k (.int 2)))))])
        [.asg (.var 9) (.and [(.var 9), (.not (.call i_law_meets [(.var 0), (.var 8), (.var 10)]))])]
        []],
     .ife (.var 9)
      [.expr (.meth .append (.var 3) [(.var 8)])]
      []],
   .ret (.var 3)]
noncomputable def pn_law_lowest : List Str := ["_law_over", "_law_under", "_law_a", "_law_b", "_law_c"]
noncomputable def pb_law_lowest : List S :=
  [.asg (.var 2) (.var 0),
   .asg (.var 3) (.var 1),
   .while (.cmp .gt (.var 3) (.k (.int 0)))
    [.asg (.var 4) (.bin .mod (.var 2) (.var 3)),
     .asg (.var 2) (.var 3),
     .asg (.var 3) (.var 4)],
   .ret (.tup [(.bin .fdiv (.var 0) (.var 2)), (.bin .fdiv (.var 1) (.var 2))])]
noncomputable def pn_law_is_part : List Str := ["_law_found", "_law_due"]
noncomputable def pn_law_gifts : List Str := ["_law_people_here", "_law_person", "_law_x", "_law_named", "_law_k", "_law_one", "_law_over", "_law_more"]
noncomputable def pb_law_gifts : List S :=
  [.asg (.var 3) (.lst []),
   .for (.var 4) (.range (.k (.int 0)) (.bin .add (.k (.int 1)) (.bin .mod (.var 2) (.idx (.lst [(.k (.int 3)), (.k (.int 3)), (.k (.int 10))]) (.bin .mod (.bin .fdiv (.var 2) (.k (.int 30))) (.k (.int 3)))))))
    [.asg (.var 5) (.bin .mod (.bin .add (.bin .fdiv (.var 2) (.k (.int 90))) (.bin .mul (.var 4) (.bin .add (.k (.int 1)) (.bin .mod (.bin .fdiv (.var 2) (.k (.int 540))) (.k (.int 7)))))) (.bi .len [(.var 0)])),
     .ife (.and [(.cmp .ne (.var 5) (.var 1)), (.cmp .notIn (.var 5) (.var 3))])
      [.expr (.meth .append (.var 3) [(.var 5)])]
      []],
   .asg (.var 6) (.bin .add (.k (.int 1)) (.bin .mod (.bin .fdiv (.var 2) (.k (.int 3780))) (.k (.int 3)))),
   .asg (.var 7) (.idx (.lst [(.bin .mod (.bin .fdiv (.var 2) (.k (.int 11340))) (.k (.int 4))), (.bin .mod (.bin .fdiv (.var 2) (.k (.int 11340))) (.k (.int 900)))]) (.bin .mod (.bin .fdiv (.var 2) (.k (.int 7))) (.k (.int 2)))),
   .ret (.comp 1 (.tup [(.var 0), (.var 7), (.bin .add (.bin .mul (.var 7) (.bi .len [(.var 4)])) (.var 8))]) (.var 0) (.of (.var 3)) [])]
noncomputable def pn_law_wills : List Str := ["_law_people_here", "_law_cell", "_law_many", "_law_found", "_law_x", "_law_person", "_law_day", "_law_gifts_here"]
noncomputable def pb_law_wills : List S :=
  [.asg (.var 3) (.lst []),
   .for (.var 4) (.of (.call i_law_stream [(.var 1), (.var 2)]))
    [.asg (.var 5) (.bin .mod (.var 4) (.bi .len [(.var 0)])),
     .asg (.var 6) (.bin .add (.idx (.idx (.var 0) (.var 5)) (.k (.int 0))) (.bin .mod (.bin .fdiv (.var 4) (.k (.int 60))) (.k (.int 30)))),
     .asg (.var 7) (.call i_law_gifts [(.var 0), (.var 5), (.bin .fdiv (.var 4) (.k (.int 1800)))]),
     .ife (.and [(.cmp .ne (.var 7) (.lst [])), (.or [(.isNone (.idx (.idx (.var 0) (.var 5)) (.k (.int 3)))), (.cmp .le (.var 6) (.idx (.idx (.var 0) (.var 5)) (.k (.int 3))))])])
      [.expr (.meth .append (.var 3) [(.tup [(.var 5), (.var 6), (.bi .tupleOf [(.comp 3 (.tup [(.var 0), (.call i_law_lowest [(.var 1), (.var 2)])]) (.tup [(.var 0), (.var 1), (.var 2)]) (.of (.var 7)) [])])])])]
      []],
   .ret (.var 3)]
noncomputable def pn_law_spouse : List Str := ["_law_roll", "_law_person", "_law_day", "_law_mates", "_law_one", "_law_other", "_law_begun"]
noncomputable def pb_law_spouse : List S :=
  [.asg (.var 3) (.lst []),
   .for (.tup [(.var 4), (.var 5), (.var 6)]) (.of (.idx (.var 0) (.k (.int 1))))
    [.ife (.and [(.cmp .le (.var 6) (.var 2)), (.cmp .eq (.var 4) (.var 1)), (.call i_law_lives [(.idx (.var 0) (.k (.int 0))), (.var 5), (.var 2)])])
      [.expr (.meth .append (.var 3) [(.var 5)])]
      [],
     .ife (.and [(.cmp .le (.var 6) (.var 2)), (.cmp .eq (.var 5) (.var 1)), (.call i_law_lives [(.idx (.var 0) (.k (.int 0))), (.var 4), (.var 2)])])
      [.expr (.meth .append (.var 3) [(.var 4)])]
      []],
   .ret (.idx (.bin .add (.var 3) (.lst [(.k .none)])) (.k (.int 0)))]
noncomputable def pn_law_will : List Str := ["_law_roll", "_law_person", "_law_day", "_law_found"]
noncomputable def pb_law_will : List S :=
  [.asg (.var 3) (.comp 4 (.tup [(.var 2), (.var 0)]) (.tup [(.var 0), (.tup [(.var 1), (.var 2), (.var 3)])]) (.enum (.idx (.var 0) (.k (.int 2)))) [(.and [(.cmp .eq (.var 1) (.var 5)), (.cmp .le (.var 2) (.var 6))])]),
   .ife (.cmp .eq (.var 3) (.lst []))
    [.ret (.tup [])]
    [],
   .ret (.idx (.idx (.idx (.var 0) (.k (.int 2))) (.idx (.bi .maxL [(.var 3)]) (.k (.int 1)))) (.k (.int 2)))]
noncomputable def pn_law_days : List Str := ["_law_roll", "_law_person", "_law_cell", "_law_days_here"]
noncomputable def pb_law_days : List S :=
  [.asg (.var 3) (.bin .add (.bin .add (.lst [(.idx (.idx (.idx (.var 0) (.k (.int 0))) (.var 1)) (.k (.int 0)))]) (.comp 1 (.idx (.var 0) (.k (.int 2))) (.var 0) (.of (.idx (.var 0) (.k (.int 1)))) [])) (.comp 1 (.idx (.var 0) (.k (.int 1))) (.var 0) (.of (.idx (.var 0) (.k (.int 2)))) [])),
   .asg (.var 3) (.bin .add (.var 3) (.comp 1 (.idx (.var 0) (.k (.int 3))) (.var 0) (.of (.idx (.var 0) (.k (.int 0)))) [(.notNone (.idx (.var 0) (.k (.int 3))))])),
   .ife (.cmp .eq (.bin .mod (.var 2) (.k (.int 5))) (.k (.int 4)))
    [.ret (.bin .mod (.bin .fdiv (.var 2) (.k (.int 5))) (.k (.int 201)))]
    [],
   .ret (.bi .max2 [(.k (.int 0)), (.bin .sub (.bin .add (.idx (.var 3) (.bin .mod (.bin .fdiv (.var 2) (.k (.int 5))) (.bi .len [(.var 3)]))) (.bin .mod (.bin .fdiv (.var 2) (.k (.int 300))) (.k (.int 3)))) (.k (.int 1)))])]
noncomputable def pn_law : List Str := ["_law_script", "_law_many", "_law_people_here", "_law_weddings_here", "_law_wills_here", "_law_roll", "_law_handed", "_law_k", "_law_cell", "_law_person", "_law_day", "_law_mate", "_law_due", "_law_gifts_here"]
noncomputable def pb_law : List S :=
  [.asg (.var 1) (.bin .add (.k (.int 1)) (.bin .mod (.call i_law_cell_at [(.var 0), (.k (.int 0))]) (.k (.int 12)))),
   .asg (.var 2) (.call i_law_adopting [(.call i_law_people [(.call i_law_cell_at [(.var 0), (.k (.int 1))]), (.var 1)]), (.call i_law_cell_at [(.var 0), (.k (.int 2))])]),
   .asg (.var 3) (.call i_law_weddings [(.var 2), (.call i_law_cell_at [(.var 0), (.k (.int 3))]), (.bin .mod (.bin .fdiv (.call i_law_cell_at [(.var 0), (.k (.int 0))]) (.k (.int 12))) (.k (.int 13)))]),
   .asg (.var 4) (.call i_law_wills [(.var 2), (.call i_law_cell_at [(.var 0), (.k (.int 4))]), (.bin .mod (.bin .fdiv (.call i_law_cell_at [(.var 0), (.k (.int 0))]) (.k (.int 156))) (.k (.int 9)))]),
   .ife (.and [(.cmp .ne (.var 4) (.lst [])), (.cmp .eq (.bin .mod (.call i_law_cell_at [(.var 0), (.k (.int 4))]) (.k (.int 3))) (.k (.int 1)))])
    [.expr (.meth .append (.var 4) [(.tup [(.idx (.idx (.var 4) (.k (.int 0))) (.k (.int 0))), (.idx (.idx (.var 4) (.k (.int 0))) (.k (.int 1))), (.idx (.idx (.var 4) (.neg (.k (.int 1)))) (.k (.int 2)))])])]
    [],
   .asg (.var 4) (.comp 1 (.var 0) (.var 0) (.of (.var 4)) [(.cmp .notIn (.idx (.var 0) (.k (.int 0))) (.comp 1 (.idx (.var 0) (.k (.int 0))) (.var 0) (.of (.idx (.var 0) (.k (.int 2)))) []))]),
   .asg (.var 5) (.tup [(.var 2), (.var 3), (.var 4)]),
   .asg (.var 6) (.tup [(.listOf (.var 2)), (.listOf (.var 3)), (.listOf (.var 4))]),
   .for (.tup [(.var 7), (.var 8)]) (.enum (.bin .add (.call i_law_stream [(.call i_law_cell_at [(.var 0), (.k (.int 5))]), (.k (.int 4))]) (.call i_law_stream [(.call i_law_cell_at [(.var 0), (.k (.int 6))]), (.k (.int 4))])))
    [.asg (.var 9) (.bin .mod (.bin .fdiv (.var 8) (.k (.int 7))) (.var 1)),
     .asg (.var 10) (.call i_law_days [(.var 5), (.var 9), (.bin .fdiv (.var 8) (.k (.int 3)))]),
     .ife (.and [(.cmp .eq (.bin .mod (.var 7) (.k (.int 2))) (.k (.int 1))), (.cmp .ne (.var 4) (.lst []))])
      [.asg (.var 9) (.idx (.idx (.var 4) (.bin .mod (.bin .fdiv (.var 8) (.k (.int 420))) (.bi .len [(.var 4)]))) (.k (.int 0))),
       .asg (.var 10) (.bin .add (.idx (.idx (.var 4) (.bin .mod (.bin .fdiv (.var 8) (.k (.int 420))) (.bi .len [(.var 4)]))) (.k (.int 1))) (.bin .mod (.bin .fdiv (.var 8) (.k (.int 3780))) (.k (.int 2))))]
      [],
     .asg (.var 11) (.call i_spouse_on [(.var 6), (.var 9), (.var 10)]),
     .asg (.var 12) (.call i_law_spouse [(.var 5), (.var 9), (.var 10)]),
     .ife (.or [(.cmp .ne (.var 11) (.var 12)), (.and [(.notNone (.var 11)), (.not (.call i_law_whole [(.var 11)]))])])
      [.ret (.k (.bool false))]
      [],
     .asg (.var 13) (.call i_will_on [(.var 6), (.var 9), (.var 10)]),
     .ife (.or [(.not (.bi .isTuple [(.var 13)])), (.cmp .ne (.var 13) (.call i_law_will [(.var 5), (.var 9), (.var 10)])), (.cmp .ne (.var 6) (.var 5))])
      [.ret (.k (.bool false))]
      []],
   .ret (.k (.bool true))]
noncomputable def pfns : List Fn := [
  ⟨"lives", 3, 4, pb_lives⟩,
  ⟨"spouse_on", 3, 3, pb_spouse_on⟩,
  ⟨"will_on", 3, 5, pb_will_on⟩,
  ⟨"_law_cell_at", 2, 0, pb_law_cell_at⟩,
  ⟨"_law_whole", 1, 0, pb_law_whole⟩,
  ⟨"_law_stream", 2, 3, pb_law_stream⟩,
  ⟨"_law_some", 3, 2, pb_law_some⟩,
  ⟨"_law_people", 2, 9, pb_law_people⟩,
  ⟨"_law_adopting", 2, 9, pb_law_adopting⟩,
  ⟨"_law_lives", 3, 0, pb_law_lives⟩,
  ⟨"_law_parents", 999, 0, []⟩,
  ⟨"_law_children", 999, 0, []⟩,
  ⟨"_law_lined", 999, 0, []⟩,
  ⟨"_law_ends", 2, 1, pb_law_ends⟩,
  ⟨"_law_meets", 3, 0, pb_law_meets⟩,
  ⟨"_law_weddings", 3, 8, pb_law_weddings⟩,
  ⟨"_law_lowest", 2, 3, pb_law_lowest⟩,
  ⟨"_law_is_part", 999, 0, []⟩,
  ⟨"_law_gifts", 3, 5, pb_law_gifts⟩,
  ⟨"_law_wills", 3, 5, pb_law_wills⟩,
  ⟨"_law_spouse", 3, 4, pb_law_spouse⟩,
  ⟨"_law_will", 3, 1, pb_law_will⟩,
  ⟨"_law_days", 3, 1, pb_law_days⟩,
  ⟨"law", 1, 13, pb_law⟩]
noncomputable def pnss : List (List Str) := [pn_lives, pn_spouse_on, pn_will_on, pn_law_cell_at, pn_law_whole, pn_law_stream, pn_law_some, pn_law_people, pn_law_adopting, pn_law_lives, pn_law_parents, pn_law_children, pn_law_lined, pn_law_ends, pn_law_meets, pn_law_weddings, pn_law_lowest, pn_law_is_part, pn_law_gifts, pn_law_wills, pn_law_spouse, pn_law_will, pn_law_days, pn_law]
noncomputable def pK : CK := ⟨["lives", "spouse_on", "will_on", "_law_cell_at", "_law_whole", "_law_stream", "_law_some", "_law_people", "_law_adopting", "_law_lives", "_law_parents", "_law_children", "_law_lined", "_law_ends", "_law_meets", "_law_weddings", "_law_lowest", "_law_is_part", "_law_gifts", "_law_wills", "_law_spouse", "_law_will", "_law_days", "law"], []⟩
noncomputable def pgks : List V := []
theorem c_lives (scr : List Int) (n : Nat) (x0 x1 x2 : V) (H : Hp) : callF scr pgks pfns (n + 1) i_lives [x0, x1, x2] H = endOut (execSs ⟨scr, pgks, callF scr pgks pfns n⟩ pb_lives [some x0, some x1, some x2, none, none, none, none] H) := rfl
theorem c_spouse_on (scr : List Int) (n : Nat) (x0 x1 x2 : V) (H : Hp) : callF scr pgks pfns (n + 1) i_spouse_on [x0, x1, x2] H = endOut (execSs ⟨scr, pgks, callF scr pgks pfns n⟩ pb_spouse_on [some x0, some x1, some x2, none, none, none] H) := rfl
theorem c_will_on (scr : List Int) (n : Nat) (x0 x1 x2 : V) (H : Hp) : callF scr pgks pfns (n + 1) i_will_on [x0, x1, x2] H = endOut (execSs ⟨scr, pgks, callF scr pgks pfns n⟩ pb_will_on [some x0, some x1, some x2, none, none, none, none, none] H) := rfl
theorem c_law_cell_at (scr : List Int) (n : Nat) (x0 x1 : V) (H : Hp) : callF scr pgks pfns (n + 1) i_law_cell_at [x0, x1] H = endOut (execSs ⟨scr, pgks, callF scr pgks pfns n⟩ pb_law_cell_at [some x0, some x1] H) := rfl
theorem c_law_whole (scr : List Int) (n : Nat) (x0 : V) (H : Hp) : callF scr pgks pfns (n + 1) i_law_whole [x0] H = endOut (execSs ⟨scr, pgks, callF scr pgks pfns n⟩ pb_law_whole [some x0] H) := rfl
theorem c_law_stream (scr : List Int) (n : Nat) (x0 x1 : V) (H : Hp) : callF scr pgks pfns (n + 1) i_law_stream [x0, x1] H = endOut (execSs ⟨scr, pgks, callF scr pgks pfns n⟩ pb_law_stream [some x0, some x1, none, none, none] H) := rfl
theorem c_law_some (scr : List Int) (n : Nat) (x0 x1 x2 : V) (H : Hp) : callF scr pgks pfns (n + 1) i_law_some [x0, x1, x2] H = endOut (execSs ⟨scr, pgks, callF scr pgks pfns n⟩ pb_law_some [some x0, some x1, some x2, none, none] H) := rfl
theorem c_law_people (scr : List Int) (n : Nat) (x0 x1 : V) (H : Hp) : callF scr pgks pfns (n + 1) i_law_people [x0, x1] H = endOut (execSs ⟨scr, pgks, callF scr pgks pfns n⟩ pb_law_people [some x0, some x1, none, none, none, none, none, none, none, none, none] H) := rfl
theorem c_law_adopting (scr : List Int) (n : Nat) (x0 x1 : V) (H : Hp) : callF scr pgks pfns (n + 1) i_law_adopting [x0, x1] H = endOut (execSs ⟨scr, pgks, callF scr pgks pfns n⟩ pb_law_adopting [some x0, some x1, none, none, none, none, none, none, none, none, none] H) := rfl
theorem c_law_lives (scr : List Int) (n : Nat) (x0 x1 x2 : V) (H : Hp) : callF scr pgks pfns (n + 1) i_law_lives [x0, x1, x2] H = endOut (execSs ⟨scr, pgks, callF scr pgks pfns n⟩ pb_law_lives [some x0, some x1, some x2] H) := rfl
theorem c_law_ends (scr : List Int) (n : Nat) (x0 x1 : V) (H : Hp) : callF scr pgks pfns (n + 1) i_law_ends [x0, x1] H = endOut (execSs ⟨scr, pgks, callF scr pgks pfns n⟩ pb_law_ends [some x0, some x1, none] H) := rfl
theorem c_law_meets (scr : List Int) (n : Nat) (x0 x1 x2 : V) (H : Hp) : callF scr pgks pfns (n + 1) i_law_meets [x0, x1, x2] H = endOut (execSs ⟨scr, pgks, callF scr pgks pfns n⟩ pb_law_meets [some x0, some x1, some x2] H) := rfl
theorem c_law_weddings (scr : List Int) (n : Nat) (x0 x1 x2 : V) (H : Hp) : callF scr pgks pfns (n + 1) i_law_weddings [x0, x1, x2] H = endOut (execSs ⟨scr, pgks, callF scr pgks pfns n⟩ pb_law_weddings [some x0, some x1, some x2, none, none, none, none, none, none, none, none] H) := rfl
theorem c_law_lowest (scr : List Int) (n : Nat) (x0 x1 : V) (H : Hp) : callF scr pgks pfns (n + 1) i_law_lowest [x0, x1] H = endOut (execSs ⟨scr, pgks, callF scr pgks pfns n⟩ pb_law_lowest [some x0, some x1, none, none, none] H) := rfl
theorem c_law_gifts (scr : List Int) (n : Nat) (x0 x1 x2 : V) (H : Hp) : callF scr pgks pfns (n + 1) i_law_gifts [x0, x1, x2] H = endOut (execSs ⟨scr, pgks, callF scr pgks pfns n⟩ pb_law_gifts [some x0, some x1, some x2, none, none, none, none, none] H) := rfl
theorem c_law_wills (scr : List Int) (n : Nat) (x0 x1 x2 : V) (H : Hp) : callF scr pgks pfns (n + 1) i_law_wills [x0, x1, x2] H = endOut (execSs ⟨scr, pgks, callF scr pgks pfns n⟩ pb_law_wills [some x0, some x1, some x2, none, none, none, none, none] H) := rfl
theorem c_law_spouse (scr : List Int) (n : Nat) (x0 x1 x2 : V) (H : Hp) : callF scr pgks pfns (n + 1) i_law_spouse [x0, x1, x2] H = endOut (execSs ⟨scr, pgks, callF scr pgks pfns n⟩ pb_law_spouse [some x0, some x1, some x2, none, none, none, none] H) := rfl
theorem c_law_will (scr : List Int) (n : Nat) (x0 x1 x2 : V) (H : Hp) : callF scr pgks pfns (n + 1) i_law_will [x0, x1, x2] H = endOut (execSs ⟨scr, pgks, callF scr pgks pfns n⟩ pb_law_will [some x0, some x1, some x2, none] H) := rfl
theorem c_law_days (scr : List Int) (n : Nat) (x0 x1 x2 : V) (H : Hp) : callF scr pgks pfns (n + 1) i_law_days [x0, x1, x2] H = endOut (execSs ⟨scr, pgks, callF scr pgks pfns n⟩ pb_law_days [some x0, some x1, some x2, none] H) := rfl
theorem c_law (scr : List Int) (n : Nat) (x0 : V) (H : Hp) : callF scr pgks pfns (n + 1) i_law [x0] H = endOut (execSs ⟨scr, pgks, callF scr pgks pfns n⟩ pb_law [some x0, none, none, none, none, none, none, none, none, none, none, none, none, none] H) := rfl
end Mine.P

end
section
set_option autoImplicit false
set_option linter.unusedVariables false
set_option linter.unusedSimpArgs false
namespace Mine
open PySem
noncomputable def compB (C : Ctx) (t : Tgt) (cs : List E) (elt : E) (ws : List Nat) (H₀ : Hp) (vs : List V) (ρ : Env') (H : Hp) (acc : List V) : R (List V) := compG ws H₀ t (fun ρ H => tests C cs ρ H) (fun ρ H => evalE C elt ρ H) vs ρ H acc
theorem evalE_comp (C : Ctx) (nl : Nat) (elt : E) (t : Tgt) (it : It) (cs : List E) (ρ : Env') (H : Hp) : evalE C (.comp nl elt t it cs) ρ H = ((evalIt C it ρ H).bind fun p H => (compB C t cs elt p.2 H p.1 (List.replicate nl none ++ ρ) H []).bind fun vs H => allocL vs H) := rfl
noncomputable def forB (C : Ctx) (t : Tgt) (body : List S) (ws : List Nat) (H₀ : Hp) (vs : List V) (ρ : Env') (H : Hp) : Out := forG ws H₀ t (fun ρ H => execSs C body ρ H) vs ρ H
noncomputable def whileB (C : Ctx) (c : E) (body : List S) (n : Nat) (ρ : Env') (H : Hp) : Out := whileG (fun ρ H => tst C c ρ H) (fun ρ H => execSs C body ρ H) n ρ H
theorem execS_for (C : Ctx) (t : Tgt) (it : It) (body : List S) (ρ : Env') (H : Hp) : execS C (.for t it body) ρ H = ((evalIt C it ρ H).out ρ fun p H => forB C t body p.2 H p.1 ρ H) := rfl
theorem execS_while (C : Ctx) (c : E) (body : List S) (ρ : Env') (H : Hp) : execS C (.while c body) ρ H = whileB C c body (weight ρ) ρ H := rfl
/-- one statement behind the other -/
noncomputable def Out.seq (o : Out) (f : Env' → Hp → Out) : Out := match o with
  | .next ρ H => f ρ H
  | o => o
theorem seq_next (ρ : Env') (H : Hp) (f : Env' → Hp → Out) : Out.seq (.next ρ H) f = f ρ H := rfl
theorem seq_ret (v : V) (H : Hp) (f : Env' → Hp → Out) : Out.seq (.ret v H) f = .ret v H := rfl
theorem execSs_nil (C : Ctx) (ρ : Env') (H : Hp) : execSs C [] ρ H = .next ρ H := rfl
theorem execSs_cons (C : Ctx) (s : S) (r : List S) (ρ : Env') (H : Hp) : execSs C (s :: r) ρ H = (execS C s ρ H).seq (execSs C r) := by
  show (match execS C s ρ H with | .next ρ' H' => execSs C r ρ' H' | o => o) = _
  cases execS C s ρ H <;> rfl
theorem seq_ite (c : Prop) [Decidable c] (a b : Out) (f : Env' → Hp → Out) : Out.seq (if c then a else b) f = if c then a.seq f else b.seq f := by split <;> rfl
theorem truthy_none (scr : List Int) (H : Hp) : truthy scr H .none = some false := rfl
theorem truthy_bool (scr : List Int) (H : Hp) (b : Bool) : truthy scr H (.bool b) = some b := rfl
theorem truthy_int (scr : List Int) (H : Hp) (i : Int) : truthy scr H (.int i) = some (i != 0) := rfl
theorem truthy_tup (scr : List Int) (H : Hp) (vs : List V) : truthy scr H (.tup vs) = some (!vs.isEmpty) := rfl
theorem isInt_int (scr : List Int) (i : Int) (H : Hp) : biV scr .isInt [.int i] H = .ok (.bool true) H := rfl
theorem isBool_int (scr : List Int) (i : Int) (H : Hp) : biV scr .isBool [.int i] H = .ok (.bool false) H := rfl
theorem isTuple_tup (scr : List Int) (vs : List V) (H : Hp) : biV scr .isTuple [.tup vs] H = .ok (.bool true) H := rfl
theorem len_tup (scr : List Int) (vs : List V) (H : Hp) : biV scr .len [.tup vs] H = .ok (.int vs.length) H := rfl
theorem len_script (scr : List Int) (H : Hp) : biV scr .len [.script] H = .ok (.int scr.length) H := by
  show R.ok (V.int ((scr.map V.int).length : Int)) H = _
  rw [List.length_map]
theorem idx_tup (scr : List Int) (vs : List V) (k : Int) (H : Hp) : idxV scr (.tup vs) (.int k) H = seqAt vs k := rfl
theorem idx_script (scr : List Int) (k : Int) (H : Hp) : idxV scr .script (.int k) H = seqAt (scr.map .int) k := rfl
theorem seqAt_zero (v : V) (vs : List V) : seqAt (v :: vs) 0 = some v := rfl
theorem seqAt_one (v u : V) (vs : List V) : seqAt (v :: u :: vs) 1 = some u := rfl
theorem seqAt_two (v u w : V) (vs : List V) : seqAt (v :: u :: w :: vs) 2 = some w := rfl
theorem seqAt_three (v u w x : V) (vs : List V) : seqAt (v :: u :: w :: x :: vs) 3 = some x := rfl
theorem bin_add (a b : Int) (H : Hp) : binop .add (.int a) (.int b) H = .ok (.int (a + b)) H := rfl
theorem bin_sub (a b : Int) (H : Hp) : binop .sub (.int a) (.int b) H = .ok (.int (a - b)) H := rfl
theorem bin_mul (a b : Int) (H : Hp) (h : mulOk a b = true) : binop .mul (.int a) (.int b) H = .ok (.int (a * b)) H := if_pos h
theorem bin_fdiv (a b : Int) (H : Hp) (h : b ≠ 0) : binop .fdiv (.int a) (.int b) H = .ok (.int (a.fdiv b)) H := if_neg h
theorem bin_mod (a b : Int) (H : Hp) (h : b ≠ 0) : binop .mod (.int a) (.int b) H = .ok (.int (a.fmod b)) H := if_neg h
theorem cmp_lt (scr : List Int) (a b : Int) (H : Hp) : cmpV scr .lt (.int a) (.int b) H = some (decide (a < b)) := rfl
theorem cmp_le (scr : List Int) (a b : Int) (H : Hp) : cmpV scr .le (.int a) (.int b) H = some (decide (a ≤ b)) := rfl
theorem cmp_gt (scr : List Int) (a b : Int) (H : Hp) : cmpV scr .gt (.int a) (.int b) H = some (decide (a > b)) := rfl
theorem cmp_eq (scr : List Int) (a b : Int) (H : Hp) : cmpV scr .eq (.int a) (.int b) H = some (a == b) := rfl
theorem cmp_ne (scr : List Int) (a b : Int) (H : Hp) : cmpV scr .ne (.int a) (.int b) H = some (!(a == b)) := rfl
theorem mulOk_small (a b : Int) (h : a.natAbs < 2 ^ 64 ∨ b.natAbs < 2 ^ 64) : mulOk a b = true := by
  have key : ∀ x : Int, x.natAbs < 2 ^ 64 → Builtin.Int.intBits x ≤ 64 := by
    intro x hx
    unfold Builtin.Int.intBits
    split
    · omega
    · rename_i h0
      have h0' : x.natAbs ≠ 0 := by
        intro e
        apply h0
        simp only [beq_iff_eq]
        omega
      have := (Nat.log2_lt h0').mpr hx
      omega
  unfold mulOk shortFactorBits
  rcases h with h | h
  · have := key a h
    simp [Nat.not_lt.mpr this]
  · have := key b h
    simp [Nat.not_lt.mpr this]
end Mine

end
section
set_option autoImplicit false
set_option linter.unusedVariables false
set_option linter.unusedSimpArgs false
namespace Mine
open PySem
theorem R.bind_ok {α β : Type} (a : α) (H : Hp) (f : α → Hp → R β) : R.bind (.ok a H) f = f a H := rfl
theorem R.out_ok {α : Type} (ρ : Env') (a : α) (H : Hp) (f : α → Hp → Out) : R.out ρ f (.ok a H) = f a H := rfl
theorem ofOpt_some {α : Type} (H : Hp) (a : α) : ofOpt H (some a) = .ok a H := rfl
theorem endOut_ret (v : V) (H : Hp) : endOut (.ret v H) = .ok v H := rfl
theorem endOut_next (ρ : Env') (H : Hp) : endOut (.next ρ H) = .ok .none H := rfl
theorem execSs_next {C : Ctx} {s : S} {r : List S} {ρ ρ' : Env'} {H H' : Hp} (h : execS C s ρ H = .next ρ' H') : execSs C (s :: r) ρ H = execSs C r ρ' H' := by rw [execSs, h]
theorem execSs_ret {C : Ctx} {s : S} {r : List S} {ρ : Env'} {H H' : Hp} {v : V} (h : execS C s ρ H = .ret v H') : execSs C (s :: r) ρ H = .ret v H' := by rw [execSs, h]

noncomputable def partB : List S :=
  [.asg (.var 2) (.var 0),
   .asg (.var 3) (.var 1),
   .while (.cmp .gt (.var 3) (.k (.int 0)))
    [.asg (.var 4) (.bin .mod (.var 2) (.var 3)),
     .asg (.var 2) (.var 3),
     .asg (.var 3) (.var 4)],
   .ret (.tup [(.bin .fdiv (.var 0) (.var 2)), (.bin .fdiv (.var 1) (.var 2))])]

theorem gAsg (i : Nat) (v : V) (ρ : Env') : asg (.var i) v ρ = if i < ρ.length then some (ρ.set i (some v)) else none := rfl
theorem gWhile (t : Env' → Hp → R Bool) (b : Env' → Hp → Out) (n : Nat) (ρ : Env') (H : Hp) : whileG t b (n + 1) ρ H = ((t ρ H).out ρ fun c H => if c then match b ρ H with
      | .next ρ₁ H₁ => whileG t b n ρ₁ H₁
      | .ret v H₁ => .ret v H₁
      | .stuck => .stuck
    else .next ρ H) := rfl
theorem fmod_nat (a b : Nat) : Int.fmod (a : Int) (b : Int) = ((a % b : Nat) : Int) := by
  rw [Int.fmod_eq_emod_of_nonneg _ (by omega)]; rfl
theorem fdiv_nat (a b : Nat) : Int.fdiv (a : Int) (b : Int) = ((a / b : Nat) : Int) := by
  rw [Int.fdiv_eq_ediv_of_nonneg _ (by omega)]; rfl

theorem part_loop (C : Ctx) (x y : Option V) (H : Hp) : ∀ (b a m : Nat) (r : Option V), b < m → ∃ r',
    whileB C (.cmp .gt (.var 3) (.k (.int 0))) [.asg (.var 4) (.bin .mod (.var 2) (.var 3)), .asg (.var 2) (.var 3), .asg (.var 3) (.var 4)] m [x, y, some (.int a), some (.int b), r] H
      = .next [x, y, some (.int (Nat.gcd a b)), some (.int 0), r'] H := by
  intro b
  induction b using Nat.strongRecOn with
  | ind b ih =>
    intro a m r hm
    obtain ⟨m, rfl⟩ : ∃ k, m = k + 1 := ⟨m - 1, by omega⟩
    unfold whileB at ih ⊢
    by_cases hb : b = 0
    · subst hb
      rw [Nat.gcd_zero_right]
      exact ⟨r, rfl⟩
    · have h1 : (0 : Int) < (b : Int) := by omega
      obtain ⟨r', h'⟩ := ih (a % b) (Nat.mod_lt _ (by omega)) b m (some (.int (a % b : Nat))) (by have := Nat.mod_lt a (Nat.pos_of_ne_zero hb); omega)
      refine ⟨r', ?_⟩
      have hb' : ((b : Int) ≠ 0) := by omega
      have hg : Nat.gcd b (a % b) = Nat.gcd a b := by rw [Nat.gcd_comm b, ← Nat.gcd_rec, Nat.gcd_comm]
      rw [hg] at h'
      rw [← h']
      rw [gWhile]
      simp only [R.bind_ok, R.out_ok, ofOpt_some, tst, evalE_var, evalE_k, evalE_cmp, evalE_bin, evalE_tup, evalEs_cons, evalEs_nil, execS_asg, execS_ret, execS_while, seq_next, seq_ret, execSs_cons, execSs_nil, gAsg, List.getElem?_cons_succ, List.getElem?_cons_zero, Option.join_some, List.set_cons_succ, List.set_cons_zero, List.length_cons, List.length_nil, Nat.reduceAdd, Nat.reduceLT, if_true, Bool.false_eq_true, reduceIte, Nat.zero_add, truthy_bool, cmp_gt, gt_iff_lt, decide_true, decide_false, h1, bin_mod _ _ _ hb', fmod_nat]

theorem weight_base : ∀ ρ : Env', 1000 ≤ weight ρ
  | [] => Nat.le_refl _
  | none :: r => weight_base r
  | some v :: r => by
    cases v <;> first | exact weight_base r | exact Nat.le_trans (weight_base r) (Nat.le_add_left _ _)
theorem weight_part (a b : Nat) (x y : Int) : b < weight [some (.int a), some (.int b), some (.int x), some (.int y), none] := by
  show b < a + (b + (x.natAbs + (y.natAbs + 1000)))
  omega

/-- the part of two numbers: lowest terms -/
noncomputable def prt (a b : Nat) : V := .tup [.int ((a / Nat.gcd a b : Nat) : Int), .int ((b / Nat.gcd a b : Nat) : Int)]

theorem part_exec (C : Ctx) (a b : Nat) (H : Hp) (hb : 0 < b) : execSs C partB [some (.int a), some (.int b), none, none, none] H = .ret (prt a b) H := by
  obtain ⟨r', h'⟩ := part_loop C (some (.int a)) (some (.int b)) H b a (weight [some (.int a), some (.int b), some (.int a), some (.int b), none]) none (weight_part a b a b)
  have hg : ((Nat.gcd a b : Int) ≠ 0) := by
    have := Nat.gcd_pos_of_pos_right a hb
    omega
  unfold partB
  simp only [R.bind_ok, R.out_ok, ofOpt_some, tst, evalE_var, evalE_k, evalE_cmp, evalE_bin, evalE_tup, evalEs_cons, evalEs_nil, execS_asg, execS_ret, execS_while, seq_next, seq_ret, execSs_cons, execSs_nil, gAsg, List.getElem?_cons_succ, List.getElem?_cons_zero, Option.join_some, List.set_cons_succ, List.set_cons_zero, List.length_cons, List.length_nil, Nat.reduceAdd, Nat.reduceLT, if_true, Bool.false_eq_true, reduceIte, Nat.zero_add, truthy_bool, cmp_gt, gt_iff_lt, decide_true, decide_false]
  rw [h']
  simp only [R.bind_ok, R.out_ok, ofOpt_some, tst, evalE_var, evalE_k, evalE_cmp, evalE_bin, evalE_tup, evalEs_cons, evalEs_nil, execS_asg, execS_ret, execS_while, seq_next, seq_ret, execSs_cons, execSs_nil, gAsg, List.getElem?_cons_succ, List.getElem?_cons_zero, Option.join_some, List.set_cons_succ, List.set_cons_zero, List.length_cons, List.length_nil, Nat.reduceAdd, Nat.reduceLT, if_true, Bool.false_eq_true, reduceIte, Nat.zero_add, truthy_bool, cmp_gt, gt_iff_lt, decide_true, decide_false, bin_fdiv _ _ _ hg, fdiv_nat, prt]
end Mine

end
section
set_option autoImplicit false
set_option linter.unusedVariables false
set_option linter.unusedSimpArgs false
namespace Mine
open PySem

noncomputable def Wp {α : Type} (r : R α) (Q : α → Hp → Prop) : Prop := match r with | .ok a H => Q a H | _ => False
noncomputable def wO (o : Out) (K : Out → Prop) : Prop := match o with | .stuck => False | o => K o
noncomputable def wSome {α : Type} (o : Option α) (f : α → Prop) : Prop := match o with | some a => f a | none => False
noncomputable def wIf (t : Bool) (A B : Prop) : Prop := if t = true then A else B
noncomputable def XE (C : Ctx) (e : E) (ρ : Env') (H : Hp) (Q : V → Hp → Prop) : Prop := Wp (evalE C e ρ H) Q
noncomputable def XEs (C : Ctx) (es : List E) (ρ : Env') (H : Hp) (Q : List V → Hp → Prop) : Prop := Wp (evalEs C es ρ H) Q
noncomputable def XAnd (C : Ctx) (es : List E) (ρ : Env') (H : Hp) (Q : V → Hp → Prop) : Prop := Wp (evalAnd C es ρ H) Q
noncomputable def XOr (C : Ctx) (es : List E) (ρ : Env') (H : Hp) (Q : V → Hp → Prop) : Prop := Wp (evalOr C es ρ H) Q
noncomputable def XO (C : Ctx) (e : Option E) (ρ : Env') (H : Hp) (Q : V → Hp → Prop) : Prop := Wp (evalO C e ρ H) Q
noncomputable def XT (C : Ctx) (es : List E) (ρ : Env') (H : Hp) (Q : Bool → Hp → Prop) : Prop := Wp (tests C es ρ H) Q
noncomputable def XIt (C : Ctx) (it : It) (ρ : Env') (H : Hp) (Q : List V × List Nat → Hp → Prop) : Prop := Wp (evalIt C it ρ H) Q
noncomputable def XS (C : Ctx) (s : S) (ρ : Env') (H : Hp) (K : Out → Prop) : Prop := wO (execS C s ρ H) K
noncomputable def XSs (C : Ctx) (ss : List S) (ρ : Env') (H : Hp) (K : Out → Prop) : Prop := wO (execSs C ss ρ H) K
noncomputable def WCall (C : Ctx) (f : Nat) (vs : List V) (H : Hp) (Q : V → Hp → Prop) : Prop := Wp (C.call f vs H) Q
noncomputable def WBin (op : BOp) (x y : V) (H : Hp) (Q : V → Hp → Prop) : Prop := Wp (binop op x y H) Q
noncomputable def WBi (scr : List Int) (b : Bi) (vs : List V) (H : Hp) (Q : V → Hp → Prop) : Prop := Wp (biV scr b vs H) Q
noncomputable def WMeth (m : Me) (x : V) (vs : List V) (H : Hp) (Q : V → Hp → Prop) : Prop := Wp (methV m x vs H) Q
noncomputable def WAllocL (vs : List V) (H : Hp) (Q : V → Hp → Prop) : Prop := Wp (allocL vs H) Q
noncomputable def WSlc (scr : List Int) (x lo hi : V) (H : Hp) (Q : V → Hp → Prop) : Prop := Wp (slcV scr x lo hi H) Q
noncomputable def WMinD (x d : V) (H : Hp) (Q : V → Hp → Prop) : Prop := Wp (minDV x d H) Q
noncomputable def WFor (C : Ctx) (t : Tgt) (body : List S) (ws : List Nat) (H₀ : Hp) (vs : List V) (ρ : Env') (H : Hp) (K : Out → Prop) : Prop := wO (forB C t body ws H₀ vs ρ H) K
noncomputable def WComp (C : Ctx) (t : Tgt) (cs : List E) (elt : E) (ws : List Nat) (H₀ : Hp) (vs : List V) (ρ : Env') (H : Hp) (Q : V → Hp → Prop) : Prop := Wp ((compB C t cs elt ws H₀ vs ρ H []).bind fun vs H => allocL vs H) Q
noncomputable def wInt (x : V) (f : Int → Prop) : Prop := match x with | .int i => f i | _ => False
noncomputable def wRange (x y : V) (f : List V → Prop) : Prop := match x, y with
  | .int i, .int j => if i.natAbs < 2 ^ 60 ∧ j.natAbs < 2 ^ 60 then f (rangeV i j) else False
  | _, _ => False
theorem wRange_ok (i j : Int) (f : List V → Prop) (h1 : -1152921504606846976 < i) (h2 : i < 1152921504606846976) (h3 : -1152921504606846976 < j) (h4 : j < 1152921504606846976) : wRange (.int i) (.int j) f = f (rangeV i j) := by
  unfold wRange; exact if_pos ⟨by omega, by omega⟩
noncomputable def xThenK (C : Ctx) (r : List S) (K : Out → Prop) (o : Out) : Prop := match o with | .next ρ H => XSs C r ρ H K | o => K o
noncomputable def retK (Q : V → Hp → Prop) (o : Out) : Prop := match o with | .ret v H => Q v H | .next _ H => Q .none H | _ => False


theorem Wp_ok {α : Type} (a : α) (H : Hp) (Q : α → Hp → Prop) : Wp (.ok a H) Q = Q a H := rfl
theorem Wp_bind {α β : Type} (r : R α) (f : α → Hp → R β) (Q : β → Hp → Prop) : Wp (r.bind f) Q = Wp r fun a H => Wp (f a H) Q := by cases r <;> rfl
theorem Wp_opt {α : Type} (o : Option α) (H : Hp) (Q : α → Hp → Prop) : Wp (ofOpt H o) Q = wSome o fun a => Q a H := by cases o <;> rfl
theorem wO_out {α : Type} (ρ : Env') (r : R α) (f : α → Hp → Out) (K : Out → Prop) : wO (r.out ρ f) K = Wp r fun a H => wO (f a H) K := by cases r <;> rfl
theorem Wp_mono {α : Type} {r : R α} {Q Q' : α → Hp → Prop} (h : Wp r Q) (h' : ∀ a H, Q a H → Q' a H) : Wp r Q' := by
  cases r <;> first | exact h' _ _ h | exact h
theorem wO_mono {o : Out} {K K' : Out → Prop} (h : wO o K) (h' : ∀ o, K o → K' o) : wO o K' := by
  cases o <;> first | exact h' _ h | exact h
theorem wO_next (ρ : Env') (H : Hp) (K : Out → Prop) : wO (.next ρ H) K = K (.next ρ H) := rfl
theorem wO_ret (v : V) (H : Hp) (K : Out → Prop) : wO (.ret v H) K = K (.ret v H) := rfl
theorem Wp_end (o : Out) (Q : V → Hp → Prop) : Wp (endOut o) Q = wO o (retK Q) := by cases o <;> rfl
theorem Wp_ex {α : Type} {r : R α} {Q : α → Hp → Prop} (h : Wp r Q) : ∃ a H, r = .ok a H ∧ Q a H := by
  cases r with
  | ok a H => exact ⟨a, H, rfl, h⟩
  | stuck => exact h.elim
theorem wSome_some {α : Type} (a : α) (f : α → Prop) : wSome (some a) f = f a := rfl
theorem wIf_t (A B : Prop) : wIf true A B = A := rfl
theorem wIf_f (A B : Prop) : wIf false A B = B := by simp [wIf]
theorem wIf_split {t : Bool} {A B : Prop} (h : t = true → A) (h' : t = false → B) : wIf t A B := by
  cases t
  · rw [wIf_f]; exact h' rfl
  · exact h rfl
theorem wInt_int (i : Int) (f : Int → Prop) : wInt (.int i) f = f i := rfl
theorem xThenK_next (C : Ctx) (r : List S) (K : Out → Prop) (ρ : Env') (H : Hp) : xThenK C r K (.next ρ H) = XSs C r ρ H K := rfl
theorem xThenK_ret (C : Ctx) (r : List S) (K : Out → Prop) (v : V) (H : Hp) : xThenK C r K (.ret v H) = K (.ret v H) := rfl
theorem retK_ret (Q : V → Hp → Prop) (v : V) (H : Hp) : retK Q (.ret v H) = Q v H := rfl
theorem retK_next (Q : V → Hp → Prop) (ρ : Env') (H : Hp) : retK Q (.next ρ H) = Q .none H := rfl

theorem XE_mono {C : Ctx} {e : E} {ρ : Env'} {H : Hp} {Q Q' : V → Hp → Prop} (h : XE C e ρ H Q) (h' : ∀ a H, Q a H → Q' a H) : XE C e ρ H Q' := Wp_mono h h'
theorem XS_mono {C : Ctx} {e : S} {ρ : Env'} {H : Hp} {Q Q' : Out → Prop} (h : XS C e ρ H Q) (h' : ∀ o, Q o → Q' o) : XS C e ρ H Q' := wO_mono h h'
theorem XSs_mono {C : Ctx} {e : List S} {ρ : Env'} {H : Hp} {Q Q' : Out → Prop} (h : XSs C e ρ H Q) (h' : ∀ o, Q o → Q' o) : XSs C e ρ H Q' := wO_mono h h'
theorem WCall_of {C : Ctx} {f : Nat} {vs : List V} {H : Hp} {Q Q' : V → Hp → Prop} (h : Wp (C.call f vs H) Q) (h' : ∀ a H, Q a H → Q' a H) : WCall C f vs H Q' := Wp_mono h h'
theorem XAnd_mono {C : Ctx} {e : List E} {ρ : Env'} {H : Hp} {Q Q' : V → Hp → Prop} (h : XAnd C e ρ H Q) (h' : ∀ a H, Q a H → Q' a H) : XAnd C e ρ H Q' := Wp_mono h h'
theorem XOr_mono {C : Ctx} {e : List E} {ρ : Env'} {H : Hp} {Q Q' : V → Hp → Prop} (h : XOr C e ρ H Q) (h' : ∀ a H, Q a H → Q' a H) : XOr C e ρ H Q' := Wp_mono h h'

section
variable (C : Ctx) (ρ : Env') (H : Hp) (Q : V → Hp → Prop) (K : Out → Prop)
theorem XE_k (v : V) : XE C (.k v) ρ H Q = Q v H := by unfold XE; rw [evalE_k]; rfl
theorem XE_var (i : Nat) : XE C (.var i) ρ H Q = wSome (ρ[i]?.join) fun v => Q v H := by unfold XE; rw [evalE_var, Wp_opt]
theorem XE_bin (op : BOp) (a b : E) : XE C (.bin op a b) ρ H Q = XE C a ρ H fun x H => XE C b ρ H fun y H => WBin op x y H Q := by unfold XE WBin; rw [evalE_bin, Wp_bind]; simp only [Wp_bind]
theorem XE_neg (a : E) : XE C (.neg a) ρ H Q = XE C a ρ H fun x H => wInt x fun i => Q (.int (-i)) H := by
  unfold XE; rw [evalE_neg, Wp_bind]; congr 1; funext x H; cases x <;> rfl
theorem XE_not (a : E) : XE C (.not a) ρ H Q = XE C a ρ H fun x H => wSome (truthy C.scr H x) fun b => Q (.bool (!b)) H := by
  unfold XE; rw [evalE_not]; simp only [Wp_bind, Wp_opt, Wp_ok]
theorem XE_and (es : List E) : XE C (.and es) ρ H Q = XAnd C es ρ H Q := by unfold XE XAnd; rw [evalE_and]
theorem XE_or (es : List E) : XE C (.or es) ρ H Q = XOr C es ρ H Q := by unfold XE XOr; rw [evalE_or]
theorem Wp_ite {α : Type} (t : Bool) (a b : R α) (Q : α → Hp → Prop) : Wp (if t = true then a else b) Q = wIf t (Wp a Q) (Wp b Q) := by cases t <;> simp [wIf]
theorem XE_ife (c a b : E) : XE C (.ife c a b) ρ H Q = XE C c ρ H fun x H => wSome (truthy C.scr H x) fun t => wIf t (XE C a ρ H Q) (XE C b ρ H Q) := by
  unfold XE; rw [evalE_ife]; simp only [Wp_bind, Wp_opt, Wp_ite]
theorem XE_cmp (op : COp) (a b : E) : XE C (.cmp op a b) ρ H Q = XE C a ρ H fun x H => XE C b ρ H fun y H => wSome (cmpV C.scr op x y H) fun t => Q (.bool t) H := by
  unfold XE; rw [evalE_cmp]; simp only [Wp_bind, Wp_opt, Wp_ok]
theorem XE_cmp2 (a b c : E) (o1 o2 : COp) : XE C (.cmp2 a o1 b o2 c) ρ H Q = XE C a ρ H fun x H => XE C b ρ H fun y H => wSome (cmpV C.scr o1 x y H) fun t => wIf t (XE C c ρ H fun z H => wSome (cmpV C.scr o2 y z H) fun t => Q (.bool t) H) (Q (.bool false) H) := by
  unfold XE; rw [evalE_cmp2]; simp only [Wp_bind, Wp_opt, Wp_ok, Wp_ite]
theorem XE_isNone (a : E) : XE C (.isNone a) ρ H Q = XE C a ρ H fun x H => Q (.bool (isNoneV x)) H := by unfold XE; rw [evalE_isNone]; simp only [Wp_bind, Wp_ok]
theorem XE_notNone (a : E) : XE C (.notNone a) ρ H Q = XE C a ρ H fun x H => Q (.bool (!isNoneV x)) H := by unfold XE; rw [evalE_notNone]; simp only [Wp_bind, Wp_ok]
theorem XE_tup (es : List E) : XE C (.tup es) ρ H Q = XEs C es ρ H fun vs H => Q (.tup vs) H := by unfold XE XEs; rw [evalE_tup]; simp only [Wp_bind, Wp_ok]
theorem XE_lst (es : List E) : XE C (.lst es) ρ H Q = XEs C es ρ H fun vs H => Q (.ref H.length) (H ++ [.list vs]) := by unfold XE XEs; rw [evalE_lst]; simp only [Wp_bind, Wp_ok, alloc]
theorem XE_idx (a i : E) : XE C (.idx a i) ρ H Q = XE C a ρ H fun x H => XE C i ρ H fun y H => wSome (idxV C.scr x y H) fun v => Q v H := by unfold XE; rw [evalE_idx]; simp only [Wp_bind, Wp_opt]
theorem XE_slc (a : E) (lo hi : Option E) : XE C (.slc a lo hi) ρ H Q = XE C a ρ H fun x H => XO C lo ρ H fun l H => XO C hi ρ H fun h H => WSlc C.scr x l h H Q := by unfold XE XO WSlc; rw [evalE_slc]; simp only [Wp_bind]
theorem XE_call (f : Nat) (es : List E) : XE C (.call f es) ρ H Q = XEs C es ρ H fun vs H => WCall C f vs H Q := by unfold XE XEs WCall; rw [evalE_call]; simp only [Wp_bind]
theorem XE_bi (b : Bi) (es : List E) : XE C (.bi b es) ρ H Q = XEs C es ρ H fun vs H => WBi C.scr b vs H Q := by unfold XE XEs WBi; rw [evalE_bi]; simp only [Wp_bind]
theorem XE_minD (a d : E) : XE C (.minD a d) ρ H Q = XE C a ρ H fun x H => XE C d ρ H fun y H => WMinD x y H Q := by unfold XE WMinD; rw [evalE_minD]; simp only [Wp_bind]
theorem XE_meth (m : Me) (a : E) (es : List E) : XE C (.meth m a es) ρ H Q = XE C a ρ H fun x H => wIf (meKind m H x) (XEs C es ρ H fun vs H => WMeth m x vs H Q) False := by
  unfold XE XEs WMeth; rw [evalE_meth]; simp only [Wp_bind, Wp_ite]; rfl
theorem XE_listOf (e : E) : XE C (.listOf e) ρ H Q = XE C e ρ H fun x H => wSome (itemsOf C.scr H x) fun vs => WAllocL vs H Q := by
  unfold XE WAllocL; rw [evalE_listOf_of]; simp only [Wp_bind, Wp_opt]
theorem XE_comp (nl : Nat) (elt : E) (t : Tgt) (it : It) (cs : List E) : XE C (.comp nl elt t it cs) ρ H Q = XIt C it ρ H fun p H => WComp C t cs elt p.2 H p.1 (List.replicate nl none ++ ρ) H Q := by
  unfold XE XIt WComp; rw [evalE_comp, Wp_bind]
theorem XEs_nil (Q : List V → Hp → Prop) : XEs C [] ρ H Q = Q [] H := by rfl
theorem XEs_cons (e : E) (r : List E) (Q : List V → Hp → Prop) : XEs C (e :: r) ρ H Q = XE C e ρ H fun v H => XEs C r ρ H fun vs H => Q (v :: vs) H := by unfold XEs XE; rw [evalEs_cons]; simp only [Wp_bind, Wp_ok]
theorem XO_none : XO C none ρ H Q = Q .none H := by rfl
theorem XO_some (e : E) : XO C (some e) ρ H Q = XE C e ρ H Q := by rfl
theorem XAnd_one (e : E) : XAnd C [e] ρ H Q = XE C e ρ H Q := by unfold XAnd XE; rw [evalAnd_cons]; simp only [Wp_bind, Wp_ok]
theorem XAnd_cons (e f : E) (r : List E) : XAnd C (e :: f :: r) ρ H Q = XE C e ρ H fun x H => wSome (truthy C.scr H x) fun t => wIf t (XAnd C (f :: r) ρ H Q) (Q x H) := by
  unfold XAnd XE; rw [evalAnd_cons]; simp only [Wp_bind, Wp_ok, Wp_opt, Wp_ite]
theorem XOr_one (e : E) : XOr C [e] ρ H Q = XE C e ρ H Q := by unfold XOr XE; rw [evalOr_cons]; simp only [Wp_bind, Wp_ok]
theorem XOr_cons (e f : E) (r : List E) : XOr C (e :: f :: r) ρ H Q = XE C e ρ H fun x H => wSome (truthy C.scr H x) fun t => wIf t (Q x H) (XOr C (f :: r) ρ H Q) := by
  unfold XOr XE; rw [evalOr_cons]; simp only [Wp_bind, Wp_ok, Wp_opt, Wp_ite]
theorem XT_nil (Q : Bool → Hp → Prop) : XT C [] ρ H Q = Q true H := by rfl
theorem XT_cons (e : E) (r : List E) (Q : Bool → Hp → Prop) : XT C (e :: r) ρ H Q = XE C e ρ H fun x H => wSome (truthy C.scr H x) fun t => wIf t (XT C r ρ H Q) (Q false H) := by
  unfold XT XE; rw [tests_cons]; simp only [Wp_bind, Wp_opt, Wp_ite, Wp_ok]
theorem XIt_of (e : E) (Q : List V × List Nat → Hp → Prop) : XIt C (.of e) ρ H Q = XE C e ρ H fun x H => wSome (seqOf C.scr H x) fun vs => Q (vs, watch x) H := by
  unfold XIt XE; rw [evalIt_of]; simp only [Wp_bind, Wp_opt, Wp_ok]
theorem XIt_enum (e : E) (Q : List V × List Nat → Hp → Prop) : XIt C (.enum e) ρ H Q = XE C e ρ H fun x H => wSome (lstOf C.scr H x) fun vs => Q (enumV 0 vs, watch x) H := by
  unfold XIt XE; rw [evalIt_enum]; simp only [Wp_bind, Wp_opt, Wp_ok]
theorem XIt_range (a b : E) (Q : List V × List Nat → Hp → Prop) : XIt C (.range a b) ρ H Q = XE C a ρ H fun x H => XE C b ρ H fun y H => wRange x y fun l => Q (l, []) H := by
  unfold XIt XE; rw [evalIt_range]; simp only [Wp_bind]
  congr 1; funext x H; congr 1; funext y H
  cases x <;> cases y <;> try rfl
  rename_i i j
  show Wp (if i.natAbs < 2 ^ 60 ∧ j.natAbs < 2 ^ 60 then .ok (rangeV i j, []) H else .stuck) Q = if i.natAbs < 2 ^ 60 ∧ j.natAbs < 2 ^ 60 then Q (rangeV i j, []) H else False
  by_cases h : i.natAbs < 2 ^ 60 ∧ j.natAbs < 2 ^ 60
  · rw [if_pos h, if_pos h]; rfl
  · rw [if_neg h, if_neg h]; rfl
theorem XS_expr (e : E) : XS C (.expr e) ρ H K = XE C e ρ H fun _ H => K (.next ρ H) := by unfold XS XE; rw [execS_expr, wO_out]; rfl
theorem XS_asg (t : Tgt) (e : E) : XS C (.asg t e) ρ H K = XE C e ρ H fun v H => wSome (asg t v ρ) fun ρ' => K (.next ρ' H) := by
  unfold XS XE; rw [execS_asg, wO_out]; congr 1; funext v H; cases asg t v ρ <;> rfl
theorem XS_setIdx (a i e : E) : XS C (.setIdx a i e) ρ H K = XE C e ρ H fun v H => XE C a ρ H fun x H => XE C i ρ H fun k H => wSome (setIdxV x k v H) fun H' => K (.next ρ H') := by
  unfold XS XE; rw [execS_setIdx]; simp only [wO_out]; congr 1; funext v H; congr 1; funext x H; congr 1; funext k H; cases setIdxV x k v H <;> rfl
theorem XS_ret (e : E) : XS C (.ret e) ρ H K = XE C e ρ H fun v H => K (.ret v H) := by unfold XS XE; rw [execS_ret, wO_out]; rfl
theorem XS_ife (c : E) (a b : List S) : XS C (.ife c a b) ρ H K = XE C c ρ H fun x H => wSome (truthy C.scr H x) fun t => wIf t (XSs C a ρ H K) (XSs C b ρ H K) := by
  unfold XS XE XSs; rw [execS_ife, wO_out, tst, Wp_bind]
  congr 1; funext x H; rw [Wp_opt]; congr 1; funext t; cases t <;> simp [wIf]
theorem XS_for (t : Tgt) (it : It) (body : List S) : XS C (.for t it body) ρ H K = XIt C it ρ H fun p H => WFor C t body p.2 H p.1 ρ H K := by
  unfold XS XIt WFor; rw [execS_for, wO_out]
theorem XSs_nil : XSs C [] ρ H K = K (.next ρ H) := by unfold XSs; rw [execSs_nil]; rfl
theorem XSs_cons (s : S) (r : List S) : XSs C (s :: r) ρ H K = XS C s ρ H (xThenK C r K) := by
  unfold XSs XS; rw [execSs_cons]; cases execS C s ρ H <;> rfl
end

section
variable (H : Hp) (Q : V → Hp → Prop)
theorem WBin_add (a b : Int) : WBin .add (.int a) (.int b) H Q = Q (.int (a + b)) H := rfl
theorem WBin_sub (a b : Int) : WBin .sub (.int a) (.int b) H Q = Q (.int (a - b)) H := rfl
theorem WBin_mulr (a b : Int) (h : -18446744073709551616 < b) (h' : b < 18446744073709551616) : WBin .mul (.int a) (.int b) H Q = Q (.int (a * b)) H := by
  unfold WBin; rw [bin_mul _ _ _ (mulOk_small _ _ (.inr (by omega)))]; rfl
theorem WBin_mull (a b : Int) (h : -18446744073709551616 < a) (h' : a < 18446744073709551616) : WBin .mul (.int a) (.int b) H Q = Q (.int (a * b)) H := by
  unfold WBin; rw [bin_mul _ _ _ (mulOk_small _ _ (.inl (by omega)))]; rfl
theorem WBin_fdiv (a b : Int) (h : 0 < b) : WBin .fdiv (.int a) (.int b) H Q = Q (.int (a / b)) H := by
  unfold WBin; rw [bin_fdiv _ _ _ (by omega), Int.fdiv_eq_ediv_of_nonneg _ (by omega)]; rfl
theorem WBin_mod (a b : Int) (h : 0 < b) : WBin .mod (.int a) (.int b) H Q = Q (.int (a % b)) H := by
  unfold WBin; rw [bin_mod _ _ _ (by omega), Int.fmod_eq_emod_of_nonneg _ (by omega)]; rfl
theorem onL_at {H : Hp} {l : Nat} {xs : List V} {f : List V → R V} (h : H[l]? = some (.list xs)) : onL H (.ref l) f = f xs := by simp only [onL, h]
theorem WBin_cat {l m : Nat} {xs ys : List V} (h : H[l]? = some (.list xs)) (h' : H[m]? = some (.list ys)) : WBin .add (.ref l) (.ref m) H Q = WAllocL (xs ++ ys) H Q := by
  show Wp (onL H (.ref l) fun xs => onL H (.ref m) fun ys => allocL (xs ++ ys) H) Q = _
  rw [onL_at h, onL_at h']; rfl
theorem WAllocL_ok (vs : List V) (h : vs.length < 1000000) : WAllocL vs H Q = Q (.ref H.length) (H ++ [.list vs]) := by
  unfold WAllocL allocL szOk; simp only [h, decide_true, if_true]; rfl
theorem WBi_lenT (scr : List Int) (vs : List V) : WBi scr .len [.tup vs] H Q = Q (.int vs.length) H := rfl
theorem WBi_lenS (scr : List Int) : WBi scr .len [.script] H Q = Q (.int scr.length) H := by unfold WBi; rw [len_script]; rfl
theorem WBi_lenL (scr : List Int) {l : Nat} {xs : List V} (h : H[l]? = some (.list xs)) : WBi scr .len [.ref l] H Q = Q (.int xs.length) H := by
  have e : itemsOf scr H (.ref l) = some xs := by simp [itemsOf, h]
  show Wp (onO (itemsOf scr H (.ref l)) fun l => R.ok (V.int l.length) H) Q = _
  rw [e]; rfl
theorem WBi_isInt (scr : List Int) (i : Int) : WBi scr .isInt [.int i] H Q = Q (.bool true) H := rfl
theorem WBi_isBool (scr : List Int) (i : Int) : WBi scr .isBool [.int i] H Q = Q (.bool false) H := rfl
theorem WBi_isTuple (scr : List Int) (vs : List V) : WBi scr .isTuple [.tup vs] H Q = Q (.bool true) H := rfl
theorem WBi_max2 (scr : List Int) (a b : Int) : WBi scr .max2 [.int a, .int b] H Q = Q (.int (max a b)) H := rfl
theorem WMeth_app {l : Nat} {xs : List V} (v : V) (h : H[l]? = some (.list xs)) (h' : xs.length < 1000000) : WMeth .append (.ref l) [v] H Q = Q .none (H.set l (.list (xs ++ [v]))) := by
  show Wp (onL H (.ref l) fun xs => bi1 [v] fun v => if szOk xs then .ok .none (H.set l (.list (xs ++ [v]))) else .stuck) Q = _
  rw [onL_at h]
  have : szOk xs = true := decide_eq_true h'
  show Wp (if szOk xs then .ok .none (H.set l (.list (xs ++ [v]))) else .stuck) Q = _
  rw [this]; rfl
theorem WSlc_tup (scr : List Int) (vs : List V) (lo hi : V) {l h : Option Int} (hl : partOf lo = some l) (hh : partOf hi = some h) : WSlc scr (.tup vs) lo hi H Q = Q (.tup (pySlice vs l h)) H := by
  unfold WSlc slcV; simp only [hl, hh]; rfl
theorem WSlc_lst (scr : List Int) {n : Nat} {xs : List V} (lo hi : V) {l h : Option Int} (hx : H[n]? = some (.list xs)) (hl : partOf lo = some l) (hh : partOf hi = some h) : WSlc scr (.ref n) lo hi H Q = WAllocL (pySlice xs l h) H Q := by
  unfold WSlc WAllocL slcV itemsOf; simp only [hl, hh, hx]
theorem meKind_app {l : Nat} {xs : List V} (h : H[l]? = some (.list xs)) : meKind .append H (.ref l) = true := by simp [meKind, isListB, h]
theorem seqOf_tup (scr : List Int) (vs : List V) : seqOf scr H (.tup vs) = some vs := rfl
theorem seqOf_lst (scr : List Int) {l : Nat} {xs : List V} (h : H[l]? = some (.list xs)) : seqOf scr H (.ref l) = some xs := by simp [seqOf, h]
theorem lstOf_lst (scr : List Int) {l : Nat} {xs : List V} (h : H[l]? = some (.list xs)) : lstOf scr H (.ref l) = some xs := by simp [lstOf, h]
theorem itemsOf_lst (scr : List Int) {l : Nat} {xs : List V} (h : H[l]? = some (.list xs)) : itemsOf scr H (.ref l) = some xs := by simp [itemsOf, h]
theorem idx_lst (scr : List Int) {l : Nat} {xs : List V} (k : Int) (h : H[l]? = some (.list xs)) : idxV scr (.ref l) (.int k) H = seqAt xs k := by simp [idxV, itemsOf, h]
theorem truthy_lst (scr : List Int) {l : Nat} {xs : List V} (h : H[l]? = some (.list xs)) : truthy scr H (.ref l) = some (!xs.isEmpty) := by simp [truthy, h]
theorem setIdx_lst {l : Nat} {xs : List V} (k : Int) (v : V) (h : H[l]? = some (.list xs)) (h0 : 0 ≤ k) (h1 : k < xs.length) : setIdxV (.ref l) (.int k) v H = some (H.set l (.list (xs.set k.toNat v))) := by simp [setIdxV, h, h0, h1]
end


noncomputable def WWh (C : Ctx) (c : E) (body : List S) (ρ : Env') (H : Hp) (K : Out → Prop) : Prop := wO (whileB C c body (weight ρ) ρ H) K
noncomputable def wNil {α : Type} (l : List α) (A B : Prop) : Prop := match l with | [] => A | _ :: _ => B
noncomputable def wThen (o : Out) (f : Env' → Hp → Prop) (A : Prop) : Prop := match o with | .next ρ H => f ρ H | _ => A

theorem wSome_mono {α : Type} {o : Option α} {f g : α → Prop} (h : wSome o f) (m : ∀ a, f a → g a) : wSome o g := by
  cases o
  · exact h
  · exact m _ h
theorem wIf_mono {t : Bool} {A B A' B' : Prop} (h : wIf t A B) (a : A → A') (b : B → B') : wIf t A' B' := by
  cases t
  · rw [wIf_f] at h ⊢; exact b h
  · exact a h
theorem wInt_mono {x : V} {f g : Int → Prop} (h : wInt x f) (m : ∀ i, f i → g i) : wInt x g := by
  cases x <;> first | exact m _ h | exact h
theorem wRange_mono {x y : V} {f g : List V → Prop} (h : wRange x y f) (m : ∀ i, f i → g i) : wRange x y g := by
  cases x <;> cases y <;> first | exact h | skip
  rename_i i j
  by_cases hb : i.natAbs < 2 ^ 60 ∧ j.natAbs < 2 ^ 60
  · have e : ∀ f, wRange (.int i) (.int j) f = f (rangeV i j) := fun f => if_pos hb
    rw [e] at h ⊢; exact m _ h
  · have e : ∀ f, wRange (.int i) (.int j) f = False := fun f => if_neg hb
    rw [e] at h; exact h.elim
theorem wNil_mono {α : Type} {l : List α} {A B A' B' : Prop} (h : wNil l A B) (a : A → A') (b : B → B') : wNil l A' B' := by
  cases l
  · exact a h
  · exact b h

mutual
noncomputable def WE (C : Ctx) : E → Env' → Hp → (V → Hp → Prop) → Prop
  | .k v, _, H, Q => Q v H
  | .var i, ρ, H, Q => wSome (ρ[i]?.join) fun v => Q v H
  | .bin op a b, ρ, H, Q => WE C a ρ H fun x H => WE C b ρ H fun y H => WBin op x y H Q
  | .neg a, ρ, H, Q => WE C a ρ H fun x H => wInt x fun i => Q (.int (-i)) H
  | .not a, ρ, H, Q => WE C a ρ H fun x H => wSome (truthy C.scr H x) fun b => Q (.bool (!b)) H
  | .and es, ρ, H, Q => WAnd C es ρ H Q
  | .or es, ρ, H, Q => WOr C es ρ H Q
  | .ife c a b, ρ, H, Q => WE C c ρ H fun x H => wSome (truthy C.scr H x) fun t => wIf t (WE C a ρ H Q) (WE C b ρ H Q)
  | .cmp op a b, ρ, H, Q => WE C a ρ H fun x H => WE C b ρ H fun y H => wSome (cmpV C.scr op x y H) fun t => Q (.bool t) H
  | .cmp2 a o1 b o2 c, ρ, H, Q => WE C a ρ H fun x H => WE C b ρ H fun y H => wSome (cmpV C.scr o1 x y H) fun t => wIf t (WE C c ρ H fun z H => wSome (cmpV C.scr o2 y z H) fun t => Q (.bool t) H) (Q (.bool false) H)
  | .isNone a, ρ, H, Q => WE C a ρ H fun x H => Q (.bool (isNoneV x)) H
  | .notNone a, ρ, H, Q => WE C a ρ H fun x H => Q (.bool (!isNoneV x)) H
  | .tup es, ρ, H, Q => WEs C es ρ H fun vs H => Q (.tup vs) H
  | .lst es, ρ, H, Q => WEs C es ρ H fun vs H => Q (.ref H.length) (H ++ [.list vs])
  | .idx a i, ρ, H, Q => WE C a ρ H fun x H => WE C i ρ H fun y H => wSome (idxV C.scr x y H) fun v => Q v H
  | .slc a lo hi, ρ, H, Q => WE C a ρ H fun x H => WO C lo ρ H fun l H => WO C hi ρ H fun h H => WSlc C.scr x l h H Q
  | .call f es, ρ, H, Q => WEs C es ρ H fun vs H => WCall C f vs H Q
  | .bi b es, ρ, H, Q => WEs C es ρ H fun vs H => WBi C.scr b vs H Q
  | .minD a d, ρ, H, Q => WE C a ρ H fun x H => WE C d ρ H fun y H => WMinD x y H Q
  | .meth m a es, ρ, H, Q => WE C a ρ H fun x H => wIf (meKind m H x) (WEs C es ρ H fun vs H => WMeth m x vs H Q) False
  | .comp nl elt t it cs, ρ, H, Q => WIt C it ρ H fun p H => WComp C t cs elt p.2 H p.1 (List.replicate nl none ++ ρ) H Q
  | .listOf e, ρ, H, Q => WE C e ρ H fun x H => wSome (itemsOf C.scr H x) fun vs => WAllocL vs H Q
noncomputable def WEs (C : Ctx) : List E → Env' → Hp → (List V → Hp → Prop) → Prop
  | [], _, H, Q => Q [] H
  | e :: r, ρ, H, Q => WE C e ρ H fun v H => WEs C r ρ H fun vs H => Q (v :: vs) H
noncomputable def WO (C : Ctx) : Option E → Env' → Hp → (V → Hp → Prop) → Prop
  | none, _, H, Q => Q .none H
  | some e, ρ, H, Q => WE C e ρ H Q
noncomputable def WAnd (C : Ctx) : List E → Env' → Hp → (V → Hp → Prop) → Prop
  | [], _, _, _ => False
  | e :: r, ρ, H, Q => WE C e ρ H fun x H => wNil r (Q x H) (wSome (truthy C.scr H x) fun t => wIf t (WAnd C r ρ H Q) (Q x H))
noncomputable def WOr (C : Ctx) : List E → Env' → Hp → (V → Hp → Prop) → Prop
  | [], _, _, _ => False
  | e :: r, ρ, H, Q => WE C e ρ H fun x H => wNil r (Q x H) (wSome (truthy C.scr H x) fun t => wIf t (Q x H) (WOr C r ρ H Q))
noncomputable def WIt (C : Ctx) : It → Env' → Hp → (List V × List Nat → Hp → Prop) → Prop
  | .of e, ρ, H, Q => WE C e ρ H fun x H => wSome (seqOf C.scr H x) fun vs => Q (vs, watch x) H
  | .range a b, ρ, H, Q => WE C a ρ H fun x H => WE C b ρ H fun y H => wRange x y fun l => Q (l, []) H
  | .enum e, ρ, H, Q => WE C e ρ H fun x H => wSome (lstOf C.scr H x) fun vs => Q (enumV 0 vs, watch x) H
end
noncomputable def WT (C : Ctx) : List E → Env' → Hp → (Bool → Hp → Prop) → Prop
  | [], _, H, Q => Q true H
  | e :: r, ρ, H, Q => WE C e ρ H fun x H => wSome (truthy C.scr H x) fun t => wIf t (WT C r ρ H Q) (Q false H)
mutual
noncomputable def WS (C : Ctx) : S → Env' → Hp → (Out → Prop) → Prop
  | .expr e, ρ, H, K => WE C e ρ H fun _ H => K (.next ρ H)
  | .asg t e, ρ, H, K => WE C e ρ H fun v H => wSome (asg t v ρ) fun ρ' => K (.next ρ' H)
  | .setIdx a i e, ρ, H, K => WE C e ρ H fun v H => WE C a ρ H fun x H => WE C i ρ H fun k H => wSome (setIdxV x k v H) fun H' => K (.next ρ H')
  | .ret e, ρ, H, K => WE C e ρ H fun v H => K (.ret v H)
  | .ife c a b, ρ, H, K => WE C c ρ H fun x H => wSome (truthy C.scr H x) fun t => wIf t (WSs C a ρ H K) (WSs C b ρ H K)
  | .for t it body, ρ, H, K => WIt C it ρ H fun p H => WFor C t body p.2 H p.1 ρ H K
  | .while c body, ρ, H, K => WWh C c body ρ H K
noncomputable def WSs (C : Ctx) : List S → Env' → Hp → (Out → Prop) → Prop
  | [], ρ, H, K => K (.next ρ H)
  | s :: r, ρ, H, K => WS C s ρ H fun o => wThen o (fun ρ H => WSs C r ρ H K) (K o)
end

section
variable (C : Ctx)
mutual
theorem sdE : ∀ (e : E) (ρ : Env') (H : Hp) (Q : V → Hp → Prop), WE C e ρ H Q → XE C e ρ H Q
  | .k v, ρ, H, Q, h => by rw [XE_k]; exact h
  | .var i, ρ, H, Q, h => by rw [XE_var]; exact h
  | .bin op a b, ρ, H, Q, h => by rw [XE_bin]; exact XE_mono (sdE a ρ H _ h) fun x H h => sdE b ρ H _ h
  | .neg a, ρ, H, Q, h => by rw [XE_neg]; exact sdE a ρ H _ h
  | .not a, ρ, H, Q, h => by rw [XE_not]; exact sdE a ρ H _ h
  | .and es, ρ, H, Q, h => by rw [XE_and]; exact sdAnd es ρ H Q h
  | .or es, ρ, H, Q, h => by rw [XE_or]; exact sdOr es ρ H Q h
  | .ife c a b, ρ, H, Q, h => by
    rw [XE_ife]
    exact XE_mono (sdE c ρ H _ h) fun x H h => wSome_mono h fun t h => wIf_mono h (sdE a ρ H Q) (sdE b ρ H Q)
  | .cmp op a b, ρ, H, Q, h => by rw [XE_cmp]; exact XE_mono (sdE a ρ H _ h) fun x H h => sdE b ρ H _ h
  | .cmp2 a o1 b o2 c, ρ, H, Q, h => by
    rw [XE_cmp2]
    exact XE_mono (sdE a ρ H _ h) fun x H h => XE_mono (sdE b ρ H _ h) fun y H h => wSome_mono h fun t h => wIf_mono h (sdE c ρ H _) id
  | .isNone a, ρ, H, Q, h => by rw [XE_isNone]; exact sdE a ρ H _ h
  | .notNone a, ρ, H, Q, h => by rw [XE_notNone]; exact sdE a ρ H _ h
  | .tup es, ρ, H, Q, h => by rw [XE_tup]; exact sdEs es ρ H _ h
  | .lst es, ρ, H, Q, h => by rw [XE_lst]; exact sdEs es ρ H _ h
  | .idx a i, ρ, H, Q, h => by rw [XE_idx]; exact XE_mono (sdE a ρ H _ h) fun x H h => sdE i ρ H _ h
  | .slc a lo hi, ρ, H, Q, h => by rw [XE_slc]; exact XE_mono (sdE a ρ H _ h) fun x H h => Wp_mono (sdO lo ρ H _ h) fun y H h => sdO hi ρ H _ h
  | .call f es, ρ, H, Q, h => by rw [XE_call]; exact sdEs es ρ H _ h
  | .bi b es, ρ, H, Q, h => by rw [XE_bi]; exact sdEs es ρ H _ h
  | .minD a d, ρ, H, Q, h => by rw [XE_minD]; exact XE_mono (sdE a ρ H _ h) fun x H h => sdE d ρ H _ h
  | .meth m a es, ρ, H, Q, h => by
    rw [XE_meth]
    exact XE_mono (sdE a ρ H _ h) fun x H h => wIf_mono h (sdEs es ρ H _) id
  | .comp nl elt t it cs, ρ, H, Q, h => by rw [XE_comp]; exact sdIt it ρ H _ h
  | .listOf e, ρ, H, Q, h => by rw [XE_listOf]; exact sdE e ρ H _ h
theorem sdEs : ∀ (es : List E) (ρ : Env') (H : Hp) (Q : List V → Hp → Prop), WEs C es ρ H Q → XEs C es ρ H Q
  | [], ρ, H, Q, h => by rw [XEs_nil]; exact h
  | e :: r, ρ, H, Q, h => by rw [XEs_cons]; exact XE_mono (sdE e ρ H _ h) fun v H h => sdEs r ρ H _ h
theorem sdO : ∀ (e : Option E) (ρ : Env') (H : Hp) (Q : V → Hp → Prop), WO C e ρ H Q → XO C e ρ H Q
  | none, ρ, H, Q, h => by rw [XO_none]; exact h
  | some e, ρ, H, Q, h => by rw [XO_some]; exact sdE e ρ H Q h
theorem sdAnd : ∀ (es : List E) (ρ : Env') (H : Hp) (Q : V → Hp → Prop), WAnd C es ρ H Q → XAnd C es ρ H Q
  | [], ρ, H, Q, h => h.elim
  | [e], ρ, H, Q, h => by rw [XAnd_one]; exact sdE e ρ H _ h
  | e :: f :: r, ρ, H, Q, h => by
    rw [XAnd_cons]
    exact XE_mono (sdE e ρ H _ h) fun x H h => wSome_mono h fun t h => wIf_mono h (sdAnd (f :: r) ρ H Q) id
theorem sdOr : ∀ (es : List E) (ρ : Env') (H : Hp) (Q : V → Hp → Prop), WOr C es ρ H Q → XOr C es ρ H Q
  | [], ρ, H, Q, h => h.elim
  | [e], ρ, H, Q, h => by rw [XOr_one]; exact sdE e ρ H _ h
  | e :: f :: r, ρ, H, Q, h => by
    rw [XOr_cons]
    exact XE_mono (sdE e ρ H _ h) fun x H h => wSome_mono h fun t h => wIf_mono h id (sdOr (f :: r) ρ H Q)
theorem sdIt : ∀ (it : It) (ρ : Env') (H : Hp) (Q : List V × List Nat → Hp → Prop), WIt C it ρ H Q → XIt C it ρ H Q
  | .of e, ρ, H, Q, h => by rw [XIt_of]; exact sdE e ρ H _ h
  | .range a b, ρ, H, Q, h => by rw [XIt_range]; exact XE_mono (sdE a ρ H _ h) fun x H h => sdE b ρ H _ h
  | .enum e, ρ, H, Q, h => by rw [XIt_enum]; exact sdE e ρ H _ h
end
theorem sdT : ∀ (es : List E) (ρ : Env') (H : Hp) (Q : Bool → Hp → Prop), WT C es ρ H Q → XT C es ρ H Q
  | [], ρ, H, Q, h => by rw [XT_nil]; exact h
  | e :: r, ρ, H, Q, h => by
    rw [XT_cons]
    exact XE_mono (sdE C e ρ H _ h) fun x H h => wSome_mono h fun t h => wIf_mono h (sdT r ρ H Q) id
mutual
theorem sdS : ∀ (s : S) (ρ : Env') (H : Hp) (K : Out → Prop), WS C s ρ H K → XS C s ρ H K
  | .expr e, ρ, H, K, h => by rw [XS_expr]; exact sdE C e ρ H _ h
  | .asg t e, ρ, H, K, h => by rw [XS_asg]; exact sdE C e ρ H _ h
  | .setIdx a i e, ρ, H, K, h => by rw [XS_setIdx]; exact XE_mono (sdE C e ρ H _ h) fun v H h => XE_mono (sdE C a ρ H _ h) fun x H h => sdE C i ρ H _ h
  | .ret e, ρ, H, K, h => by rw [XS_ret]; exact sdE C e ρ H _ h
  | .ife c a b, ρ, H, K, h => by
    rw [XS_ife]
    exact XE_mono (sdE C c ρ H _ h) fun x H h => wSome_mono h fun t h => wIf_mono h (sdSs a ρ H K) (sdSs b ρ H K)
  | .for t it body, ρ, H, K, h => by rw [XS_for]; exact sdIt C it ρ H _ h
  | .while c body, ρ, H, K, h => by unfold XS; rw [execS_while]; exact h
theorem sdSs : ∀ (ss : List S) (ρ : Env') (H : Hp) (K : Out → Prop), WSs C ss ρ H K → XSs C ss ρ H K
  | [], ρ, H, K, h => by rw [XSs_nil]; exact h
  | s :: r, ρ, H, K, h => by
    rw [XSs_cons]
    refine XS_mono (sdS s ρ H _ h) ?_
    intro o ho
    cases o <;> first | exact ho | exact sdSs r _ _ K ho
end
theorem WSs.sound {ss : List S} {ρ : Env'} {H : Hp} {K : Out → Prop} (h : WSs C ss ρ H K) : wO (execSs C ss ρ H) K := sdSs C ss ρ H K h
theorem WT.sound {ss : List E} {ρ : Env'} {H : Hp} {K : Bool → Hp → Prop} (h : WT C ss ρ H K) : Wp (tests C ss ρ H) K := sdT C ss ρ H K h
theorem WE.sound {e : E} {ρ : Env'} {H : Hp} {K : V → Hp → Prop} (h : WE C e ρ H K) : Wp (evalE C e ρ H) K := sdE C e ρ H K h
mutual
theorem mnE : ∀ (e : E) (ρ : Env') (H : Hp) (Q Q' : V → Hp → Prop), (∀ a H, Q a H → Q' a H) → WE C e ρ H Q → WE C e ρ H Q'
  | .k v, ρ, H, Q, Q', m, h => m _ _ h
  | .var i, ρ, H, Q, Q', m, h => wSome_mono h fun _ h => m _ _ h
  | .bin op a b, ρ, H, Q, Q', m, h => mnE a ρ H _ _ (fun x H h => mnE b ρ H _ _ (fun y H h => Wp_mono h m) h) h
  | .neg a, ρ, H, Q, Q', m, h => mnE a ρ H _ _ (fun x H h => wInt_mono h fun _ h => m _ _ h) h
  | .not a, ρ, H, Q, Q', m, h => mnE a ρ H _ _ (fun x H h => wSome_mono h fun _ h => m _ _ h) h
  | .and es, ρ, H, Q, Q', m, h => mnAnd es ρ H Q Q' m h
  | .or es, ρ, H, Q, Q', m, h => mnOr es ρ H Q Q' m h
  | .ife c a b, ρ, H, Q, Q', m, h => mnE c ρ H _ _ (fun x H h => wSome_mono h fun t h => wIf_mono h (mnE a ρ H Q Q' m) (mnE b ρ H Q Q' m)) h
  | .cmp op a b, ρ, H, Q, Q', m, h => mnE a ρ H _ _ (fun x H h => mnE b ρ H _ _ (fun y H h => wSome_mono h fun _ h => m _ _ h) h) h
  | .cmp2 a o1 b o2 c, ρ, H, Q, Q', m, h => mnE a ρ H _ _ (fun x H h => mnE b ρ H _ _ (fun y H h => wSome_mono h fun t h => wIf_mono h (mnE c ρ H _ _ fun z H h => wSome_mono h fun _ h => m _ _ h) (m _ _)) h) h
  | .isNone a, ρ, H, Q, Q', m, h => mnE a ρ H _ _ (fun x H h => m _ _ h) h
  | .notNone a, ρ, H, Q, Q', m, h => mnE a ρ H _ _ (fun x H h => m _ _ h) h
  | .tup es, ρ, H, Q, Q', m, h => mnEs es ρ H _ _ (fun vs H h => m _ _ h) h
  | .lst es, ρ, H, Q, Q', m, h => mnEs es ρ H _ _ (fun vs H h => m _ _ h) h
  | .idx a i, ρ, H, Q, Q', m, h => mnE a ρ H _ _ (fun x H h => mnE i ρ H _ _ (fun y H h => wSome_mono h fun _ h => m _ _ h) h) h
  | .slc a lo hi, ρ, H, Q, Q', m, h => mnE a ρ H _ _ (fun x H h => mnO lo ρ H _ _ (fun y H h => mnO hi ρ H _ _ (fun y H h => Wp_mono h m) h) h) h
  | .call f es, ρ, H, Q, Q', m, h => mnEs es ρ H _ _ (fun vs H h => Wp_mono h m) h
  | .bi b es, ρ, H, Q, Q', m, h => mnEs es ρ H _ _ (fun vs H h => Wp_mono h m) h
  | .minD a d, ρ, H, Q, Q', m, h => mnE a ρ H _ _ (fun x H h => mnE d ρ H _ _ (fun y H h => Wp_mono h m) h) h
  | .meth k a es, ρ, H, Q, Q', m, h => mnE a ρ H _ _ (fun x H h => wIf_mono h (mnEs es ρ H _ _ fun vs H h => Wp_mono h m) id) h
  | .comp nl elt t it cs, ρ, H, Q, Q', m, h => mnIt it ρ H _ _ (fun p H h => Wp_mono h m) h
  | .listOf e, ρ, H, Q, Q', m, h => mnE e ρ H _ _ (fun x H h => wSome_mono h fun _ h => Wp_mono h m) h
theorem mnEs : ∀ (es : List E) (ρ : Env') (H : Hp) (Q Q' : List V → Hp → Prop), (∀ a H, Q a H → Q' a H) → WEs C es ρ H Q → WEs C es ρ H Q'
  | [], ρ, H, Q, Q', m, h => m _ _ h
  | e :: r, ρ, H, Q, Q', m, h => mnE e ρ H _ _ (fun v H h => mnEs r ρ H _ _ (fun vs H h => m _ _ h) h) h
theorem mnO : ∀ (e : Option E) (ρ : Env') (H : Hp) (Q Q' : V → Hp → Prop), (∀ a H, Q a H → Q' a H) → WO C e ρ H Q → WO C e ρ H Q'
  | none, ρ, H, Q, Q', m, h => m _ _ h
  | some e, ρ, H, Q, Q', m, h => mnE e ρ H Q Q' m h
theorem mnAnd : ∀ (es : List E) (ρ : Env') (H : Hp) (Q Q' : V → Hp → Prop), (∀ a H, Q a H → Q' a H) → WAnd C es ρ H Q → WAnd C es ρ H Q'
  | [], ρ, H, Q, Q', m, h => h.elim
  | e :: r, ρ, H, Q, Q', m, h => mnE e ρ H _ _ (fun x H h => wNil_mono h (m _ _) fun h => wSome_mono h fun t h => wIf_mono h (mnAnd r ρ H Q Q' m) (m _ _)) h
theorem mnOr : ∀ (es : List E) (ρ : Env') (H : Hp) (Q Q' : V → Hp → Prop), (∀ a H, Q a H → Q' a H) → WOr C es ρ H Q → WOr C es ρ H Q'
  | [], ρ, H, Q, Q', m, h => h.elim
  | e :: r, ρ, H, Q, Q', m, h => mnE e ρ H _ _ (fun x H h => wNil_mono h (m _ _) fun h => wSome_mono h fun t h => wIf_mono h (m _ _) (mnOr r ρ H Q Q' m)) h
theorem mnIt : ∀ (it : It) (ρ : Env') (H : Hp) (Q Q' : List V × List Nat → Hp → Prop), (∀ a H, Q a H → Q' a H) → WIt C it ρ H Q → WIt C it ρ H Q'
  | .of e, ρ, H, Q, Q', m, h => mnE e ρ H _ _ (fun x H h => wSome_mono h fun _ h => m _ _ h) h
  | .range a b, ρ, H, Q, Q', m, h => mnE a ρ H _ _ (fun x H h => mnE b ρ H _ _ (fun y H h => wRange_mono h fun _ h => m _ _ h) h) h
  | .enum e, ρ, H, Q, Q', m, h => mnE e ρ H _ _ (fun x H h => wSome_mono h fun _ h => m _ _ h) h
end
mutual
theorem mnS : ∀ (s : S) (ρ : Env') (H : Hp) (K K' : Out → Prop), (∀ o, K o → K' o) → WS C s ρ H K → WS C s ρ H K'
  | .expr e, ρ, H, K, K', m, h => mnE C e ρ H _ _ (fun _ H h => m _ h) h
  | .asg t e, ρ, H, K, K', m, h => mnE C e ρ H _ _ (fun _ H h => wSome_mono h fun _ h => m _ h) h
  | .setIdx a i e, ρ, H, K, K', m, h => mnE C e ρ H _ _ (fun _ H h => mnE C a ρ H _ _ (fun _ H h => mnE C i ρ H _ _ (fun _ H h => wSome_mono h fun _ h => m _ h) h) h) h
  | .ret e, ρ, H, K, K', m, h => mnE C e ρ H _ _ (fun _ H h => m _ h) h
  | .ife c a b, ρ, H, K, K', m, h => mnE C c ρ H _ _ (fun x H h => wSome_mono h fun t h => wIf_mono h (mnSs a ρ H K K' m) (mnSs b ρ H K K' m)) h
  | .for t it body, ρ, H, K, K', m, h => mnIt C it ρ H _ _ (fun p H h => wO_mono h m) h
  | .while c body, ρ, H, K, K', m, h => wO_mono h m
theorem mnSs : ∀ (ss : List S) (ρ : Env') (H : Hp) (K K' : Out → Prop), (∀ o, K o → K' o) → WSs C ss ρ H K → WSs C ss ρ H K'
  | [], ρ, H, K, K', m, h => m _ h
  | s :: r, ρ, H, K, K', m, h => mnS s ρ H _ _ (fun o ho => by cases o <;> first | exact mnSs r _ _ K K' m ho | exact m _ ho) h
end
end
theorem WE_mono {C : Ctx} {e : E} {ρ : Env'} {H : Hp} {Q Q' : V → Hp → Prop} (h : WE C e ρ H Q) (h' : ∀ a H, Q a H → Q' a H) : WE C e ρ H Q' := mnE C e ρ H Q Q' h' h
theorem WS_mono {C : Ctx} {e : S} {ρ : Env'} {H : Hp} {Q Q' : Out → Prop} (h : WS C e ρ H Q) (h' : ∀ o, Q o → Q' o) : WS C e ρ H Q' := mnS C e ρ H Q Q' h' h
theorem WSs_mono {C : Ctx} {e : List S} {ρ : Env'} {H : Hp} {Q Q' : Out → Prop} (h : WSs C e ρ H Q) (h' : ∀ o, Q o → Q' o) : WSs C e ρ H Q' := mnSs C e ρ H Q Q' h' h
noncomputable def thenK (C : Ctx) (r : List S) (K : Out → Prop) (o : Out) : Prop := wThen o (fun ρ H => WSs C r ρ H K) (K o)
theorem thenK_next (C : Ctx) (r : List S) (K : Out → Prop) (ρ : Env') (H : Hp) : thenK C r K (.next ρ H) = WSs C r ρ H K := rfl
theorem thenK_ret (C : Ctx) (r : List S) (K : Out → Prop) (v : V) (H : Hp) : thenK C r K (.ret v H) = K (.ret v H) := rfl
section
variable (C : Ctx) (ρ : Env') (H : Hp) (Q : V → Hp → Prop) (K : Out → Prop)
theorem WE_var (i : Nat) : WE C (.var i) ρ H Q = wSome (ρ[i]?.join) fun v => Q v H := rfl
theorem WS_ife (c : E) (a b : List S) : WS C (.ife c a b) ρ H K = WE C c ρ H fun x H => wSome (truthy C.scr H x) fun t => wIf t (WSs C a ρ H K) (WSs C b ρ H K) := rfl
theorem WS_for (t : Tgt) (it : It) (body : List S) : WS C (.for t it body) ρ H K = WIt C it ρ H fun p H => WFor C t body p.2 H p.1 ρ H K := rfl
theorem WSs_nil : WSs C [] ρ H K = K (.next ρ H) := rfl
theorem WSs_cons (s : S) (r : List S) : WSs C (s :: r) ρ H K = WS C s ρ H (thenK C r K) := rfl
end
/-- what a turn of a loop may come to -/
noncomputable def loopK (K : Out → Prop) (N : Env' → Hp → Prop) (o : Out) : Prop := match o with
  | .next ρ H => N ρ H
  | .ret v H => K (.ret v H)
  | _ => False
theorem loopK_next (K : Out → Prop) (N : Env' → Hp → Prop) (ρ : Env') (H : Hp) : loopK K N (.next ρ H) = N ρ H := rfl
theorem loopK_ret (K : Out → Prop) (N : Env' → Hp → Prop) (v : V) (H : Hp) : loopK K N (.ret v H) = K (.ret v H) := rfl
theorem asg_var (i : Nat) (v : V) (ρ : Env') : asg (.var i) v ρ = if i < ρ.length then some (ρ.set i (some v)) else none := rfl
theorem asg_tup (ts : List Tgt) (vs : List V) (ρ : Env') : asg (.tup ts) (.tup vs) ρ = asgs ts vs ρ := rfl
theorem asgs_nil (ρ : Env') : asgs [] [] ρ = some ρ := rfl
theorem asgs_cons (t : Tgt) (ts : List Tgt) (v : V) (vs : List V) (ρ : Env') : asgs (t :: ts) (v :: vs) ρ = (asg t v ρ).bind (asgs ts vs) := rfl
/-- a part of a body, and what holds behind it -/
noncomputable def mid (J : Env' → Hp → Prop) (K : Out → Prop) (o : Out) : Prop := match o with
  | .next ρ H => J ρ H
  | o => K o
theorem mid_next (J : Env' → Hp → Prop) (K : Out → Prop) (ρ : Env') (H : Hp) : mid J K (.next ρ H) = J ρ H := rfl
theorem mid_ret (J : Env' → Hp → Prop) (K : Out → Prop) (v : V) (H : Hp) : mid J K (.ret v H) = K (.ret v H) := rfl
theorem WSs_append (C : Ctx) : ∀ (a b : List S) (ρ : Env') (H : Hp) (K : Out → Prop), WSs C (a ++ b) ρ H K = WSs C a ρ H (thenK C b K)
  | [], b, ρ, H, K => by rw [WSs_nil]; rfl
  | s :: a, b, ρ, H, K => by
    rw [List.cons_append, WSs_cons, WSs_cons]
    congr 1
    funext o
    cases o <;> first | rfl | exact WSs_append C a b _ _ K
theorem cutN (n : Nat) (J : Env' → Hp → Prop) {C : Ctx} {ss : List S} {ρ : Env'} {H : Hp} {K : Out → Prop} (h : WSs C (ss.take n) ρ H (mid J K)) (h' : ∀ ρ' H', J ρ' H' → WSs C (ss.drop n) ρ' H' K) : WSs C ss ρ H K := by
  have e : ss = ss.take n ++ ss.drop n := (List.take_append_drop n ss).symm
  rw [e, WSs_append]
  refine WSs_mono h ?_
  intro o ho
  cases o <;> first | exact ho | exact h' _ _ ho
/-- a part of a body that goes on -/
theorem cut (n : Nat) (J : Env' → Hp → Prop) {C : Ctx} {ss : List S} {ρ : Env'} {H : Hp} {K : Out → Prop} (h : WSs C (ss.take n) ρ H (mid J fun _ => False)) (h' : ∀ ρ' H', J ρ' H' → WSs C (ss.drop n) ρ' H' K) : WSs C ss ρ H K := by
  refine cutN n J (WSs_mono h ?_) h'
  intro o ho
  cases o <;> first | exact ho | exact ho.elim
theorem call_of {scr : List Int} {gks : List V} {fns : List Fn} {n : Nat} {f : Nat} {vs : List V} {H : Hp} {Q Q' : V → Hp → Prop} (h : Wp (callF scr gks fns n f vs H) Q) (h' : ∀ a H, Q a H → Q' a H) : WCall ⟨scr, gks, callF scr gks fns n⟩ f vs H Q' := Wp_mono h h'
theorem wIf_q {t : Bool} (H : Hp) {Q : Bool → Hp → Prop} (h : Q t H) : wIf t (Q true H) (Q false H) := by
  cases t
  · rw [wIf_f]; exact h
  · exact h
theorem if_cut (J : Bool → Hp → Prop) {C : Ctx} {c : E} {a b r : List S} {ρ : Env'} {H : Hp} {K : Out → Prop} (hc : WE C c ρ H fun x H' => wSome (truthy C.scr H' x) fun t => J t H')
    (ht : ∀ H', J true H' → WSs C a ρ H' (thenK C r K)) (hf : ∀ H', J false H' → WSs C b ρ H' (thenK C r K)) : WSs C (.ife c a b :: r) ρ H K := by
  rw [WSs_cons, WS_ife]
  refine WE_mono hc ?_
  intro x H' h
  cases ht' : truthy C.scr H' x with
  | none => rw [ht'] at h; exact h.elim
  | some t =>
    rw [ht'] at h
    cases t with
    | false => exact (wIf_f _ _).mpr (hf H' h)
    | true => exact ht H' h
theorem ed00 (C : Ctx) (ρ : Env') (H : Hp) (Q : V → Hp → Prop) (v : V) : WE C (.k v) ρ H Q = Q v H := rfl
theorem ed01 (C : Ctx) (ρ : Env') (H : Hp) (Q : V → Hp → Prop) (i : Nat) : WE C (.var i) ρ H Q = wSome (ρ[i]?.join) fun v => Q v H := rfl
theorem ed03 (C : Ctx) (ρ : Env') (H : Hp) (Q : V → Hp → Prop) (op : BOp) (a b : E) : WE C (.bin op a b) ρ H Q = WE C a ρ H fun x H => WE C b ρ H fun y H => WBin op x y H Q := rfl
theorem ed04 (C : Ctx) (ρ : Env') (H : Hp) (Q : V → Hp → Prop) (a : E) : WE C (.neg a) ρ H Q = WE C a ρ H fun x H => wInt x fun i => Q (.int (-i)) H := rfl
theorem ed05 (C : Ctx) (ρ : Env') (H : Hp) (Q : V → Hp → Prop) (a : E) : WE C (.not a) ρ H Q = WE C a ρ H fun x H => wSome (truthy C.scr H x) fun b => Q (.bool (!b)) H := rfl
theorem ed06 (C : Ctx) (ρ : Env') (H : Hp) (Q : V → Hp → Prop) (es : List E) : WE C (.and es) ρ H Q = WAnd C es ρ H Q := rfl
theorem ed07 (C : Ctx) (ρ : Env') (H : Hp) (Q : V → Hp → Prop) (es : List E) : WE C (.or es) ρ H Q = WOr C es ρ H Q := rfl
theorem ed08 (C : Ctx) (ρ : Env') (H : Hp) (Q : V → Hp → Prop) (c a b : E) : WE C (.ife c a b) ρ H Q = WE C c ρ H fun x H => wSome (truthy C.scr H x) fun t => wIf t (WE C a ρ H Q) (WE C b ρ H Q) := rfl
theorem ed09 (C : Ctx) (ρ : Env') (H : Hp) (Q : V → Hp → Prop) (op : COp) (a b : E) : WE C (.cmp op a b) ρ H Q = WE C a ρ H fun x H => WE C b ρ H fun y H => wSome (cmpV C.scr op x y H) fun t => Q (.bool t) H := rfl
theorem ed10 (C : Ctx) (ρ : Env') (H : Hp) (Q : V → Hp → Prop) (a b c : E) (o1 o2 : COp) : WE C (.cmp2 a o1 b o2 c) ρ H Q = WE C a ρ H fun x H => WE C b ρ H fun y H => wSome (cmpV C.scr o1 x y H) fun t => wIf t (WE C c ρ H fun z H => wSome (cmpV C.scr o2 y z H) fun t => Q (.bool t) H) (Q (.bool false) H) := rfl
theorem ed11 (C : Ctx) (ρ : Env') (H : Hp) (Q : V → Hp → Prop) (a : E) : WE C (.isNone a) ρ H Q = WE C a ρ H fun x H => Q (.bool (isNoneV x)) H := rfl
theorem ed12 (C : Ctx) (ρ : Env') (H : Hp) (Q : V → Hp → Prop) (a : E) : WE C (.notNone a) ρ H Q = WE C a ρ H fun x H => Q (.bool (!isNoneV x)) H := rfl
theorem ed13 (C : Ctx) (ρ : Env') (H : Hp) (Q : V → Hp → Prop) (es : List E) : WE C (.tup es) ρ H Q = WEs C es ρ H fun vs H => Q (.tup vs) H := rfl
theorem ed14 (C : Ctx) (ρ : Env') (H : Hp) (Q : V → Hp → Prop) (es : List E) : WE C (.lst es) ρ H Q = WEs C es ρ H fun vs H => Q (.ref H.length) (H ++ [.list vs]) := rfl
theorem ed15 (C : Ctx) (ρ : Env') (H : Hp) (Q : V → Hp → Prop) (a i : E) : WE C (.idx a i) ρ H Q = WE C a ρ H fun x H => WE C i ρ H fun y H => wSome (idxV C.scr x y H) fun v => Q v H := rfl
theorem ed16 (C : Ctx) (ρ : Env') (H : Hp) (Q : V → Hp → Prop) (a : E) (lo hi : Option E) : WE C (.slc a lo hi) ρ H Q = WE C a ρ H fun x H => WO C lo ρ H fun l H => WO C hi ρ H fun h H => WSlc C.scr x l h H Q := rfl
theorem ed17 (C : Ctx) (ρ : Env') (H : Hp) (Q : V → Hp → Prop) (f : Nat) (es : List E) : WE C (.call f es) ρ H Q = WEs C es ρ H fun vs H => WCall C f vs H Q := rfl
theorem ed18 (C : Ctx) (ρ : Env') (H : Hp) (Q : V → Hp → Prop) (b : Bi) (es : List E) : WE C (.bi b es) ρ H Q = WEs C es ρ H fun vs H => WBi C.scr b vs H Q := rfl
theorem ed19 (C : Ctx) (ρ : Env') (H : Hp) (Q : V → Hp → Prop) (a d : E) : WE C (.minD a d) ρ H Q = WE C a ρ H fun x H => WE C d ρ H fun y H => WMinD x y H Q := rfl
theorem ed20 (C : Ctx) (ρ : Env') (H : Hp) (Q : V → Hp → Prop) (m : Me) (a : E) (es : List E) : WE C (.meth m a es) ρ H Q = WE C a ρ H fun x H => wIf (meKind m H x) (WEs C es ρ H fun vs H => WMeth m x vs H Q) False := rfl
theorem ed21 (C : Ctx) (ρ : Env') (H : Hp) (Q : V → Hp → Prop) (e : E) : WE C (.listOf e) ρ H Q = WE C e ρ H fun x H => wSome (itemsOf C.scr H x) fun vs => WAllocL vs H Q := rfl
theorem ed23 (C : Ctx) (ρ : Env') (H : Hp) (Q : V → Hp → Prop) (nl : Nat) (elt : E) (t : Tgt) (it : It) (cs : List E) : WE C (.comp nl elt t it cs) ρ H Q = WIt C it ρ H fun p H => WComp C t cs elt p.2 H p.1 (List.replicate nl none ++ ρ) H Q := rfl
theorem ed24 (C : Ctx) (ρ : Env') (H : Hp) (Q : List V → Hp → Prop) : WEs C [] ρ H Q = Q [] H := rfl
theorem ed25 (C : Ctx) (ρ : Env') (H : Hp) (e : E) (r : List E) (Q : List V → Hp → Prop) : WEs C (e :: r) ρ H Q = WE C e ρ H fun v H => WEs C r ρ H fun vs H => Q (v :: vs) H := rfl
theorem ed26 (C : Ctx) (ρ : Env') (H : Hp) (Q : V → Hp → Prop) : WO C none ρ H Q = Q .none H := rfl
theorem ed27 (C : Ctx) (ρ : Env') (H : Hp) (Q : V → Hp → Prop) (e : E) : WO C (some e) ρ H Q = WE C e ρ H Q := rfl
theorem ed28 (C : Ctx) (ρ : Env') (H : Hp) (Q : V → Hp → Prop) (e : E) : WAnd C [e] ρ H Q = WE C e ρ H Q := rfl
theorem ed29 (C : Ctx) (ρ : Env') (H : Hp) (Q : V → Hp → Prop) (e f : E) (r : List E) : WAnd C (e :: f :: r) ρ H Q = WE C e ρ H fun x H => wSome (truthy C.scr H x) fun t => wIf t (WAnd C (f :: r) ρ H Q) (Q x H) := rfl
theorem ed30 (C : Ctx) (ρ : Env') (H : Hp) (Q : V → Hp → Prop) (e : E) : WOr C [e] ρ H Q = WE C e ρ H Q := rfl
theorem ed31 (C : Ctx) (ρ : Env') (H : Hp) (Q : V → Hp → Prop) (e f : E) (r : List E) : WOr C (e :: f :: r) ρ H Q = WE C e ρ H fun x H => wSome (truthy C.scr H x) fun t => wIf t (Q x H) (WOr C (f :: r) ρ H Q) := rfl
theorem ed32 (C : Ctx) (ρ : Env') (H : Hp) (Q : Bool → Hp → Prop) : WT C [] ρ H Q = Q true H := rfl
theorem ed33 (C : Ctx) (ρ : Env') (H : Hp) (e : E) (r : List E) (Q : Bool → Hp → Prop) : WT C (e :: r) ρ H Q = WE C e ρ H fun x H => wSome (truthy C.scr H x) fun t => wIf t (WT C r ρ H Q) (Q false H) := rfl
theorem ed34 (C : Ctx) (ρ : Env') (H : Hp) (e : E) (Q : List V × List Nat → Hp → Prop) : WIt C (.of e) ρ H Q = WE C e ρ H fun x H => wSome (seqOf C.scr H x) fun vs => Q (vs, watch x) H := rfl
theorem ed35 (C : Ctx) (ρ : Env') (H : Hp) (e : E) (Q : List V × List Nat → Hp → Prop) : WIt C (.enum e) ρ H Q = WE C e ρ H fun x H => wSome (lstOf C.scr H x) fun vs => Q (enumV 0 vs, watch x) H := rfl
theorem ed36 (C : Ctx) (ρ : Env') (H : Hp) (a b : E) (Q : List V × List Nat → Hp → Prop) : WIt C (.range a b) ρ H Q = WE C a ρ H fun x H => WE C b ρ H fun y H => wRange x y fun l => Q (l, []) H := rfl
theorem ed37 (C : Ctx) (ρ : Env') (H : Hp) (K : Out → Prop) (e : E) : WS C (.expr e) ρ H K = WE C e ρ H fun _ H => K (.next ρ H) := rfl
theorem ed38 (C : Ctx) (ρ : Env') (H : Hp) (K : Out → Prop) (t : Tgt) (e : E) : WS C (.asg t e) ρ H K = WE C e ρ H fun v H => wSome (asg t v ρ) fun ρ' => K (.next ρ' H) := rfl
theorem ed39 (C : Ctx) (ρ : Env') (H : Hp) (K : Out → Prop) (a i e : E) : WS C (.setIdx a i e) ρ H K = WE C e ρ H fun v H => WE C a ρ H fun x H => WE C i ρ H fun k H => wSome (setIdxV x k v H) fun H' => K (.next ρ H') := rfl
theorem ed40 (C : Ctx) (ρ : Env') (H : Hp) (K : Out → Prop) (e : E) : WS C (.ret e) ρ H K = WE C e ρ H fun v H => K (.ret v H) := rfl
theorem ed41 (C : Ctx) (ρ : Env') (H : Hp) (K : Out → Prop) (c : E) (a b : List S) : WS C (.ife c a b) ρ H K = WE C c ρ H fun x H => wSome (truthy C.scr H x) fun t => wIf t (WSs C a ρ H K) (WSs C b ρ H K) := rfl
theorem ed42 (C : Ctx) (ρ : Env') (H : Hp) (K : Out → Prop) (t : Tgt) (it : It) (body : List S) : WS C (.for t it body) ρ H K = WIt C it ρ H fun p H => WFor C t body p.2 H p.1 ρ H K := rfl
theorem ed46 (C : Ctx) (ρ : Env') (H : Hp) (K : Out → Prop) : WSs C [] ρ H K = K (.next ρ H) := rfl
theorem ed47 (C : Ctx) (ρ : Env') (H : Hp) (K : Out → Prop) (s : S) (r : List S) : WSs C (s :: r) ρ H K = WS C s ρ H (thenK C r K) := rfl
theorem eu00 {α : Type} (a : α) (f : α → Prop) : wSome (some a) f = f a := rfl
theorem eu01 (A B : Prop) : wIf true A B = A := rfl
theorem eu02 : type_of% @wIf_f := @wIf_f
theorem eu03 (i : Int) (f : Int → Prop) : wInt (.int i) f = f i := rfl
theorem eu04 : type_of% @wRange_ok := @wRange_ok
theorem eu05 (C : Ctx) (r : List S) (K : Out → Prop) (ρ : Env') (H : Hp) : thenK C r K (.next ρ H) = WSs C r ρ H K := rfl
theorem eu06 (C : Ctx) (r : List S) (K : Out → Prop) (v : V) (H : Hp) : thenK C r K (.ret v H) = K (.ret v H) := rfl
theorem eu09 (Q : V → Hp → Prop) (v : V) (H : Hp) : retK Q (.ret v H) = Q v H := rfl
theorem eu10 (Q : V → Hp → Prop) (ρ : Env') (H : Hp) : retK Q (.next ρ H) = Q .none H := rfl
theorem eu11 (K : Out → Prop) (N : Env' → Hp → Prop) (ρ : Env') (H : Hp) : loopK K N (.next ρ H) = N ρ H := rfl
theorem eu14 (J : Env' → Hp → Prop) (K : Out → Prop) (ρ : Env') (H : Hp) : mid J K (.next ρ H) = J ρ H := rfl
theorem eu15 (J : Env' → Hp → Prop) (K : Out → Prop) (v : V) (H : Hp) : mid J K (.ret v H) = K (.ret v H) := rfl
theorem eu18 (K : Out → Prop) (N : Env' → Hp → Prop) (v : V) (H : Hp) : loopK K N (.ret v H) = K (.ret v H) := rfl
theorem eu19 (H : Hp) (Q : V → Hp → Prop) (a b : Int) : WBin .add (.int a) (.int b) H Q = Q (.int (a + b)) H := rfl
theorem eu20 (H : Hp) (Q : V → Hp → Prop) (a b : Int) : WBin .sub (.int a) (.int b) H Q = Q (.int (a - b)) H := rfl
theorem eu21 : type_of% @WBin_mulr := @WBin_mulr
theorem eu22 : type_of% @WBin_mull := @WBin_mull
theorem eu23 : type_of% @WBin_fdiv := @WBin_fdiv
theorem eu24 : type_of% @WBin_mod := @WBin_mod
theorem eu25 : type_of% @WAllocL_ok := @WAllocL_ok
theorem eu26 (H : Hp) (Q : V → Hp → Prop) (scr : List Int) (vs : List V) : WBi scr .len [.tup vs] H Q = Q (.int vs.length) H := rfl
theorem eu27 : type_of% @WBi_lenS := @WBi_lenS
theorem eu28 (H : Hp) (Q : V → Hp → Prop) (scr : List Int) (i : Int) : WBi scr .isInt [.int i] H Q = Q (.bool true) H := rfl
theorem eu29 (H : Hp) (Q : V → Hp → Prop) (scr : List Int) (i : Int) : WBi scr .isBool [.int i] H Q = Q (.bool false) H := rfl
theorem eu30 (H : Hp) (Q : V → Hp → Prop) (scr : List Int) (vs : List V) : WBi scr .isTuple [.tup vs] H Q = Q (.bool true) H := rfl
theorem eu31 (H : Hp) (Q : V → Hp → Prop) (scr : List Int) (a b : Int) : WBi scr .max2 [.int a, .int b] H Q = Q (.int (max a b)) H := rfl
theorem eu32 (H : Hp) (scr : List Int) (vs : List V) : seqOf scr H (.tup vs) = some vs := rfl
theorem eu33 (scr : List Int) (H : Hp) : truthy scr H .none = some false := rfl
theorem eu34 (scr : List Int) (H : Hp) (b : Bool) : truthy scr H (.bool b) = some b := rfl
theorem eu35 (scr : List Int) (H : Hp) (i : Int) : truthy scr H (.int i) = some (i != 0) := rfl
theorem eu36 (scr : List Int) (H : Hp) (vs : List V) : truthy scr H (.tup vs) = some (!vs.isEmpty) := rfl
theorem eu37 (scr : List Int) (vs : List V) (k : Int) (H : Hp) : idxV scr (.tup vs) (.int k) H = seqAt vs k := rfl
theorem eu38 (v : V) (vs : List V) : seqAt (v :: vs) 0 = some v := rfl
theorem eu39 (v u : V) (vs : List V) : seqAt (v :: u :: vs) 1 = some u := rfl
theorem eu40 (v u w : V) (vs : List V) : seqAt (v :: u :: w :: vs) 2 = some w := rfl
theorem eu41 (v u w x : V) (vs : List V) : seqAt (v :: u :: w :: x :: vs) 3 = some x := rfl
theorem eu42 (scr : List Int) (a b : Int) (H : Hp) : cmpV scr .lt (.int a) (.int b) H = some (decide (a < b)) := rfl
theorem eu43 (scr : List Int) (a b : Int) (H : Hp) : cmpV scr .le (.int a) (.int b) H = some (decide (a ≤ b)) := rfl
theorem eu44 (scr : List Int) (a b : Int) (H : Hp) : cmpV scr .gt (.int a) (.int b) H = some (decide (a > b)) := rfl
theorem eu46 (scr : List Int) (a b : Int) (H : Hp) : cmpV scr .eq (.int a) (.int b) H = some (a == b) := rfl
theorem eu47 (scr : List Int) (a b : Int) (H : Hp) : cmpV scr .ne (.int a) (.int b) H = some (!(a == b)) := rfl
theorem eu48 (i : Nat) (v : V) (ρ : Env') : asg (.var i) v ρ = if i < ρ.length then some (ρ.set i (some v)) else none := rfl
theorem eu49 (ts : List Tgt) (vs : List V) (ρ : Env') : asg (.tup ts) (.tup vs) ρ = asgs ts vs ρ := rfl
theorem eu50 (ρ : Env') : asgs [] [] ρ = some ρ := rfl
theorem eu51 (t : Tgt) (ts : List Tgt) (v : V) (vs : List V) (ρ : Env') : asgs (t :: ts) (v :: vs) ρ = (asg t v ρ).bind (asgs ts vs) := rfl
theorem eo00 {α β : Type} (a : α) (f : α → Option β) : (some a).bind f = f a := rfl
theorem eo01 {α : Type} (a : α) (l : List α) (i : Nat) : (a :: l)[i + 1]? = l[i]? := rfl
theorem eo02 {α : Type} (a : α) (l : List α) : (a :: l)[0]? = some a := rfl
theorem eo03 {α : Type} (a : Option α) : (some a).join = a := rfl
theorem eo04 {α : Type} (a b : α) (l : List α) (i : Nat) : (a :: l).set (i + 1) b = a :: l.set i b := rfl
theorem eo05 {α : Type} (a b : α) (l : List α) : (a :: l).set 0 b = b :: l := rfl
theorem eo06 {α : Type} (a : α) (l : List α) : (a :: l).length = l.length + 1 := rfl
theorem eo07 {α : Type} : ([] : List α).length = 0 := rfl
theorem eo08 {α : Type} (a : α) (l m : List α) : (a :: l) ++ m = a :: (l ++ m) := rfl
theorem eo09 {α : Type} (l : List α) : [] ++ l = l := rfl
theorem eo10 : (!true) = false := rfl
theorem eo11 : (!false) = true := rfl
theorem eo12 {α : Type} (a : α) (l : List α) (i : Nat) : (a :: l).take (i + 1) = a :: l.take i := rfl
theorem eo13 {α : Type} (l : List α) : l.take 0 = [] := rfl
theorem eo14 {α : Type} (a : α) (l : List α) (i : Nat) : (a :: l).drop (i + 1) = l.drop i := rfl
theorem eo15 {α : Type} (l : List α) : l.drop 0 = l := rfl
theorem eo16 {α : Type} (a : α) (i : Nat) : List.replicate (i + 1) a = a :: List.replicate i a := rfl
theorem eo17 {α : Type} (a : α) : List.replicate 0 a = [] := rfl
end Mine

end
section
set_option autoImplicit false
set_option linter.unusedVariables false
set_option linter.unusedSimpArgs false
namespace Mine
open PySem
/-- the cells below `n` stay -/
noncomputable def Kept (n : Nat) (H H' : Hp) : Prop := n ≤ H.length ∧ H.length ≤ H'.length ∧ ∀ l, l < n → H'[l]? = H[l]?
theorem Kept.refl {n : Nat} {H : Hp} (h : n ≤ H.length) : Kept n H H := ⟨h, Nat.le_refl _, fun _ _ => rfl⟩
theorem Kept.trans {n m : Nat} {H H' H'' : Hp} (h : Kept n H H') (h' : Kept m H' H'') (hm : n ≤ m) : Kept n H H'' := ⟨h.1, Nat.le_trans h.2.1 h'.2.1, fun l hl => (h'.2.2 l (by omega)).trans (h.2.2 l hl)⟩
theorem Kept.tr {n : Nat} {H H' H'' : Hp} (h : Kept n H H') (h' : Kept H'.length H' H'') : Kept n H H'' := h.trans h' (Nat.le_trans h.1 h.2.1)
theorem Kept.mono {n m : Nat} {H H' : Hp} (h : Kept n H H') (hm : m ≤ n) : Kept m H H' := ⟨by have := h.1; omega, h.2.1, fun l hl => h.2.2 l (by omega)⟩
theorem at_lt {H : Hp} {l : Nat} {c : Cell} (h : H[l]? = some c) : l < H.length := (List.getElem?_eq_some_iff.mp h).1
theorem Kept.at {n : Nat} {H H' : Hp} {l : Nat} {c : Cell} (h : Kept n H H') (ha : H[l]? = some c) (hl : l < n) : H'[l]? = some c := (h.2.2 l hl).trans ha
theorem Kept.at' {H H' : Hp} {l : Nat} {c : Cell} (h : Kept H.length H H') (ha : H[l]? = some c) : H'[l]? = some c := h.at ha (at_lt ha)
theorem Kept.app (H : Hp) (t : List Cell) : Kept H.length H (H ++ t) := ⟨Nat.le_refl _, by simp, fun l hl => by rw [List.getElem?_append_left hl]⟩
theorem Kept.app' {n : Nat} {H : Hp} (t : List Cell) (h : n ≤ H.length) : Kept n H (H ++ t) := (Kept.app H t).mono h
theorem at_new (H : Hp) (c : Cell) : (H ++ [c])[H.length]? = some c := by simp
theorem Kept.set {n : Nat} {H : Hp} {l : Nat} (c : Cell) (h : n ≤ l) (hn : n ≤ H.length) : Kept n H (H.set l c) := ⟨hn, by simp, fun k hk => by rw [List.getElem?_set_ne (by omega)]⟩
theorem at_set {H : Hp} {l : Nat} {c c' : Cell} (h : H[l]? = some c) : (H.set l c')[l]? = some c' := by rw [List.getElem?_set_self (at_lt h)]
theorem at_set_ne {H : Hp} {l m : Nat} {c c' : Cell} (h : H[m]? = some c) (hn : l ≠ m) : (H.set l c')[m]? = some c := by rw [List.getElem?_set_ne hn]; exact h
theorem at_app {H : Hp} {l : Nat} {c : Cell} (t : List Cell) (h : H[l]? = some c) : (H ++ t)[l]? = some c := by rw [List.getElem?_append_left (at_lt h)]; exact h

theorem stands_nil (H₀ H : Hp) : stands [] H₀ H = true := rfl
theorem stands_one {l : Nat} {H₀ H : Hp} (h : H[l]? = H₀[l]?) : stands [l] H₀ H = true := by simp [stands, h]
theorem stands_ref {l : Nat} {H₀ H : Hp} {c : Cell} (h : H[l]? = some c) (h' : H₀[l]? = some c) : stands (watch (.ref l)) H₀ H = true := stands_one (by rw [h, h'])

theorem for_aux {C : Ctx} {t : Tgt} {body : List S} {ws : List Nat} {H₀ : Hp} {K : Out → Prop} (vs : List V) (I : Nat → Env' → Hp → Prop)
    (step : ∀ k v ρ H, vs[k]? = some v → I k ρ H → wSome (asg t v ρ) fun ρ' => WSs C body ρ' H (loopK K fun ρ₁ H₁ => stands ws H₀ H₁ = true ∧ I (k + 1) ρ₁ H₁))
    (fin : ∀ ρ H, I vs.length ρ H → K (.next ρ H)) : ∀ (m k : Nat) (ρ : Env') (H : Hp), k + m = vs.length → I k ρ H → WFor C t body ws H₀ (vs.drop k) ρ H K := by
  intro m
  induction m with
  | zero =>
    intro k ρ H hk hI
    have : vs.drop k = [] := List.drop_eq_nil_of_le (by omega)
    rw [this]
    unfold WFor forB; rw [forG]
    exact fin ρ H (by have : k = vs.length := by omega
                      rw [← this]; exact hI)
  | succ m ih =>
    intro k ρ H hk hI
    have hlt : k < vs.length := by omega
    have e : vs.drop k = vs[k] :: vs.drop (k + 1) := List.drop_eq_getElem_cons hlt
    rw [e]
    have st := step k vs[k] ρ H (by simp [hlt]) hI
    unfold WFor forB; rw [forG]
    cases ha : asg t vs[k] ρ with
    | none => rw [ha] at st; exact st.elim
    | some ρ' =>
      rw [ha, wSome_some] at st
      replace st := WSs.sound _ st
      cases hb : execSs C body ρ' H with
      | next ρ₁ H₁ =>
        rw [hb] at st
        have st : stands ws H₀ H₁ = true ∧ I (k + 1) ρ₁ H₁ := st
        simp only [hb, st.1, if_true]
        exact ih (k + 1) ρ₁ H₁ (by omega) st.2
      | ret v H₁ => rw [hb] at st; simp only [hb]; exact st
      | stuck => rw [hb] at st; exact st.elim
/-- a loop, by what holds ahead of its k-th turn -/
theorem for_inv (I : Nat → Env' → Hp → Prop) {C : Ctx} {t : Tgt} {body : List S} {ws : List Nat} {H₀ H : Hp} {vs : List V} {ρ : Env'} {K : Out → Prop} (h0 : I 0 ρ H)
    (step : ∀ k v ρ H, vs[k]? = some v → I k ρ H → wSome (asg t v ρ) fun ρ' => WSs C body ρ' H (loopK K fun ρ₁ H₁ => stands ws H₀ H₁ = true ∧ I (k + 1) ρ₁ H₁))
    (fin : ∀ ρ H, I vs.length ρ H → K (.next ρ H)) : WFor C t body ws H₀ vs ρ H K := for_aux vs I step fin vs.length 0 ρ H (by omega) h0

theorem comp_aux {C : Ctx} {t : Tgt} {cs : List E} {elt : E} {ws : List Nat} {H₀ : Hp} {ρ : Env'} {nl : Nat} {Q : List V → Hp → Prop} (vs : List V) (env : V → Env') (I : Nat → List V → Hp → Prop)
    (he : ∀ v, v ∈ vs → (env v).length = nl ∧ ∀ pre : Env', pre.length = nl → asg t v (pre ++ ρ) = some (env v ++ ρ))
    (step : ∀ k v acc H, vs[k]? = some v → I k acc H → WT C cs (env v ++ ρ) H fun b H₁ => wIf b (WE C elt (env v ++ ρ) H₁ fun y H₂ => stands ws H₀ H₂ = true ∧ I (k + 1) (acc ++ [y]) H₂) (stands ws H₀ H₁ = true ∧ I (k + 1) acc H₁))
    (fin : ∀ acc H, acc.length ≤ vs.length → I vs.length acc H → Q acc H) : ∀ (m k : Nat) (pre : Env') (H : Hp) (acc : List V), k + m = vs.length → pre.length = nl → acc.length ≤ k → I k acc H → Wp (compB C t cs elt ws H₀ (vs.drop k) (pre ++ ρ) H acc) Q := by
  intro m
  induction m with
  | zero =>
    intro k pre H acc hk hp hl hI
    have : vs.drop k = [] := List.drop_eq_nil_of_le (by omega)
    rw [this]
    unfold compB; rw [compG]
    have hk : k = vs.length := by omega
    subst hk
    exact fin acc H hl hI
  | succ m ih =>
    intro k pre H acc hk hp hl hI
    have hlt : k < vs.length := by omega
    have e : vs.drop k = vs[k] :: vs.drop (k + 1) := List.drop_eq_getElem_cons hlt
    rw [e]
    have st := step k vs[k] acc H (by simp [hlt]) hI
    obtain ⟨hel, ha⟩ := he vs[k] (by simp)
    unfold compB; rw [compG, ha pre hp]
    replace st := WT.sound _ st
    simp only
    rw [Wp_bind]
    refine Wp_mono st ?_
    intro b H₁ hb
    cases b with
    | false =>
      rw [wIf_f] at hb
      simp only [Bool.false_eq_true, if_false, hb.1, if_true]
      exact ih (k + 1) (env vs[k]) H₁ acc (by omega) hel (by omega) hb.2
    | true =>
      rw [wIf_t] at hb
      simp only [if_true]
      rw [Wp_bind]
      refine Wp_mono (WE.sound _ hb) ?_
      intro y H₂ hy
      simp only [hy.1, if_true]
      exact ih (k + 1) (env vs[k]) H₂ (acc ++ [y]) (by omega) hel (by simp; omega) hy.2
/-- a comprehension, by what holds ahead of its k-th turn -/
theorem comp_inv (env : V → Env') (I : Nat → List V → Hp → Prop) {C : Ctx} {t : Tgt} {cs : List E} {elt : E} {ws : List Nat} {H₀ H : Hp} {vs : List V} {pre ρ : Env'} {Q : V → Hp → Prop}
    (he : ∀ v, v ∈ vs → (env v).length = pre.length ∧ ∀ p : Env', p.length = pre.length → asg t v (p ++ ρ) = some (env v ++ ρ)) (hsz : vs.length < 1000000) (h0 : I 0 [] H)
    (step : ∀ k v acc H, vs[k]? = some v → I k acc H → WT C cs (env v ++ ρ) H fun b H₁ => wIf b (WE C elt (env v ++ ρ) H₁ fun y H₂ => stands ws H₀ H₂ = true ∧ I (k + 1) (acc ++ [y]) H₂) (stands ws H₀ H₁ = true ∧ I (k + 1) acc H₁))
    (fin : ∀ acc H, acc.length ≤ vs.length → I vs.length acc H → Q (.ref H.length) (H ++ [.list acc])) : WComp C t cs elt ws H₀ vs (pre ++ ρ) H Q := by
  unfold WComp
  rw [Wp_bind]
  refine comp_aux vs env I he step ?_ vs.length 0 pre H [] (by omega) rfl (by simp) h0
  intro acc H hl hI
  have := WAllocL_ok H Q acc (by omega)
  unfold WAllocL at this
  rw [this]
  exact fin acc H hl hI
/-- a comprehension that leaves the heap as it is -/
theorem comp_pure (env : V → Env') (p : V → Bool) (f : V → V) {C : Ctx} {t : Tgt} {cs : List E} {elt : E} {ws : List Nat} {H : Hp} {vs : List V} {pre ρ : Env'} {Q : V → Hp → Prop}
    (he : ∀ v, v ∈ vs → (env v).length = pre.length ∧ ∀ p : Env', p.length = pre.length → asg t v (p ++ ρ) = some (env v ++ ρ)) (hsz : vs.length < 1000000)
    (step : ∀ v, v ∈ vs → ∀ Q : V → Hp → Prop, (p v = true → Q (f v) H) → ∀ Q' : Hp → Prop, (p v = false → Q' H) → WT C cs (env v ++ ρ) H fun b H₁ => wIf b (WE C elt (env v ++ ρ) H₁ Q) (Q' H₁))
    (fin : Q (.ref H.length) (H ++ [.list ((vs.filter p).map f)])) : WComp C t cs elt ws H vs (pre ++ ρ) H Q := by
  have hst : ∀ H, stands ws H H = true := by intro H; simp [stands]
  refine comp_inv env (fun k acc H' => H' = H ∧ acc = ((vs.take k).filter p).map f) he hsz ⟨rfl, rfl⟩ ?_ ?_
  · rintro k v acc H' hv ⟨rfl, rfl⟩
    have hk : k < vs.length := (List.getElem?_eq_some_iff.mp hv).1
    have hv' : vs[k] = v := (List.getElem?_eq_some_iff.mp hv).2
    have ht : vs.take (k + 1) = vs.take k ++ [v] := by rw [List.take_add_one, hv]; rfl
    refine step v (by rw [← hv']; simp) _ ?_ _ ?_
    · intro hp
      exact ⟨hst _, rfl, by rw [ht]; simp [hp]⟩
    · intro hp
      exact ⟨hst _, rfl, by rw [ht]; simp [hp]⟩
  · rintro acc H' _ ⟨rfl, rfl⟩
    rw [List.take_length]; exact fin

theorem env_one {ρ : Env'} {v : V} {pre : Env'} (hp : pre.length = 1) : ([some v] : Env').length = pre.length ∧ ∀ p : Env', p.length = pre.length → asg (.var 0) v (p ++ ρ) = some ([some v] ++ ρ) := by
  refine ⟨by simp [hp], ?_⟩
  intro p hpl
  rw [hp] at hpl
  match p, hpl with
  | [a], _ => simp [asg]

theorem range_get {a b : Int} {k : Nat} {v : V} (h : (rangeV a b)[k]? = some v) : v = .int (a + k) ∧ a + k < b := by
  unfold rangeV at h
  rw [List.getElem?_map] at h
  by_cases hk : k < (b - a).toNat
  · rw [List.getElem?_range hk] at h
    simp at h
    exact ⟨h.symm, by omega⟩
  · rw [List.getElem?_eq_none (by simp; omega)] at h
    simp at h
theorem range_len (a b : Int) : (rangeV a b).length = (b - a).toNat := by simp [rangeV]
theorem range_mem {a b : Int} {v : V} (h : v ∈ rangeV a b) : ∃ i : Int, v = .int i ∧ a ≤ i ∧ i < b := by
  obtain ⟨k, hk, e⟩ := List.getElem_of_mem h
  obtain ⟨h1, h2⟩ := range_get (a := a) (b := b) (k := k) (v := v) (by rw [← e]; simp [hk])
  exact ⟨a + k, h1, by omega, h2⟩
theorem enum_get : ∀ {vs : List V} {j k : Nat} {v : V}, (enumV j vs)[k]? = some v → ∃ w, vs[k]? = some w ∧ v = .tup [.int ((j + k : Nat) : Int), w]
  | [], j, k, v, h => by simp [enumV] at h
  | x :: r, j, 0, v, h => by simp [enumV] at h; exact ⟨x, rfl, h.symm⟩
  | x :: r, j, k + 1, v, h => by
    rw [enumV, List.getElem?_cons_succ] at h
    obtain ⟨w, h1, h2⟩ := enum_get h
    exact ⟨w, by simpa using h1, by rw [h2]; congr 3; omega⟩
theorem enum_len : ∀ (vs : List V) (j : Nat), (enumV j vs).length = vs.length
  | [], _ => rfl
  | x :: r, j => by rw [enumV, List.length_cons, enum_len r, List.length_cons]
theorem seqAt_get {α : Type} {l : List α} {k : Int} (h0 : 0 ≤ k) (h1 : k < l.length) : ∃ v, seqAt l k = some v ∧ l[k.toNat]? = some v ∧ v ∈ l := by
  have : k.toNat < l.length := by omega
  refine ⟨l[k.toNat], ?_, by simp [this], by simp⟩
  unfold seqAt; rw [if_pos h0]; simp [this]
/-- reading -/
noncomputable def plain : Nat → V → Bool
  | _, .none => true
  | _, .bool _ => true
  | _, .int _ => true
  | 0, _ => false
  | n + 1, .tup vs => vs.all (plain n)
  | _, _ => false
theorem rdL_some {f : V → Option PyData} : ∀ {vs : List V}, (∀ v, v ∈ vs → ∃ d, f v = some d) → ∃ ds, rdL f vs = some ds
  | [], _ => ⟨[], rfl⟩
  | v :: r, h => by
    obtain ⟨d, hd⟩ := h v (by simp)
    obtain ⟨ds, hds⟩ := rdL_some (vs := r) fun u hu => h u (by simp [hu])
    exact ⟨d :: ds, by rw [rdL, hd, hds]⟩
theorem plain_rd (scr : List Int) (H : Hp) : ∀ (n m : Nat) (v : V), n ≤ m → plain n v = true → ∃ d, rd scr m H v = some d
  | n, m, .none, _, _ => ⟨.none, by cases m <;> rfl⟩
  | n, m, .bool b, _, _ => ⟨.bool b, by cases m <;> rfl⟩
  | n, m, .int b, _, _ => ⟨.int b, by cases m <;> rfl⟩
  | 0, m, .tup s, _, h => by simp [plain] at h
  | n + 1, 0, .tup vs, hm, h => by omega
  | n + 1, m + 1, .tup vs, hm, h => by
    rw [plain, List.all_eq_true] at h
    obtain ⟨ds, hds⟩ := rdL_some (f := rd scr m H) (vs := vs) fun v hv => plain_rd scr H n m v (by omega) (h v hv)
    exact ⟨.tuple ds, by rw [rd, hds]; rfl⟩
  | 0, m, .ref s, _, h => by simp [plain] at h
  | n + 1, m, .ref s, _, h => by simp [plain] at h
  | 0, m, .script, _, h => by simp [plain] at h
  | n + 1, m, .script, _, h => by simp [plain] at h
theorem eqvs_self {f : V → Option PyData} (hf : ∀ v d, f v = some d → PyData.eqv d d = true) : ∀ (vs : List V) (ds : List PyData), rdL f vs = some ds → PyData.eqvAll ds ds = true
  | [], ds, h => by cases h; rfl
  | v :: r, ds, h => by
    change (match f v, rdL f r with | some d, some ds => some (d :: ds) | _, _ => none) = _ at h
    cases h1 : f v with
    | none => rw [h1] at h; cases h
    | some d =>
      cases h2 : rdL f r with
      | none => rw [h1, h2] at h; cases h
      | some es =>
        rw [h1, h2] at h; cases h
        show (PyData.eqv d d && PyData.eqvAll es es) = true
        rw [hf v d h1, eqvs_self hf r es h2]; rfl
theorem opt_tuple {f : V → Option PyData} (hf : ∀ v d, f v = some d → PyData.eqv d d = true) {vs : List V} {g : List PyData → PyData} (hg : ∀ ds, PyData.eqv (g ds) (g ds) = PyData.eqvAll ds ds) {d : PyData} (h : (rdL f vs).map g = some d) : PyData.eqv d d = true := by
  cases hr : rdL f vs with
  | none => rw [hr] at h; cases h
  | some ds =>
    rw [hr] at h; cases h
    rw [hg]; exact eqvs_self hf vs ds hr
theorem eqv_self (scr : List Int) (H : Hp) : ∀ (n : Nat) (v : V) (d : PyData), rd scr n H v = some d → PyData.eqv d d = true
  | 0, v, d, h => by
    cases v with
    | none => cases h; rfl
    | bool b => cases h; exact beq_self_eq_true b
    | int i => cases h; exact beq_self_eq_true i
    | tup _ => cases h
    | ref _ => cases h
    | script => cases h
  | n + 1, v, d, h => by
    cases v with
    | none => cases h; rfl
    | bool b => cases h; exact beq_self_eq_true b
    | int i => cases h; exact beq_self_eq_true i
    | tup vs => exact opt_tuple (eqv_self scr H n) (fun _ => rfl) h
    | ref l =>
      change (match H[l]? with | some (.list vs) => (rdL (rd scr n H) vs).map PyData.list | _ => none) = _ at h
      split at h
      · exact opt_tuple (eqv_self scr H n) (fun _ => rfl) h
      · cases h
    | script =>
      cases h
      show PyData.eqvAll (scr.map .int) (scr.map .int) = true
      induction scr with
      | nil => rfl
      | cons a r ih =>
        show (PyData.eqv (.int a) (.int a) && PyData.eqvAll (r.map .int) (r.map .int)) = true
        rw [ih, show PyData.eqv (.int a) (.int a) = true from beq_self_eq_true a]; rfl
theorem eq_plain (scr : List Int) (H : Hp) {v : V} (h : plain 9 v = true) : eqV scr H v v = some true := by
  obtain ⟨d, hd⟩ := plain_rd scr H 9 10 v (by omega) h
  unfold eqV; rw [hd]; simp only; rw [eqv_self scr H 10 v d hd]
theorem ne_plain (scr : List Int) (H : Hp) {v : V} (h : plain 9 v = true) : cmpV scr .ne v v H = some false := by
  rw [cmpV, eq_plain scr H h]; rfl
theorem rd_list {scr : List Int} {H : Hp} {l : Nat} {vs : List V} (h : H[l]? = some (.list vs)) (hp : ∀ v, v ∈ vs → plain 8 v = true) : ∃ ds, rd scr 10 H (.ref l) = some (.list ds) ∧ rdL (rd scr 9 H) vs = some ds := by
  obtain ⟨ds, hds⟩ := rdL_some (f := rd scr 9 H) (vs := vs) fun v hv => plain_rd scr H 8 9 v (by omega) (hp v hv)
  exact ⟨ds, by rw [rd, h]; simp only [hds]; rfl, hds⟩
theorem rdL_len {f : V → Option PyData} : ∀ {vs : List V} {ds : List PyData}, rdL f vs = some ds → ds.length = vs.length
  | [], ds, h => by simp [rdL] at h; subst h; rfl
  | v :: r, ds, h => by
    rw [rdL] at h
    cases h1 : f v with
    | none => rw [h1] at h; simp at h
    | some d =>
      cases h2 : rdL f r with
      | none => rw [h1, h2] at h; simp at h
      | some es => rw [h1, h2] at h; simp at h; subst h; simp [rdL_len h2]
/-- a list against the empty one -/
theorem eq_empty {scr : List Int} {H : Hp} {l m : Nat} {vs : List V} (h : H[l]? = some (.list vs)) (h' : H[m]? = some (.list [])) (hp : ∀ v, v ∈ vs → plain 8 v = true) : eqV scr H (.ref l) (.ref m) = some vs.isEmpty := by
  obtain ⟨ds, h1, h2⟩ := rd_list (scr := scr) h hp
  have h3 : rd scr 10 H (.ref m) = some (.list []) := by rw [rd, h']; rfl
  have hl := rdL_len h2
  unfold eqV
  rw [h1, h3]
  cases ds with
  | nil => cases vs with
    | nil => rfl
    | cons a b => simp at hl
  | cons d r => cases vs with
    | nil => simp at hl
    | cons a b => rfl
theorem cmp_eq_empty {scr : List Int} {H : Hp} {l : Nat} {vs : List V} (h : H[l]? = some (.list vs)) (hp : ∀ v, v ∈ vs → plain 8 v = true) : cmpV scr .eq (.ref l) (.ref H.length) (H ++ [.list []]) = some vs.isEmpty := by
  rw [cmpV]; exact eq_empty (at_app _ h) (at_new _ _) hp
theorem cmp_ne_empty {scr : List Int} {H : Hp} {l : Nat} {vs : List V} (h : H[l]? = some (.list vs)) (hp : ∀ v, v ∈ vs → plain 8 v = true) : cmpV scr .ne (.ref l) (.ref H.length) (H ++ [.list []]) = some (!vs.isEmpty) := by
  rw [cmpV, eq_empty (at_app _ h) (at_new _ _) hp]; rfl
end Mine

end
section
set_option autoImplicit false
set_option linter.unusedVariables false
set_option linter.unusedSimpArgs false
set_option maxRecDepth 100000
namespace Mine.P
open PySem
variable (scr : List Int)

theorem w_cell (n k : Nat) (H : Hp) : Wp (callF scr pgks pfns (n + 1) i_law_cell_at [.script, .int k] H) fun v H' => v = .int (scr.getD k 0) ∧ H' = H := by
  rw [c_law_cell_at, Wp_end]
  refine WSs.sound _ ?_
  unfold pb_law_cell_at
  try simp (disch := first | decide | omega) only [↓ed00, ↓ed01, ↓ed03, ↓ed04, ↓ed05, ↓ed06, ↓ed07, ↓ed08, ↓ed09, ↓ed10, ↓ed11, ↓ed12, ↓ed13, ↓ed14, ↓ed15, ↓ed16, ↓ed17, ↓ed18, ↓ed19, ↓ed20, ↓ed21, ↓ed23, ↓ed24, ↓ed25, ↓ed26, ↓ed27, ↓ed28, ↓ed29, ↓ed30, ↓ed31, ↓ed32, ↓ed33, ↓ed34, ↓ed35, ↓ed36, ↓ed37, ↓ed38, ↓ed39, ↓ed40, ↓ed41, ↓ed42, ↓ed46, ↓ed47, eu00, eu01, eu02, eu03, eu04, eu05, eu06, eu09, eu10, eu11, eu14, eu15, eu18, eu19, eu20, eu21, eu22, eu23, eu24, eu25, eu26, eu27, eu28, eu29, eu30, eu31, eu32, eu33, eu34, eu35, eu36, eu37, eu38, eu39, eu40, eu41, eu42, eu43, eu44, eu46, eu47, eu48, eu49, eu50, eu51, eo00, eo01, eo02, eo03, eo04, eo05, eo06, eo07, eo08, eo09, eo10, eo11, eo12, eo13, eo14, eo15, eo16, eo17, Nat.reduceAdd, Nat.reduceLT, if_true, Bool.false_eq_true, reduceIte, Nat.zero_add, Nat.succ_eq_add_one, Int.reduceNeg, beq_self_eq_true]
  refine wIf_split ?_ ?_
  · intro h
    have h1 : k < scr.length := by simpa using h
    have h4 : seqAt (scr.map V.int) (k : Int) = some (.int (scr.getD k 0)) := by simp [seqAt, h1]
    try simp (disch := first | decide | omega) only [↓ed00, ↓ed01, ↓ed03, ↓ed04, ↓ed05, ↓ed06, ↓ed07, ↓ed08, ↓ed09, ↓ed10, ↓ed11, ↓ed12, ↓ed13, ↓ed14, ↓ed15, ↓ed16, ↓ed17, ↓ed18, ↓ed19, ↓ed20, ↓ed21, ↓ed23, ↓ed24, ↓ed25, ↓ed26, ↓ed27, ↓ed28, ↓ed29, ↓ed30, ↓ed31, ↓ed32, ↓ed33, ↓ed34, ↓ed35, ↓ed36, ↓ed37, ↓ed38, ↓ed39, ↓ed40, ↓ed41, ↓ed42, ↓ed46, ↓ed47, eu00, eu01, eu02, eu03, eu04, eu05, eu06, eu09, eu10, eu11, eu14, eu15, eu18, eu19, eu20, eu21, eu22, eu23, eu24, eu25, eu26, eu27, eu28, eu29, eu30, eu31, eu32, eu33, eu34, eu35, eu36, eu37, eu38, eu39, eu40, eu41, eu42, eu43, eu44, eu46, eu47, eu48, eu49, eu50, eu51, eo00, eo01, eo02, eo03, eo04, eo05, eo06, eo07, eo08, eo09, eo10, eo11, eo12, eo13, eo14, eo15, eo16, eo17, Nat.reduceAdd, Nat.reduceLT, if_true, Bool.false_eq_true, reduceIte, Nat.zero_add, Nat.succ_eq_add_one, Int.reduceNeg, beq_self_eq_true, idx_script, h4]
    exact ⟨trivial, trivial⟩
  · intro h
    have h1 : ¬ k < scr.length := by simpa using h
    have h4 : scr.getD k 0 = 0 := by simp [h1]
    try simp (disch := first | decide | omega) only [↓ed00, ↓ed01, ↓ed03, ↓ed04, ↓ed05, ↓ed06, ↓ed07, ↓ed08, ↓ed09, ↓ed10, ↓ed11, ↓ed12, ↓ed13, ↓ed14, ↓ed15, ↓ed16, ↓ed17, ↓ed18, ↓ed19, ↓ed20, ↓ed21, ↓ed23, ↓ed24, ↓ed25, ↓ed26, ↓ed27, ↓ed28, ↓ed29, ↓ed30, ↓ed31, ↓ed32, ↓ed33, ↓ed34, ↓ed35, ↓ed36, ↓ed37, ↓ed38, ↓ed39, ↓ed40, ↓ed41, ↓ed42, ↓ed46, ↓ed47, eu00, eu01, eu02, eu03, eu04, eu05, eu06, eu09, eu10, eu11, eu14, eu15, eu18, eu19, eu20, eu21, eu22, eu23, eu24, eu25, eu26, eu27, eu28, eu29, eu30, eu31, eu32, eu33, eu34, eu35, eu36, eu37, eu38, eu39, eu40, eu41, eu42, eu43, eu44, eu46, eu47, eu48, eu49, eu50, eu51, eo00, eo01, eo02, eo03, eo04, eo05, eo06, eo07, eo08, eo09, eo10, eo11, eo12, eo13, eo14, eo15, eo16, eo17, Nat.reduceAdd, Nat.reduceLT, if_true, Bool.false_eq_true, reduceIte, Nat.zero_add, Nat.succ_eq_add_one, Int.reduceNeg, beq_self_eq_true, h4]
    exact ⟨trivial, trivial⟩

theorem w_whole (n : Nat) (i : Int) (H : Hp) : Wp (callF scr pgks pfns (n + 1) i_law_whole [.int i] H) fun v H' => v = .bool true ∧ H' = H := by
  rw [c_law_whole, Wp_end]
  refine WSs.sound _ ?_
  unfold pb_law_whole
  try simp (disch := first | decide | omega) only [↓ed00, ↓ed01, ↓ed03, ↓ed04, ↓ed05, ↓ed06, ↓ed07, ↓ed08, ↓ed09, ↓ed10, ↓ed11, ↓ed12, ↓ed13, ↓ed14, ↓ed15, ↓ed16, ↓ed17, ↓ed18, ↓ed19, ↓ed20, ↓ed21, ↓ed23, ↓ed24, ↓ed25, ↓ed26, ↓ed27, ↓ed28, ↓ed29, ↓ed30, ↓ed31, ↓ed32, ↓ed33, ↓ed34, ↓ed35, ↓ed36, ↓ed37, ↓ed38, ↓ed39, ↓ed40, ↓ed41, ↓ed42, ↓ed46, ↓ed47, eu00, eu01, eu02, eu03, eu04, eu05, eu06, eu09, eu10, eu11, eu14, eu15, eu18, eu19, eu20, eu21, eu22, eu23, eu24, eu25, eu26, eu27, eu28, eu29, eu30, eu31, eu32, eu33, eu34, eu35, eu36, eu37, eu38, eu39, eu40, eu41, eu42, eu43, eu44, eu46, eu47, eu48, eu49, eu50, eu51, eo00, eo01, eo02, eo03, eo04, eo05, eo06, eo07, eo08, eo09, eo10, eo11, eo12, eo13, eo14, eo15, eo16, eo17, Nat.reduceAdd, Nat.reduceLT, if_true, Bool.false_eq_true, reduceIte, Nat.zero_add, Nat.succ_eq_add_one, Int.reduceNeg, beq_self_eq_true]
  exact ⟨trivial, trivial⟩

theorem w_stream (n : Nat) (c m : Int) (H : Hp) (h0 : 0 ≤ m) (h1 : m ≤ 1000) : Wp (callF scr pgks pfns (n + 1) i_law_stream [.int c, .int m] H) fun v H' =>
    ∃ (l : Nat) (xs : List Int), v = .ref l ∧ H.length ≤ l ∧ Kept H.length H H' ∧ H'[l]? = some (.list (xs.map .int)) ∧ xs.length = m.toNat ∧ ∀ x ∈ xs, 0 ≤ x ∧ x < 2147483647 := by
  rw [c_law_stream, Wp_end]
  refine WSs.sound _ ?_
  unfold pb_law_stream
  try simp (disch := first | decide | omega) only [↓ed00, ↓ed01, ↓ed03, ↓ed04, ↓ed05, ↓ed06, ↓ed07, ↓ed08, ↓ed09, ↓ed10, ↓ed11, ↓ed12, ↓ed13, ↓ed14, ↓ed15, ↓ed16, ↓ed17, ↓ed18, ↓ed19, ↓ed20, ↓ed21, ↓ed23, ↓ed24, ↓ed25, ↓ed26, ↓ed27, ↓ed28, ↓ed29, ↓ed30, ↓ed31, ↓ed32, ↓ed33, ↓ed34, ↓ed35, ↓ed36, ↓ed37, ↓ed38, ↓ed39, ↓ed40, ↓ed41, ↓ed42, ↓ed46, ↓ed47, eu00, eu01, eu02, eu03, eu04, eu05, eu06, eu09, eu10, eu11, eu14, eu15, eu18, eu19, eu20, eu21, eu22, eu23, eu24, eu25, eu26, eu27, eu28, eu29, eu30, eu31, eu32, eu33, eu34, eu35, eu36, eu37, eu38, eu39, eu40, eu41, eu42, eu43, eu44, eu46, eu47, eu48, eu49, eu50, eu51, eo00, eo01, eo02, eo03, eo04, eo05, eo06, eo07, eo08, eo09, eo10, eo11, eo12, eo13, eo14, eo15, eo16, eo17, Nat.reduceAdd, Nat.reduceLT, if_true, Bool.false_eq_true, reduceIte, Nat.zero_add, Nat.succ_eq_add_one, Int.reduceNeg, beq_self_eq_true]
  refine for_inv (fun k ρ H' => ∃ (y z : Option V) (nu : Int) (xs : List Int), ρ = [some (.int c), y, some (.ref H.length), some (.int nu), z] ∧ Kept H.length H H' ∧ H'[H.length]? = some (.list (xs.map .int)) ∧ xs.length = k ∧ (∀ x ∈ xs, 0 ≤ x ∧ x < 2147483647)) ⟨_, _, _, [], rfl, Kept.app _ _, at_new _ _, rfl, by simp⟩ ?_ ?_
  · rintro k v ρ H' hv ⟨y, z, nu, xs, rfl, hF, hA, hl, hx⟩
    obtain ⟨rfl, hk⟩ := range_get hv
    have hkl : k < 1000 := by omega
    have hsz : (xs.map V.int).length < 1000000 := by simp; omega
    try simp (disch := first | decide | omega) only [↓ed00, ↓ed01, ↓ed03, ↓ed04, ↓ed05, ↓ed06, ↓ed07, ↓ed08, ↓ed09, ↓ed10, ↓ed11, ↓ed12, ↓ed13, ↓ed14, ↓ed15, ↓ed16, ↓ed17, ↓ed18, ↓ed19, ↓ed20, ↓ed21, ↓ed23, ↓ed24, ↓ed25, ↓ed26, ↓ed27, ↓ed28, ↓ed29, ↓ed30, ↓ed31, ↓ed32, ↓ed33, ↓ed34, ↓ed35, ↓ed36, ↓ed37, ↓ed38, ↓ed39, ↓ed40, ↓ed41, ↓ed42, ↓ed46, ↓ed47, eu00, eu01, eu02, eu03, eu04, eu05, eu06, eu09, eu10, eu11, eu14, eu15, eu18, eu19, eu20, eu21, eu22, eu23, eu24, eu25, eu26, eu27, eu28, eu29, eu30, eu31, eu32, eu33, eu34, eu35, eu36, eu37, eu38, eu39, eu40, eu41, eu42, eu43, eu44, eu46, eu47, eu48, eu49, eu50, eu51, eo00, eo01, eo02, eo03, eo04, eo05, eo06, eo07, eo08, eo09, eo10, eo11, eo12, eo13, eo14, eo15, eo16, eo17, Nat.reduceAdd, Nat.reduceLT, if_true, Bool.false_eq_true, reduceIte, Nat.zero_add, Nat.succ_eq_add_one, Int.reduceNeg, beq_self_eq_true, meKind_app _ hA, WMeth_app _ _ _ hA hsz, loopK_next]
    refine ⟨rfl, _, _, _, xs ++ [(nu * 48271 + 11 + (0 + (k : Int))) % 2147483647], rfl, hF.trans (Kept.set _ (Nat.le_refl _) (by have := hF.2.1; omega)) (Nat.le_refl _), ?_, by simp [hl], ?_⟩
    · rw [at_set hA]; simp
    · intro x hxm
      rcases List.mem_append.mp hxm with h | h
      · exact hx x h
      · have : x = _ := List.mem_singleton.mp h
        omega
  · rintro ρ H' ⟨y, z, nu, xs, rfl, hF, hA, hl, hx⟩
    try simp (disch := first | decide | omega) only [↓ed00, ↓ed01, ↓ed03, ↓ed04, ↓ed05, ↓ed06, ↓ed07, ↓ed08, ↓ed09, ↓ed10, ↓ed11, ↓ed12, ↓ed13, ↓ed14, ↓ed15, ↓ed16, ↓ed17, ↓ed18, ↓ed19, ↓ed20, ↓ed21, ↓ed23, ↓ed24, ↓ed25, ↓ed26, ↓ed27, ↓ed28, ↓ed29, ↓ed30, ↓ed31, ↓ed32, ↓ed33, ↓ed34, ↓ed35, ↓ed36, ↓ed37, ↓ed38, ↓ed39, ↓ed40, ↓ed41, ↓ed42, ↓ed46, ↓ed47, eu00, eu01, eu02, eu03, eu04, eu05, eu06, eu09, eu10, eu11, eu14, eu15, eu18, eu19, eu20, eu21, eu22, eu23, eu24, eu25, eu26, eu27, eu28, eu29, eu30, eu31, eu32, eu33, eu34, eu35, eu36, eu37, eu38, eu39, eu40, eu41, eu42, eu43, eu44, eu46, eu47, eu48, eu49, eu50, eu51, eo00, eo01, eo02, eo03, eo04, eo05, eo06, eo07, eo08, eo09, eo10, eo11, eo12, eo13, eo14, eo15, eo16, eo17, Nat.reduceAdd, Nat.reduceLT, if_true, Bool.false_eq_true, reduceIte, Nat.zero_add, Nat.succ_eq_add_one, Int.reduceNeg, beq_self_eq_true]
    exact ⟨_, xs, rfl, Nat.le_refl _, hF, hA, by rw [hl, range_len]; simp, hx⟩

theorem plain_int (i : Int) (n : Nat) : plain n (.int i) = true := by cases n <;> rfl
theorem plain_ints (es : List Int) (n : Nat) : ∀ v, v ∈ es.map V.int → plain n v = true := by
  intro v hv
  obtain ⟨i, _, rfl⟩ := List.mem_map.mp hv
  exact plain_int i n
theorem seqAt_map {α : Type} (f : Int → α) (es : List Int) (k : Int) (h0 : 0 ≤ k) (h1 : k < es.length) : ∃ i, seqAt (es.map f) k = some (f i) ∧ i ∈ es := by
  have hk : k.toNat < es.length := by omega
  refine ⟨es[k.toNat], ?_, by simp⟩
  unfold seqAt; rw [if_pos h0]; simp [hk]

theorem w_some (n : Nat) (l : Nat) (y f : Int) (H : Hp) (es : List Int) (hA : H[l]? = some (.list (es.map .int))) : Wp (callF scr pgks pfns (n + 1) i_law_some [.ref l, .int y, .int f] H) fun v H' =>
    ∃ ls : List Int, v = .tup (ls.map .int) ∧ Kept H.length H H' ∧ (∀ j ∈ ls, j ∈ es) ∧ ls.Nodup ∧ ls.length ≤ 2 ∧ (f ≠ 0 → es ≠ [] → ls ≠ []) := by
  rw [c_law_some, Wp_end]
  refine WSs.sound _ ?_
  unfold pb_law_some
  have hE := cmp_eq_empty (scr := scr) hA (plain_ints es 8)
  have hF : Kept H.length H (H ++ [.list []]) := Kept.app _ _
  have hA' := at_app [.list []] hA
  refine if_cut (fun b H' => H' = H ++ [.list []] ∧ (b = true → es = [] ∨ f = 0) ∧ (b = false → es ≠ [])) ?_ ?_ ?_
  · try simp (disch := first | decide | omega) only [↓ed00, ↓ed01, ↓ed03, ↓ed04, ↓ed05, ↓ed06, ↓ed07, ↓ed08, ↓ed09, ↓ed10, ↓ed11, ↓ed12, ↓ed13, ↓ed14, ↓ed15, ↓ed16, ↓ed17, ↓ed18, ↓ed19, ↓ed20, ↓ed21, ↓ed23, ↓ed24, ↓ed25, ↓ed26, ↓ed27, ↓ed28, ↓ed29, ↓ed30, ↓ed31, ↓ed32, ↓ed33, ↓ed34, ↓ed35, ↓ed36, ↓ed37, ↓ed38, ↓ed39, ↓ed40, ↓ed41, ↓ed42, ↓ed46, ↓ed47, eu00, eu01, eu02, eu03, eu04, eu05, eu06, eu09, eu10, eu11, eu14, eu15, eu18, eu19, eu20, eu21, eu22, eu23, eu24, eu25, eu26, eu27, eu28, eu29, eu30, eu31, eu32, eu33, eu34, eu35, eu36, eu37, eu38, eu39, eu40, eu41, eu42, eu43, eu44, eu46, eu47, eu48, eu49, eu50, eu51, eo00, eo01, eo02, eo03, eo04, eo05, eo06, eo07, eo08, eo09, eo10, eo11, eo12, eo13, eo14, eo15, eo16, eo17, Nat.reduceAdd, Nat.reduceLT, if_true, Bool.false_eq_true, reduceIte, Nat.zero_add, Nat.succ_eq_add_one, Int.reduceNeg, beq_self_eq_true, hE]
    refine wIf_split ?_ ?_
    · intro h
      exact ⟨trivial, fun _ => .inl (by simpa using h), fun h' => by rw [h] at h'; simp at h'⟩
    · intro h
      refine wIf_split ?_ ?_
      · intro h2
        exact ⟨trivial, fun _ => .inr (by simpa using h2), fun _ => by simpa using h⟩
      · intro h2
        rw [h2]
        exact ⟨trivial, by simp, fun _ => by simpa using h⟩
  · rintro H' ⟨rfl, h, _⟩
    try simp (disch := first | decide | omega) only [↓ed00, ↓ed01, ↓ed03, ↓ed04, ↓ed05, ↓ed06, ↓ed07, ↓ed08, ↓ed09, ↓ed10, ↓ed11, ↓ed12, ↓ed13, ↓ed14, ↓ed15, ↓ed16, ↓ed17, ↓ed18, ↓ed19, ↓ed20, ↓ed21, ↓ed23, ↓ed24, ↓ed25, ↓ed26, ↓ed27, ↓ed28, ↓ed29, ↓ed30, ↓ed31, ↓ed32, ↓ed33, ↓ed34, ↓ed35, ↓ed36, ↓ed37, ↓ed38, ↓ed39, ↓ed40, ↓ed41, ↓ed42, ↓ed46, ↓ed47, eu00, eu01, eu02, eu03, eu04, eu05, eu06, eu09, eu10, eu11, eu14, eu15, eu18, eu19, eu20, eu21, eu22, eu23, eu24, eu25, eu26, eu27, eu28, eu29, eu30, eu31, eu32, eu33, eu34, eu35, eu36, eu37, eu38, eu39, eu40, eu41, eu42, eu43, eu44, eu46, eu47, eu48, eu49, eu50, eu51, eo00, eo01, eo02, eo03, eo04, eo05, eo06, eo07, eo08, eo09, eo10, eo11, eo12, eo13, eo14, eo15, eo16, eo17, Nat.reduceAdd, Nat.reduceLT, if_true, Bool.false_eq_true, reduceIte, Nat.zero_add, Nat.succ_eq_add_one, Int.reduceNeg, beq_self_eq_true]
    refine ⟨[], rfl, hF, by simp, by simp, by simp, ?_⟩
    intro h1 h2
    rcases h rfl with h | h
    · exact absurd h h2
    · exact absurd h h1
  · rintro H' ⟨rfl, _, hne⟩
    have hne := hne rfl
    have hpos : 0 < es.length := List.length_pos_iff.mpr hne
    obtain ⟨a, ha, hae⟩ := seqAt_map V.int es (y % (es.length : Int)) (Int.emod_nonneg _ (by omega)) (Int.emod_lt_of_pos _ (by omega))
    obtain ⟨b, hb, hbe⟩ := seqAt_map V.int es (y / 60 % (es.length : Int)) (Int.emod_nonneg _ (by omega)) (Int.emod_lt_of_pos _ (by omega))
    try simp (disch := first | decide | omega) only [↓ed00, ↓ed01, ↓ed03, ↓ed04, ↓ed05, ↓ed06, ↓ed07, ↓ed08, ↓ed09, ↓ed10, ↓ed11, ↓ed12, ↓ed13, ↓ed14, ↓ed15, ↓ed16, ↓ed17, ↓ed18, ↓ed19, ↓ed20, ↓ed21, ↓ed23, ↓ed24, ↓ed25, ↓ed26, ↓ed27, ↓ed28, ↓ed29, ↓ed30, ↓ed31, ↓ed32, ↓ed33, ↓ed34, ↓ed35, ↓ed36, ↓ed37, ↓ed38, ↓ed39, ↓ed40, ↓ed41, ↓ed42, ↓ed46, ↓ed47, eu00, eu01, eu02, eu03, eu04, eu05, eu06, eu09, eu10, eu11, eu14, eu15, eu18, eu19, eu20, eu21, eu22, eu23, eu24, eu25, eu26, eu27, eu28, eu29, eu30, eu31, eu32, eu33, eu34, eu35, eu36, eu37, eu38, eu39, eu40, eu41, eu42, eu43, eu44, eu46, eu47, eu48, eu49, eu50, eu51, eo00, eo01, eo02, eo03, eo04, eo05, eo06, eo07, eo08, eo09, eo10, eo11, eo12, eo13, eo14, eo15, eo16, eo17, Nat.reduceAdd, Nat.reduceLT, if_true, Bool.false_eq_true, reduceIte, Nat.zero_add, Nat.succ_eq_add_one, Int.reduceNeg, beq_self_eq_true, WBi_lenL _ _ _ hA', List.length_map, idx_lst _ _ _ hA', ha, hb]
    by_cases hab : a = b
    · try simp (disch := first | decide | omega) only [↓ed00, ↓ed01, ↓ed03, ↓ed04, ↓ed05, ↓ed06, ↓ed07, ↓ed08, ↓ed09, ↓ed10, ↓ed11, ↓ed12, ↓ed13, ↓ed14, ↓ed15, ↓ed16, ↓ed17, ↓ed18, ↓ed19, ↓ed20, ↓ed21, ↓ed23, ↓ed24, ↓ed25, ↓ed26, ↓ed27, ↓ed28, ↓ed29, ↓ed30, ↓ed31, ↓ed32, ↓ed33, ↓ed34, ↓ed35, ↓ed36, ↓ed37, ↓ed38, ↓ed39, ↓ed40, ↓ed41, ↓ed42, ↓ed46, ↓ed47, eu00, eu01, eu02, eu03, eu04, eu05, eu06, eu09, eu10, eu11, eu14, eu15, eu18, eu19, eu20, eu21, eu22, eu23, eu24, eu25, eu26, eu27, eu28, eu29, eu30, eu31, eu32, eu33, eu34, eu35, eu36, eu37, eu38, eu39, eu40, eu41, eu42, eu43, eu44, eu46, eu47, eu48, eu49, eu50, eu51, eo00, eo01, eo02, eo03, eo04, eo05, eo06, eo07, eo08, eo09, eo10, eo11, eo12, eo13, eo14, eo15, eo16, eo17, Nat.reduceAdd, Nat.reduceLT, if_true, Bool.false_eq_true, reduceIte, Nat.zero_add, Nat.succ_eq_add_one, Int.reduceNeg, beq_self_eq_true, hab]
      exact ⟨[b], rfl, hF, by simpa using hbe, by simp, by simp, by simp⟩
    · have hab' : (a == b) = false := by simpa using hab
      try simp (disch := first | decide | omega) only [↓ed00, ↓ed01, ↓ed03, ↓ed04, ↓ed05, ↓ed06, ↓ed07, ↓ed08, ↓ed09, ↓ed10, ↓ed11, ↓ed12, ↓ed13, ↓ed14, ↓ed15, ↓ed16, ↓ed17, ↓ed18, ↓ed19, ↓ed20, ↓ed21, ↓ed23, ↓ed24, ↓ed25, ↓ed26, ↓ed27, ↓ed28, ↓ed29, ↓ed30, ↓ed31, ↓ed32, ↓ed33, ↓ed34, ↓ed35, ↓ed36, ↓ed37, ↓ed38, ↓ed39, ↓ed40, ↓ed41, ↓ed42, ↓ed46, ↓ed47, eu00, eu01, eu02, eu03, eu04, eu05, eu06, eu09, eu10, eu11, eu14, eu15, eu18, eu19, eu20, eu21, eu22, eu23, eu24, eu25, eu26, eu27, eu28, eu29, eu30, eu31, eu32, eu33, eu34, eu35, eu36, eu37, eu38, eu39, eu40, eu41, eu42, eu43, eu44, eu46, eu47, eu48, eu49, eu50, eu51, eo00, eo01, eo02, eo03, eo04, eo05, eo06, eo07, eo08, eo09, eo10, eo11, eo12, eo13, eo14, eo15, eo16, eo17, Nat.reduceAdd, Nat.reduceLT, if_true, Bool.false_eq_true, reduceIte, Nat.zero_add, Nat.succ_eq_add_one, Int.reduceNeg, beq_self_eq_true, hab']
      refine wIf_split ?_ ?_
      · intro h
        exact ⟨[a], rfl, hF, by simpa using hae, by simp, by simp, by simp⟩
      · intro h
        exact ⟨[a, b], rfl, hF, by simpa using ⟨hae, hbe⟩, by simpa using hab, by simp, by simp⟩
end Mine.P

end
section
set_option autoImplicit false
set_option linter.unusedVariables false
set_option linter.unusedSimpArgs false
namespace Mine
open PySem
/-- the iseq from a to b -/
noncomputable def iseq (a b : Int) : List Int := (List.range (b - a).toNat).map fun (i : Nat) => a + (i : Int)
theorem range_ints (a b : Int) : rangeV a b = (iseq a b).map .int := by simp [rangeV, iseq, Function.comp_def]
theorem mem_ints {a b x : Int} (h : x ∈ iseq a b) : a ≤ x ∧ x < b := by
  obtain ⟨i, hi, rfl⟩ := List.mem_map.mp h
  have := List.mem_range.mp hi
  omega
theorem ints_len (a b : Int) : (iseq a b).length = (b - a).toNat := by simp [iseq]
/-- a comprehension that takes some of a list of iseq -/
theorem comp_filt (q : Int → Bool) {C : Ctx} {cs : List E} {ws : List Nat} {H : Hp} {xs : List Int} {ρ : Env'} {o : Option V} {Q : V → Hp → Prop} (hsz : xs.length < 1000000)
    (step : ∀ x, x ∈ xs → ∀ Q : Bool → Hp → Prop, Q (q x) H → WT C cs (some (.int x) :: ρ) H Q)
    (fin : Q (.ref H.length) (H ++ [.list ((xs.filter q).map .int)])) : WComp C (.var 0) cs (.var 0) ws H (xs.map .int) (o :: ρ) H Q := by
  refine comp_pure (pre := [o]) (ρ := ρ) (fun v => [some v]) (fun v => match v with | .int x => q x | _ => false) id ?_ (by simpa using hsz) ?_ ?_
  · intro v _; exact env_one rfl
  · intro v hv Q hQ Q' hQ'
    obtain ⟨x, hx, rfl⟩ := List.mem_map.mp hv
    refine step x hx _ ?_
    simp only at hQ hQ'
    cases hq : q x with
    | false => rw [wIf_f]; exact hQ' hq
    | true =>
      rw [wIf_t]
      simp only [↓WE_var, List.cons_append, List.nil_append, List.getElem?_cons_zero, Option.join_some, wSome_some]
      exact hQ hq
  · have : (List.filter (fun v => match v with | .int x => q x | _ => false) (xs.map V.int)).map id = (xs.filter q).map .int := by
      rw [List.map_id, List.filter_map]; rfl
    rw [this]; exact fin
/-- a comprehension over iseq that takes one thing for each of some of them -/
theorem comp_fm {α : Type} (g : α → V) (q : α → Bool) (f : α → V) {C : Ctx} {cs : List E} {elt : E} {ws : List Nat} {H : Hp} {xs : List α} {ρ : Env'} {o : Option V} {Q : V → Hp → Prop} (hsz : xs.length < 1000000)
    (step : ∀ x, x ∈ xs → ∀ Q : Bool → Hp → Prop, Q (q x) H → WT C cs (some (g x) :: ρ) H Q)
    (selt : ∀ x, x ∈ xs → q x = true → ∀ Q : V → Hp → Prop, Q (f x) H → WE C elt (some (g x) :: ρ) H Q)
    (fin : Q (.ref H.length) (H ++ [.list ((xs.filter q).map f)])) : WComp C (.var 0) cs elt ws H (xs.map g) (o :: ρ) H Q := by
  have hst : ∀ H, stands ws H H = true := by intro H; simp [stands]
  refine comp_inv (pre := [o]) (ρ := ρ) (fun v => [some v]) (fun k acc H' => H' = H ∧ acc = ((xs.take k).filter q).map f) (fun v _ => env_one rfl) (by simpa using hsz) ⟨rfl, rfl⟩ ?_ ?_
  · rintro k v acc H' hv ⟨rfl, rfl⟩
    rw [List.getElem?_map] at hv
    cases hx : xs[k]? with
    | none => rw [hx] at hv; simp at hv
    | some x =>
      rw [hx] at hv
      have hv : g x = v := by simpa using hv
      subst hv
      have hm : x ∈ xs := List.mem_of_getElem? hx
      have ht : xs.take (k + 1) = xs.take k ++ [x] := by rw [List.take_add_one, hx]; rfl
      refine step x hm _ ?_
      cases hq : q x with
      | false => rw [wIf_f]; exact ⟨hst _, rfl, by rw [ht]; simp [hq]⟩
      | true =>
        rw [wIf_t]
        exact selt x hm hq _ ⟨hst _, rfl, by rw [ht]; simp [hq]⟩
  · rintro acc H' _ ⟨rfl, rfl⟩
    rw [List.length_map, List.take_length]; exact fin
theorem slice_map {α β : Type} (f : α → β) (l : List α) (lo hi : Option Int) : pySlice (l.map f) lo hi = (pySlice l lo hi).map f := by
  unfold pySlice; rw [List.length_map, List.map_drop, List.map_take]
theorem slice_mem {α : Type} {l : List α} {lo hi : Option Int} {x : α} (h : x ∈ pySlice l lo hi) : x ∈ l := List.mem_of_mem_take (List.mem_of_mem_drop h)
theorem slice_len {α : Type} (l : List α) (lo hi : Option Int) : (pySlice l lo hi).length ≤ l.length := by
  unfold pySlice; rw [List.length_drop, List.length_take]; omega
theorem in_ints {scr : List Int} {H : Hp} {y : V} {es : List Int} (j : Int) (hi : itemsOf scr H y = some (es.map .int)) : inV scr H (.int j) y = some (decide (j ∈ es)) := by
  have h : ∀ es : List Int, rdL (rd scr 10 H) (es.map .int) = some (es.map PyData.int) := by
    intro es; induction es with
    | nil => rfl
    | cons a r ih => rw [List.map_cons, rdL, ih]; rfl
  have h2 : ∀ es : List Int, ((es.map PyData.int).any fun e => PyData.eqv e (.int j)) = decide (j ∈ es) := by
    intro es; induction es with
    | nil => simp
    | cons a r ih =>
      rw [List.map_cons, List.any_cons, ih]
      by_cases e : a = j
      · subst e; rw [show PyData.eqv (.int a) (.int a) = true from beq_self_eq_true a]; simp
      · have : ¬ j = a := fun h => e h.symm
        rw [show PyData.eqv (.int a) (.int j) = false from beq_false_of_ne e]; simp [this]
  unfold inV; simp only [hi, h, rd, h2]
theorem in_lst {scr : List Int} {H : Hp} {l : Nat} {es : List Int} (j : Int) (h : H[l]? = some (.list (es.map .int))) : cmpV scr .isIn (.int j) (.ref l) H = some (decide (j ∈ es)) := by
  rw [cmpV]; exact in_ints j (itemsOf_lst _ _ h)
theorem notin_lst {scr : List Int} {H : Hp} {l : Nat} {es : List Int} (j : Int) (h : H[l]? = some (.list (es.map .int))) : cmpV scr .notIn (.int j) (.ref l) H = some (!decide (j ∈ es)) := by
  rw [cmpV, in_ints j (itemsOf_lst _ _ h)]; rfl
theorem in_tup {scr : List Int} {H : Hp} {es : List Int} (j : Int) : cmpV scr .isIn (.int j) (.tup (es.map .int)) H = some (decide (j ∈ es)) := by
  rw [cmpV]; exact in_ints j rfl

/-- a person of the roll -/
structure Per where
  born : Int
  par : List Int
  ad : Option (Int × List Int)
  died : Option Int
noncomputable def adV : Option (Int × List Int) → V
  | none => .none
  | some (d, ls) => .tup [.int d, .tup (ls.map .int)]
noncomputable def diV : Option Int → V
  | none => .none
  | some d => .int d
noncomputable def perV (p : Per) : V := .tup [.int p.born, .tup (p.par.map .int), adV p.ad, diV p.died]
theorem perV_plain (p : Per) : plain 8 (perV p) = true := by
  have h : ∀ (es : List Int) n, (es.map V.int).all (plain n) = true := by
    intro es n; induction es with
    | nil => rfl
    | cons a r ih => rw [List.map_cons, List.all_cons, ih]; cases n <;> rfl
  unfold perV
  cases hp : p.ad with
  | none => cases p.died <;> simp [plain, adV, diV, h]
  | some a => obtain ⟨d, ls⟩ := a; cases p.died <;> simp [plain, adV, diV, h]
theorem per_at {ps : List Per} {k : Int} (h0 : 0 ≤ k) (h1 : k < ps.length) : ∃ p, seqAt (ps.map perV) k = some (perV p) ∧ ps[k.toNat]? = some p := by
  have hk : k.toNat < ps.length := by omega
  refine ⟨ps[k.toNat], ?_, by simp [hk]⟩
  unfold seqAt; rw [if_pos h0]; simp [hk]
theorem per_at' {ps : List Per} {k : Int} {p : Per} (h0 : 0 ≤ k) (h : ps[k.toNat]? = some p) : seqAt (ps.map perV) k = some (perV p) := by
  unfold seqAt; rw [if_pos h0, List.getElem?_map, h]; rfl
end Mine

end
section
set_option autoImplicit false
set_option linter.unusedVariables false
set_option linter.unusedSimpArgs false
set_option maxRecDepth 100000
namespace Mine.P
open PySem
variable (scr : List Int)
noncomputable def WfP (ps : List Per) : Prop := ∀ (k : Nat) p, ps[k]? = some p → 0 ≤ p.born ∧ p.par.length ≤ 2
theorem WfP.app {ps : List Per} {p : Per} (h : WfP ps) (h1 : 0 ≤ p.born) (h2 : p.par.length ≤ 2) : WfP (ps ++ [p]) := by
  intro k q hq
  rcases Nat.lt_or_ge k ps.length with hi | hi
  · rw [List.getElem?_append_left hi] at hq; exact h k q hq
  · rw [List.getElem?_append_right hi] at hq
    have : q ∈ [p] := List.mem_of_getElem? hq
    rw [List.mem_singleton.mp this]; exact ⟨h1, h2⟩
noncomputable def houseP : List (List Int) := [[], [], [1, 0], [1, 0], [2], [3], [], [5], [3], [1], [], [2]]
noncomputable def houseV : List V := houseP.map fun l => .tup (l.map .int)
theorem house_at (k : Nat) (h : k < 12) : ∃ ls : List Int, seqAt houseV (k : Int) = some (.tup (ls.map .int)) ∧ ls.length ≤ 2 := by
  have : ∀ k : _root_.Fin 12, ∃ ls : List Int, houseP[k.val]? = some ls ∧ ls.length ≤ 2 := by
    intro k
    refine ⟨houseP[k.val]'(by exact k.isLt), List.getElem?_eq_getElem _, ?_⟩
    revert k; decide
  obtain ⟨ls, h1, h2⟩ := this ⟨k, h⟩
  refine ⟨ls, ?_, h2⟩
  unfold seqAt
  rw [if_pos (Int.natCast_nonneg k), Int.toNat_natCast]
  show (houseP.map _)[k]? = _
  rw [List.getElem?_map, h1]; rfl
theorem mul_pos' {a sc : Int} (h : 0 ≤ a) (hsc : sc = 1 ∨ sc = 600) : 0 ≤ a * sc := Int.mul_nonneg h (by rcases hsc with h | h <;> rw [h] <;> decide)
theorem enum_int {xs : List Int} {k : Nat} {v : V} (hv : (enumV 0 (xs.map V.int))[k]? = some v) : ∃ x, xs[k]? = some x ∧ v = .tup [.int (k : Int), .int x] := by
  obtain ⟨w, hw, rfl⟩ := enum_get hv
  rw [List.getElem?_map] at hw
  cases hx : xs[k]? with
  | none => rw [hx] at hw; simp at hw
  | some x =>
    rw [hx] at hw
    have hw : V.int x = w := by simpa using hw
    exact ⟨x, rfl, by rw [← hw]; simp⟩
/-- those born ahead -/
noncomputable def bornAt (ps : List Per) (j : Int) : Int := match ps[j.toNat]? with | some p => p.born | none => 0

theorem w_people (n : Nat) (c m : Int) (H : Hp) (h0 : 0 ≤ m) (h1 : m ≤ 60) : Wp (callF scr pgks pfns (n + 2) i_law_people [.int c, .int m] H) fun v H' =>
    ∃ (l : Nat) (ps : List Per), v = .ref l ∧ Kept H.length H H' ∧ H'[l]? = some (.list (ps.map perV)) ∧ ps.length = m.toNat ∧ WfP ps := by
  rw [c_law_people, Wp_end]
  refine WSs.sound _ ?_
  unfold pb_law_people
  refine cut 3 (fun ρ' H' => ∃ (sc : Int) (lh : Nat), ρ' = [some (.int c), some (.int m), some (.ref H.length), some (.int sc), some (.ref lh), none, none, none, none, none, none] ∧ (sc = 1 ∨ sc = 600) ∧ H'[H.length]? = some (.list []) ∧ H'[lh]? = some (.list houseV) ∧ H.length < lh ∧ Kept H.length H H') ?_ ?_
  · have hs : ∃ sc : Int, seqAt [V.int 1, V.int 1, V.int 1, V.int 600] (c % 4) = some (.int sc) ∧ (sc = 1 ∨ sc = 600) := by
      have : c % 4 = 0 ∨ c % 4 = 1 ∨ c % 4 = 2 ∨ c % 4 = 3 := by omega
      rcases this with h | h | h | h <;> rw [h]
      · exact ⟨1, rfl, .inl rfl⟩
      · exact ⟨1, rfl, .inl rfl⟩
      · exact ⟨1, rfl, .inl rfl⟩
      · exact ⟨600, rfl, .inr rfl⟩
    obtain ⟨sc, hs, hsc⟩ := hs
    try simp (disch := first | decide | omega) only [↓ed00, ↓ed01, ↓ed03, ↓ed04, ↓ed05, ↓ed06, ↓ed07, ↓ed08, ↓ed09, ↓ed10, ↓ed11, ↓ed12, ↓ed13, ↓ed14, ↓ed15, ↓ed16, ↓ed17, ↓ed18, ↓ed19, ↓ed20, ↓ed21, ↓ed23, ↓ed24, ↓ed25, ↓ed26, ↓ed27, ↓ed28, ↓ed29, ↓ed30, ↓ed31, ↓ed32, ↓ed33, ↓ed34, ↓ed35, ↓ed36, ↓ed37, ↓ed38, ↓ed39, ↓ed40, ↓ed41, ↓ed42, ↓ed46, ↓ed47, eu00, eu01, eu02, eu03, eu04, eu05, eu06, eu09, eu10, eu11, eu14, eu15, eu18, eu19, eu20, eu21, eu22, eu23, eu24, eu25, eu26, eu27, eu28, eu29, eu30, eu31, eu32, eu33, eu34, eu35, eu36, eu37, eu38, eu39, eu40, eu41, eu42, eu43, eu44, eu46, eu47, eu48, eu49, eu50, eu51, eo00, eo01, eo02, eo03, eo04, eo05, eo06, eo07, eo08, eo09, eo10, eo11, eo12, eo13, eo14, eo15, eo16, eo17, Nat.reduceAdd, Nat.reduceLT, if_true, Bool.false_eq_true, reduceIte, Nat.zero_add, Nat.succ_eq_add_one, Int.reduceNeg, beq_self_eq_true, idx_lst _ _ _ (at_new _ _), hs]
    exact ⟨sc, _, rfl, hsc, at_app _ (at_app _ (at_new _ _)), at_new _ _, by simp, (((Kept.app _ _).tr (Kept.app _ _)).tr (Kept.app _ _))⟩
  · rintro ρ' H₁ ⟨sc, lh, rfl, hsc, hP, hH, hlh, hF⟩
    have hs1 : -18446744073709551616 < sc := by omega
    have hs2 : sc < 18446744073709551616 := by omega
    simp only [List.drop_succ_cons, List.drop_zero]
    try simp (disch := first | decide | omega) only [↓ed00, ↓ed01, ↓ed03, ↓ed04, ↓ed05, ↓ed06, ↓ed07, ↓ed08, ↓ed09, ↓ed10, ↓ed11, ↓ed12, ↓ed13, ↓ed14, ↓ed15, ↓ed16, ↓ed17, ↓ed18, ↓ed19, ↓ed20, ↓ed21, ↓ed23, ↓ed24, ↓ed25, ↓ed26, ↓ed27, ↓ed28, ↓ed29, ↓ed30, ↓ed31, ↓ed32, ↓ed33, ↓ed34, ↓ed35, ↓ed36, ↓ed37, ↓ed38, ↓ed39, ↓ed40, ↓ed41, ↓ed42, ↓ed46, ↓ed47, eu00, eu01, eu02, eu03, eu04, eu05, eu06, eu09, eu10, eu11, eu14, eu15, eu18, eu19, eu20, eu21, eu22, eu23, eu24, eu25, eu26, eu27, eu28, eu29, eu30, eu31, eu32, eu33, eu34, eu35, eu36, eu37, eu38, eu39, eu40, eu41, eu42, eu43, eu44, eu46, eu47, eu48, eu49, eu50, eu51, eo00, eo01, eo02, eo03, eo04, eo05, eo06, eo07, eo08, eo09, eo10, eo11, eo12, eo13, eo14, eo15, eo16, eo17, Nat.reduceAdd, Nat.reduceLT, if_true, Bool.false_eq_true, reduceIte, Nat.zero_add, Nat.succ_eq_add_one, Int.reduceNeg, beq_self_eq_true]
    refine call_of (w_stream scr n (c / 4) m H₁ h0 (by omega)) ?_
    rintro v H₂ ⟨ls, xs, rfl, hls, hF2, hX, hxl, hxr⟩
    have hlsne : H.length ≠ ls := Nat.ne_of_lt (Nat.lt_of_lt_of_le (at_lt hP) hls)
    have hlhne : H.length ≠ lh := Nat.ne_of_lt hlh
    try simp (disch := first | decide | omega) only [↓ed00, ↓ed01, ↓ed03, ↓ed04, ↓ed05, ↓ed06, ↓ed07, ↓ed08, ↓ed09, ↓ed10, ↓ed11, ↓ed12, ↓ed13, ↓ed14, ↓ed15, ↓ed16, ↓ed17, ↓ed18, ↓ed19, ↓ed20, ↓ed21, ↓ed23, ↓ed24, ↓ed25, ↓ed26, ↓ed27, ↓ed28, ↓ed29, ↓ed30, ↓ed31, ↓ed32, ↓ed33, ↓ed34, ↓ed35, ↓ed36, ↓ed37, ↓ed38, ↓ed39, ↓ed40, ↓ed41, ↓ed42, ↓ed46, ↓ed47, eu00, eu01, eu02, eu03, eu04, eu05, eu06, eu09, eu10, eu11, eu14, eu15, eu18, eu19, eu20, eu21, eu22, eu23, eu24, eu25, eu26, eu27, eu28, eu29, eu30, eu31, eu32, eu33, eu34, eu35, eu36, eu37, eu38, eu39, eu40, eu41, eu42, eu43, eu44, eu46, eu47, eu48, eu49, eu50, eu51, eo00, eo01, eo02, eo03, eo04, eo05, eo06, eo07, eo08, eo09, eo10, eo11, eo12, eo13, eo14, eo15, eo16, eo17, Nat.reduceAdd, Nat.reduceLT, if_true, Bool.false_eq_true, reduceIte, Nat.zero_add, Nat.succ_eq_add_one, Int.reduceNeg, beq_self_eq_true, lstOf_lst _ _ hX]
    refine for_inv (fun k ρ H' => ∃ (ps : List Per) (t : Env'), ρ = some (.int c) :: some (.int m) :: some (.ref H.length) :: some (.int sc) :: some (.ref lh) :: t ∧ t.length = 6 ∧ Kept H.length H H' ∧ H'[H.length]? = some (.list (ps.map perV)) ∧ H'[lh]? = some (.list houseV) ∧ H'[ls]? = some (.list (xs.map .int)) ∧ ps.length = k ∧ WfP ps) ?_ ?_ ?_
    · exact ⟨[], _, rfl, rfl, hF.tr hF2, hF2.at' hP, hF2.at' hH, hX, rfl, fun k p h => by simp at h⟩
    · rintro k v ρ Hk hv ⟨ps, t, rfl, ht, hFk, hPk, hHk, hXk, hl, hW⟩
      obtain ⟨x, hx, rfl⟩ := enum_int hv
      have hkx := (List.getElem?_eq_some_iff.mp hx).1
      obtain ⟨hx0, hx1⟩ := hxr x (List.mem_of_getElem? hx)
      match t, ht with
      | [oa, ob, od, oe, of, og], _ =>
      have hb0 : 0 ≤ (5 * ((k : Int) / 3) + x % 11) * sc := mul_pos' (by omega) hsc
      have hb1 : 0 ≤ (12 * ((k : Int) / 2) + x % 11) * sc := mul_pos' (by omega) hsc
      simp only [wSome_some, asg_var, asg_tup, asgs_cons, asgs_nil, Option.bind_some, List.set_cons_succ, List.set_cons_zero, List.length_cons, List.length_nil, Nat.reduceAdd, Nat.reduceLT, reduceIte, Nat.zero_add, Nat.succ_eq_add_one, List.take_succ_cons, List.take_zero, List.drop_succ_cons, List.drop_zero]
      refine cut 3 (fun ρ' H' => ∃ (b : Int) (le : Nat) (es pl : List Int), ρ' = [some (.int c), some (.int m), some (.ref H.length), some (.int sc), some (.ref lh), some (.int k), some (.int x), some (.int b), some (.ref le), some (.tup (pl.map .int)), og] ∧ 0 ≤ b ∧ Kept Hk.length Hk H' ∧ H'[le]? = some (.list (es.map .int)) ∧ pl.length ≤ 2) ?_ ?_
      · try simp (disch := first | decide | omega) only [↓ed00, ↓ed01, ↓ed03, ↓ed04, ↓ed05, ↓ed06, ↓ed07, ↓ed08, ↓ed09, ↓ed10, ↓ed11, ↓ed12, ↓ed13, ↓ed14, ↓ed15, ↓ed16, ↓ed17, ↓ed18, ↓ed19, ↓ed20, ↓ed21, ↓ed23, ↓ed24, ↓ed25, ↓ed26, ↓ed27, ↓ed28, ↓ed29, ↓ed30, ↓ed31, ↓ed32, ↓ed33, ↓ed34, ↓ed35, ↓ed36, ↓ed37, ↓ed38, ↓ed39, ↓ed40, ↓ed41, ↓ed42, ↓ed46, ↓ed47, eu00, eu01, eu02, eu03, eu04, eu05, eu06, eu09, eu10, eu11, eu14, eu15, eu18, eu19, eu20, eu21, eu22, eu23, eu24, eu25, eu26, eu27, eu28, eu29, eu30, eu31, eu32, eu33, eu34, eu35, eu36, eu37, eu38, eu39, eu40, eu41, eu42, eu43, eu44, eu46, eu47, eu48, eu49, eu50, eu51, eo00, eo01, eo02, eo03, eo04, eo05, eo06, eo07, eo08, eo09, eo10, eo11, eo12, eo13, eo14, eo15, eo16, eo17, Nat.reduceAdd, Nat.reduceLT, if_true, Bool.false_eq_true, reduceIte, Nat.zero_add, Nat.succ_eq_add_one, Int.reduceNeg, beq_self_eq_true, range_ints]
        generalize (5 * ((k : Int) / 3) + x % 11) * sc = b at hb0 ⊢
        refine comp_filt (fun j => decide (bornAt ps j < b)) (by rw [ints_len]; omega) ?_ ?_
        · intro j hj Q hQ
          obtain ⟨hj0, hj1⟩ := mem_ints hj
          obtain ⟨p, hp, hp'⟩ := per_at (ps := ps) (k := j) hj0 (by omega)
          have e : bornAt ps j = p.born := by unfold bornAt; rw [hp']
          rw [e] at hQ
          try simp (disch := first | decide | omega) only [↓ed00, ↓ed01, ↓ed03, ↓ed04, ↓ed05, ↓ed06, ↓ed07, ↓ed08, ↓ed09, ↓ed10, ↓ed11, ↓ed12, ↓ed13, ↓ed14, ↓ed15, ↓ed16, ↓ed17, ↓ed18, ↓ed19, ↓ed20, ↓ed21, ↓ed23, ↓ed24, ↓ed25, ↓ed26, ↓ed27, ↓ed28, ↓ed29, ↓ed30, ↓ed31, ↓ed32, ↓ed33, ↓ed34, ↓ed35, ↓ed36, ↓ed37, ↓ed38, ↓ed39, ↓ed40, ↓ed41, ↓ed42, ↓ed46, ↓ed47, eu00, eu01, eu02, eu03, eu04, eu05, eu06, eu09, eu10, eu11, eu14, eu15, eu18, eu19, eu20, eu21, eu22, eu23, eu24, eu25, eu26, eu27, eu28, eu29, eu30, eu31, eu32, eu33, eu34, eu35, eu36, eu37, eu38, eu39, eu40, eu41, eu42, eu43, eu44, eu46, eu47, eu48, eu49, eu50, eu51, eo00, eo01, eo02, eo03, eo04, eo05, eo06, eo07, eo08, eo09, eo10, eo11, eo12, eo13, eo14, eo15, eo16, eo17, Nat.reduceAdd, Nat.reduceLT, if_true, Bool.false_eq_true, reduceIte, Nat.zero_add, Nat.succ_eq_add_one, Int.reduceNeg, beq_self_eq_true, idx_lst _ _ _ hPk, hp, perV]
          exact wIf_q _ hQ
        · generalize hes : (iseq 0 (k : Int)).filter _ = es
          have hel : es.length ≤ (iseq 0 (k : Int)).length := by rw [← hes]; exact List.length_filter_le _ _
          rw [ints_len] at hel
          have hE := at_new Hk (.list (es.map .int))
          have hsl := slice_len es (some (-7)) none
          have hsz : ((pySlice es (some (-7)) none).map V.int).length < 1000000 := by rw [List.length_map]; omega
          try simp (disch := first | decide | omega) only [↓ed00, ↓ed01, ↓ed03, ↓ed04, ↓ed05, ↓ed06, ↓ed07, ↓ed08, ↓ed09, ↓ed10, ↓ed11, ↓ed12, ↓ed13, ↓ed14, ↓ed15, ↓ed16, ↓ed17, ↓ed18, ↓ed19, ↓ed20, ↓ed21, ↓ed23, ↓ed24, ↓ed25, ↓ed26, ↓ed27, ↓ed28, ↓ed29, ↓ed30, ↓ed31, ↓ed32, ↓ed33, ↓ed34, ↓ed35, ↓ed36, ↓ed37, ↓ed38, ↓ed39, ↓ed40, ↓ed41, ↓ed42, ↓ed46, ↓ed47, eu00, eu01, eu02, eu03, eu04, eu05, eu06, eu09, eu10, eu11, eu14, eu15, eu18, eu19, eu20, eu21, eu22, eu23, eu24, eu25, eu26, eu27, eu28, eu29, eu30, eu31, eu32, eu33, eu34, eu35, eu36, eu37, eu38, eu39, eu40, eu41, eu42, eu43, eu44, eu46, eu47, eu48, eu49, eu50, eu51, eo00, eo01, eo02, eo03, eo04, eo05, eo06, eo07, eo08, eo09, eo10, eo11, eo12, eo13, eo14, eo15, eo16, eo17, Nat.reduceAdd, Nat.reduceLT, if_true, Bool.false_eq_true, reduceIte, Nat.zero_add, Nat.succ_eq_add_one, Int.reduceNeg, beq_self_eq_true, WSlc_lst _ _ _ (.int (-7)) .none hE (l := some (-7)) (h := none) (by rfl) (by rfl), slice_map, WAllocL_ok _ _ _ hsz]
          refine call_of (w_some scr n _ (x / 11) 0 _ (pySlice es (some (-7)) none) (at_new _ _)) ?_
          rintro v H' ⟨pl, rfl, hF', _, _, hpl, _⟩
          try simp (disch := first | decide | omega) only [↓ed00, ↓ed01, ↓ed03, ↓ed04, ↓ed05, ↓ed06, ↓ed07, ↓ed08, ↓ed09, ↓ed10, ↓ed11, ↓ed12, ↓ed13, ↓ed14, ↓ed15, ↓ed16, ↓ed17, ↓ed18, ↓ed19, ↓ed20, ↓ed21, ↓ed23, ↓ed24, ↓ed25, ↓ed26, ↓ed27, ↓ed28, ↓ed29, ↓ed30, ↓ed31, ↓ed32, ↓ed33, ↓ed34, ↓ed35, ↓ed36, ↓ed37, ↓ed38, ↓ed39, ↓ed40, ↓ed41, ↓ed42, ↓ed46, ↓ed47, eu00, eu01, eu02, eu03, eu04, eu05, eu06, eu09, eu10, eu11, eu14, eu15, eu18, eu19, eu20, eu21, eu22, eu23, eu24, eu25, eu26, eu27, eu28, eu29, eu30, eu31, eu32, eu33, eu34, eu35, eu36, eu37, eu38, eu39, eu40, eu41, eu42, eu43, eu44, eu46, eu47, eu48, eu49, eu50, eu51, eo00, eo01, eo02, eo03, eo04, eo05, eo06, eo07, eo08, eo09, eo10, eo11, eo12, eo13, eo14, eo15, eo16, eo17, Nat.reduceAdd, Nat.reduceLT, if_true, Bool.false_eq_true, reduceIte, Nat.zero_add, Nat.succ_eq_add_one, Int.reduceNeg, beq_self_eq_true]
          exact ⟨b, _, es, pl, rfl, hb0, ((Kept.app _ _).tr (Kept.app _ _)).tr hF', hF'.at' (at_app _ hE), hpl⟩
      · rintro ρ' Hm ⟨b, le, es, pl, rfl, hb, hFm, hEm, hpl⟩
        simp only [List.drop_succ_cons, List.drop_zero]
        refine cut 1 (fun ρ' H' => ∃ pl : List Int, ρ' = [some (.int c), some (.int m), some (.ref H.length), some (.int sc), some (.ref lh), some (.int k), some (.int x), some (.int b), some (.ref le), some (.tup (pl.map .int)), og] ∧ Kept Hk.length Hk H' ∧ pl.length ≤ 2) ?_ ?_
        · have hPm := hFm.at' hPk
          simp only [List.take_succ_cons, List.take_zero]
          refine if_cut (fun b H' => Kept Hk.length Hk H' ∧ (b = true → 0 < k)) ?_ ?_ ?_
          · try simp (disch := first | decide | omega) only [↓ed00, ↓ed01, ↓ed03, ↓ed04, ↓ed05, ↓ed06, ↓ed07, ↓ed08, ↓ed09, ↓ed10, ↓ed11, ↓ed12, ↓ed13, ↓ed14, ↓ed15, ↓ed16, ↓ed17, ↓ed18, ↓ed19, ↓ed20, ↓ed21, ↓ed23, ↓ed24, ↓ed25, ↓ed26, ↓ed27, ↓ed28, ↓ed29, ↓ed30, ↓ed31, ↓ed32, ↓ed33, ↓ed34, ↓ed35, ↓ed36, ↓ed37, ↓ed38, ↓ed39, ↓ed40, ↓ed41, ↓ed42, ↓ed46, ↓ed47, eu00, eu01, eu02, eu03, eu04, eu05, eu06, eu09, eu10, eu11, eu14, eu15, eu18, eu19, eu20, eu21, eu22, eu23, eu24, eu25, eu26, eu27, eu28, eu29, eu30, eu31, eu32, eu33, eu34, eu35, eu36, eu37, eu38, eu39, eu40, eu41, eu42, eu43, eu44, eu46, eu47, eu48, eu49, eu50, eu51, eo00, eo01, eo02, eo03, eo04, eo05, eo06, eo07, eo08, eo09, eo10, eo11, eo12, eo13, eo14, eo15, eo16, eo17, Nat.reduceAdd, Nat.reduceLT, if_true, Bool.false_eq_true, reduceIte, Nat.zero_add, Nat.succ_eq_add_one, Int.reduceNeg, beq_self_eq_true]
            refine wIf_split ?_ ?_
            · intro hk0
              have hk0 : 0 < k := by simpa using hk0
              refine wIf_split ?_ ?_
              · intro _
                obtain ⟨p, hp, hp'⟩ := per_at (ps := ps) (k := (k : Int) - 1) (by omega) (by omega)
                try simp (disch := first | decide | omega) only [↓ed00, ↓ed01, ↓ed03, ↓ed04, ↓ed05, ↓ed06, ↓ed07, ↓ed08, ↓ed09, ↓ed10, ↓ed11, ↓ed12, ↓ed13, ↓ed14, ↓ed15, ↓ed16, ↓ed17, ↓ed18, ↓ed19, ↓ed20, ↓ed21, ↓ed23, ↓ed24, ↓ed25, ↓ed26, ↓ed27, ↓ed28, ↓ed29, ↓ed30, ↓ed31, ↓ed32, ↓ed33, ↓ed34, ↓ed35, ↓ed36, ↓ed37, ↓ed38, ↓ed39, ↓ed40, ↓ed41, ↓ed42, ↓ed46, ↓ed47, eu00, eu01, eu02, eu03, eu04, eu05, eu06, eu09, eu10, eu11, eu14, eu15, eu18, eu19, eu20, eu21, eu22, eu23, eu24, eu25, eu26, eu27, eu28, eu29, eu30, eu31, eu32, eu33, eu34, eu35, eu36, eu37, eu38, eu39, eu40, eu41, eu42, eu43, eu44, eu46, eu47, eu48, eu49, eu50, eu51, eo00, eo01, eo02, eo03, eo04, eo05, eo06, eo07, eo08, eo09, eo10, eo11, eo12, eo13, eo14, eo15, eo16, eo17, Nat.reduceAdd, Nat.reduceLT, if_true, Bool.false_eq_true, reduceIte, Nat.zero_add, Nat.succ_eq_add_one, Int.reduceNeg, beq_self_eq_true, idx_lst _ _ _ hPm, hp, perV]
                refine comp_filt (fun j => !decide (j ∈ es)) (Nat.lt_of_le_of_lt (hW _ _ hp').2 (by decide)) ?_ ?_
                · intro j hj Q hQ
                  try simp (disch := first | decide | omega) only [↓ed00, ↓ed01, ↓ed03, ↓ed04, ↓ed05, ↓ed06, ↓ed07, ↓ed08, ↓ed09, ↓ed10, ↓ed11, ↓ed12, ↓ed13, ↓ed14, ↓ed15, ↓ed16, ↓ed17, ↓ed18, ↓ed19, ↓ed20, ↓ed21, ↓ed23, ↓ed24, ↓ed25, ↓ed26, ↓ed27, ↓ed28, ↓ed29, ↓ed30, ↓ed31, ↓ed32, ↓ed33, ↓ed34, ↓ed35, ↓ed36, ↓ed37, ↓ed38, ↓ed39, ↓ed40, ↓ed41, ↓ed42, ↓ed46, ↓ed47, eu00, eu01, eu02, eu03, eu04, eu05, eu06, eu09, eu10, eu11, eu14, eu15, eu18, eu19, eu20, eu21, eu22, eu23, eu24, eu25, eu26, eu27, eu28, eu29, eu30, eu31, eu32, eu33, eu34, eu35, eu36, eu37, eu38, eu39, eu40, eu41, eu42, eu43, eu44, eu46, eu47, eu48, eu49, eu50, eu51, eo00, eo01, eo02, eo03, eo04, eo05, eo06, eo07, eo08, eo09, eo10, eo11, eo12, eo13, eo14, eo15, eo16, eo17, Nat.reduceAdd, Nat.reduceLT, if_true, Bool.false_eq_true, reduceIte, Nat.zero_add, Nat.succ_eq_add_one, Int.reduceNeg, beq_self_eq_true, notin_lst _ hEm]
                  exact wIf_q _ hQ
                · try simp (disch := first | decide | omega) only [↓ed00, ↓ed01, ↓ed03, ↓ed04, ↓ed05, ↓ed06, ↓ed07, ↓ed08, ↓ed09, ↓ed10, ↓ed11, ↓ed12, ↓ed13, ↓ed14, ↓ed15, ↓ed16, ↓ed17, ↓ed18, ↓ed19, ↓ed20, ↓ed21, ↓ed23, ↓ed24, ↓ed25, ↓ed26, ↓ed27, ↓ed28, ↓ed29, ↓ed30, ↓ed31, ↓ed32, ↓ed33, ↓ed34, ↓ed35, ↓ed36, ↓ed37, ↓ed38, ↓ed39, ↓ed40, ↓ed41, ↓ed42, ↓ed46, ↓ed47, eu00, eu01, eu02, eu03, eu04, eu05, eu06, eu09, eu10, eu11, eu14, eu15, eu18, eu19, eu20, eu21, eu22, eu23, eu24, eu25, eu26, eu27, eu28, eu29, eu30, eu31, eu32, eu33, eu34, eu35, eu36, eu37, eu38, eu39, eu40, eu41, eu42, eu43, eu44, eu46, eu47, eu48, eu49, eu50, eu51, eo00, eo01, eo02, eo03, eo04, eo05, eo06, eo07, eo08, eo09, eo10, eo11, eo12, eo13, eo14, eo15, eo16, eo17, Nat.reduceAdd, Nat.reduceLT, if_true, Bool.false_eq_true, reduceIte, Nat.zero_add, Nat.succ_eq_add_one, Int.reduceNeg, beq_self_eq_true, cmp_eq_empty (at_new _ _) (plain_ints _ 8)]
                  exact ⟨(hFm.tr (Kept.app _ _)).tr (Kept.app _ _), fun _ => hk0⟩
              · intro h
                rw [h]
                exact ⟨hFm, fun h => by cases h⟩
            · intro h
              rw [h]
              exact ⟨hFm, fun h => by cases h⟩
          · rintro H' ⟨hF', h⟩
            have hk0 := h rfl
            obtain ⟨p, hp, hp'⟩ := per_at (ps := ps) (k := (k : Int) - 1) (by omega) (by omega)
            try simp (disch := first | decide | omega) only [↓ed00, ↓ed01, ↓ed03, ↓ed04, ↓ed05, ↓ed06, ↓ed07, ↓ed08, ↓ed09, ↓ed10, ↓ed11, ↓ed12, ↓ed13, ↓ed14, ↓ed15, ↓ed16, ↓ed17, ↓ed18, ↓ed19, ↓ed20, ↓ed21, ↓ed23, ↓ed24, ↓ed25, ↓ed26, ↓ed27, ↓ed28, ↓ed29, ↓ed30, ↓ed31, ↓ed32, ↓ed33, ↓ed34, ↓ed35, ↓ed36, ↓ed37, ↓ed38, ↓ed39, ↓ed40, ↓ed41, ↓ed42, ↓ed46, ↓ed47, eu00, eu01, eu02, eu03, eu04, eu05, eu06, eu09, eu10, eu11, eu14, eu15, eu18, eu19, eu20, eu21, eu22, eu23, eu24, eu25, eu26, eu27, eu28, eu29, eu30, eu31, eu32, eu33, eu34, eu35, eu36, eu37, eu38, eu39, eu40, eu41, eu42, eu43, eu44, eu46, eu47, eu48, eu49, eu50, eu51, eo00, eo01, eo02, eo03, eo04, eo05, eo06, eo07, eo08, eo09, eo10, eo11, eo12, eo13, eo14, eo15, eo16, eo17, Nat.reduceAdd, Nat.reduceLT, if_true, Bool.false_eq_true, reduceIte, Nat.zero_add, Nat.succ_eq_add_one, Int.reduceNeg, beq_self_eq_true, idx_lst _ _ _ (hF'.at' hPk), hp, perV]
            exact ⟨p.par, by simp, hF', (hW _ _ hp').2⟩
          · rintro H' ⟨hF', _⟩
            try simp (disch := first | decide | omega) only [↓ed00, ↓ed01, ↓ed03, ↓ed04, ↓ed05, ↓ed06, ↓ed07, ↓ed08, ↓ed09, ↓ed10, ↓ed11, ↓ed12, ↓ed13, ↓ed14, ↓ed15, ↓ed16, ↓ed17, ↓ed18, ↓ed19, ↓ed20, ↓ed21, ↓ed23, ↓ed24, ↓ed25, ↓ed26, ↓ed27, ↓ed28, ↓ed29, ↓ed30, ↓ed31, ↓ed32, ↓ed33, ↓ed34, ↓ed35, ↓ed36, ↓ed37, ↓ed38, ↓ed39, ↓ed40, ↓ed41, ↓ed42, ↓ed46, ↓ed47, eu00, eu01, eu02, eu03, eu04, eu05, eu06, eu09, eu10, eu11, eu14, eu15, eu18, eu19, eu20, eu21, eu22, eu23, eu24, eu25, eu26, eu27, eu28, eu29, eu30, eu31, eu32, eu33, eu34, eu35, eu36, eu37, eu38, eu39, eu40, eu41, eu42, eu43, eu44, eu46, eu47, eu48, eu49, eu50, eu51, eo00, eo01, eo02, eo03, eo04, eo05, eo06, eo07, eo08, eo09, eo10, eo11, eo12, eo13, eo14, eo15, eo16, eo17, Nat.reduceAdd, Nat.reduceLT, if_true, Bool.false_eq_true, reduceIte, Nat.zero_add, Nat.succ_eq_add_one, Int.reduceNeg, beq_self_eq_true]
            exact ⟨pl, by simp, hF', hpl⟩
        · clear hFm hEm hpl
          rintro ρ' Hm ⟨pl, rfl, hFm, hpl⟩
          simp only [List.drop_succ_cons, List.drop_zero]
          refine cut 1 (fun ρ' H' => ∃ (b : Int) (pl : List Int), ρ' = [some (.int c), some (.int m), some (.ref H.length), some (.int sc), some (.ref lh), some (.int k), some (.int x), some (.int b), some (.ref le), some (.tup (pl.map .int)), og] ∧ H' = Hm ∧ 0 ≤ b ∧ pl.length ≤ 2) ?_ ?_
          · refine if_cut (fun b H' => H' = Hm ∧ (b = true → k < 12)) ?_ ?_ ?_
            · try simp (disch := first | decide | omega) only [↓ed00, ↓ed01, ↓ed03, ↓ed04, ↓ed05, ↓ed06, ↓ed07, ↓ed08, ↓ed09, ↓ed10, ↓ed11, ↓ed12, ↓ed13, ↓ed14, ↓ed15, ↓ed16, ↓ed17, ↓ed18, ↓ed19, ↓ed20, ↓ed21, ↓ed23, ↓ed24, ↓ed25, ↓ed26, ↓ed27, ↓ed28, ↓ed29, ↓ed30, ↓ed31, ↓ed32, ↓ed33, ↓ed34, ↓ed35, ↓ed36, ↓ed37, ↓ed38, ↓ed39, ↓ed40, ↓ed41, ↓ed42, ↓ed46, ↓ed47, eu00, eu01, eu02, eu03, eu04, eu05, eu06, eu09, eu10, eu11, eu14, eu15, eu18, eu19, eu20, eu21, eu22, eu23, eu24, eu25, eu26, eu27, eu28, eu29, eu30, eu31, eu32, eu33, eu34, eu35, eu36, eu37, eu38, eu39, eu40, eu41, eu42, eu43, eu44, eu46, eu47, eu48, eu49, eu50, eu51, eo00, eo01, eo02, eo03, eo04, eo05, eo06, eo07, eo08, eo09, eo10, eo11, eo12, eo13, eo14, eo15, eo16, eo17, Nat.reduceAdd, Nat.reduceLT, if_true, Bool.false_eq_true, reduceIte, Nat.zero_add, Nat.succ_eq_add_one, Int.reduceNeg, beq_self_eq_true]
              refine wIf_split ?_ ?_
              · intro _
                exact ⟨trivial, fun h => by have : (k : Int) < 12 := of_decide_eq_true h
                                            omega⟩
              · intro h
                rw [h]
                exact ⟨trivial, fun h => by cases h⟩
            · rintro H' ⟨rfl, h⟩
              obtain ⟨ls', hs, hl2⟩ := house_at k (h rfl)
              try simp (disch := first | decide | omega) only [↓ed00, ↓ed01, ↓ed03, ↓ed04, ↓ed05, ↓ed06, ↓ed07, ↓ed08, ↓ed09, ↓ed10, ↓ed11, ↓ed12, ↓ed13, ↓ed14, ↓ed15, ↓ed16, ↓ed17, ↓ed18, ↓ed19, ↓ed20, ↓ed21, ↓ed23, ↓ed24, ↓ed25, ↓ed26, ↓ed27, ↓ed28, ↓ed29, ↓ed30, ↓ed31, ↓ed32, ↓ed33, ↓ed34, ↓ed35, ↓ed36, ↓ed37, ↓ed38, ↓ed39, ↓ed40, ↓ed41, ↓ed42, ↓ed46, ↓ed47, eu00, eu01, eu02, eu03, eu04, eu05, eu06, eu09, eu10, eu11, eu14, eu15, eu18, eu19, eu20, eu21, eu22, eu23, eu24, eu25, eu26, eu27, eu28, eu29, eu30, eu31, eu32, eu33, eu34, eu35, eu36, eu37, eu38, eu39, eu40, eu41, eu42, eu43, eu44, eu46, eu47, eu48, eu49, eu50, eu51, eo00, eo01, eo02, eo03, eo04, eo05, eo06, eo07, eo08, eo09, eo10, eo11, eo12, eo13, eo14, eo15, eo16, eo17, Nat.reduceAdd, Nat.reduceLT, if_true, Bool.false_eq_true, reduceIte, Nat.zero_add, Nat.succ_eq_add_one, Int.reduceNeg, beq_self_eq_true, idx_lst _ _ _ (hFm.at' hHk), hs]
              exact ⟨_, ls', rfl, trivial, hb1, hl2⟩
            · rintro H' ⟨rfl, _⟩
              try simp (disch := first | decide | omega) only [↓ed00, ↓ed01, ↓ed03, ↓ed04, ↓ed05, ↓ed06, ↓ed07, ↓ed08, ↓ed09, ↓ed10, ↓ed11, ↓ed12, ↓ed13, ↓ed14, ↓ed15, ↓ed16, ↓ed17, ↓ed18, ↓ed19, ↓ed20, ↓ed21, ↓ed23, ↓ed24, ↓ed25, ↓ed26, ↓ed27, ↓ed28, ↓ed29, ↓ed30, ↓ed31, ↓ed32, ↓ed33, ↓ed34, ↓ed35, ↓ed36, ↓ed37, ↓ed38, ↓ed39, ↓ed40, ↓ed41, ↓ed42, ↓ed46, ↓ed47, eu00, eu01, eu02, eu03, eu04, eu05, eu06, eu09, eu10, eu11, eu14, eu15, eu18, eu19, eu20, eu21, eu22, eu23, eu24, eu25, eu26, eu27, eu28, eu29, eu30, eu31, eu32, eu33, eu34, eu35, eu36, eu37, eu38, eu39, eu40, eu41, eu42, eu43, eu44, eu46, eu47, eu48, eu49, eu50, eu51, eo00, eo01, eo02, eo03, eo04, eo05, eo06, eo07, eo08, eo09, eo10, eo11, eo12, eo13, eo14, eo15, eo16, eo17, Nat.reduceAdd, Nat.reduceLT, if_true, Bool.false_eq_true, reduceIte, Nat.zero_add, Nat.succ_eq_add_one, Int.reduceNeg, beq_self_eq_true]
              exact ⟨b, pl, by simp, trivial, hb, hpl⟩
          · rintro ρ' H' ⟨b, pl, rfl, rfl, hb, hpl⟩
            simp only [List.drop_succ_cons, List.drop_zero]
            refine cut 2 (fun ρ' H'' => ∃ di : Option Int, ρ' = [some (.int c), some (.int m), some (.ref H.length), some (.int sc), some (.ref lh), some (.int k), some (.int x), some (.int b), some (.ref le), some (.tup (pl.map .int)), some (diV di)] ∧ Kept H'.length H' H'') ?_ ?_
            · have hs : ∃ z : Int, seqAt [V.int 4, V.int 9] (c / 12 % 2) = some (.int z) ∧ 0 < z := by
                have : c / 12 % 2 = 0 ∨ c / 12 % 2 = 1 := by omega
                rcases this with h | h <;> rw [h]
                · exact ⟨4, rfl, by decide⟩
                · exact ⟨9, rfl, by decide⟩
              obtain ⟨z, hz, hz0⟩ := hs
              try simp (disch := first | decide | omega) only [↓ed00, ↓ed01, ↓ed03, ↓ed04, ↓ed05, ↓ed06, ↓ed07, ↓ed08, ↓ed09, ↓ed10, ↓ed11, ↓ed12, ↓ed13, ↓ed14, ↓ed15, ↓ed16, ↓ed17, ↓ed18, ↓ed19, ↓ed20, ↓ed21, ↓ed23, ↓ed24, ↓ed25, ↓ed26, ↓ed27, ↓ed28, ↓ed29, ↓ed30, ↓ed31, ↓ed32, ↓ed33, ↓ed34, ↓ed35, ↓ed36, ↓ed37, ↓ed38, ↓ed39, ↓ed40, ↓ed41, ↓ed42, ↓ed46, ↓ed47, eu00, eu01, eu02, eu03, eu04, eu05, eu06, eu09, eu10, eu11, eu14, eu15, eu18, eu19, eu20, eu21, eu22, eu23, eu24, eu25, eu26, eu27, eu28, eu29, eu30, eu31, eu32, eu33, eu34, eu35, eu36, eu37, eu38, eu39, eu40, eu41, eu42, eu43, eu44, eu46, eu47, eu48, eu49, eu50, eu51, eo00, eo01, eo02, eo03, eo04, eo05, eo06, eo07, eo08, eo09, eo10, eo11, eo12, eo13, eo14, eo15, eo16, eo17, Nat.reduceAdd, Nat.reduceLT, if_true, Bool.false_eq_true, reduceIte, Nat.zero_add, Nat.succ_eq_add_one, Int.reduceNeg, beq_self_eq_true, idx_lst _ _ _ (at_new _ _), hz]
              refine wIf_split ?_ ?_
              · intro _
                exact ⟨some (b + x / 1500 % 40 * sc), rfl, Kept.app _ _⟩
              · intro _
                exact ⟨none, rfl, Kept.app _ _⟩
            · rintro ρ' Ho ⟨di, rfl, hFo⟩
              have hA := hFm.tr hFo
              have hPo := hA.at' hPk
              have hXo := hA.at' hXk
              simp only [List.drop_succ_cons, List.drop_zero]
              have hsz : (ps.map perV).length < 1000000 := by rw [List.length_map]; omega
              try simp (disch := first | decide | omega) only [↓ed00, ↓ed01, ↓ed03, ↓ed04, ↓ed05, ↓ed06, ↓ed07, ↓ed08, ↓ed09, ↓ed10, ↓ed11, ↓ed12, ↓ed13, ↓ed14, ↓ed15, ↓ed16, ↓ed17, ↓ed18, ↓ed19, ↓ed20, ↓ed21, ↓ed23, ↓ed24, ↓ed25, ↓ed26, ↓ed27, ↓ed28, ↓ed29, ↓ed30, ↓ed31, ↓ed32, ↓ed33, ↓ed34, ↓ed35, ↓ed36, ↓ed37, ↓ed38, ↓ed39, ↓ed40, ↓ed41, ↓ed42, ↓ed46, ↓ed47, eu00, eu01, eu02, eu03, eu04, eu05, eu06, eu09, eu10, eu11, eu14, eu15, eu18, eu19, eu20, eu21, eu22, eu23, eu24, eu25, eu26, eu27, eu28, eu29, eu30, eu31, eu32, eu33, eu34, eu35, eu36, eu37, eu38, eu39, eu40, eu41, eu42, eu43, eu44, eu46, eu47, eu48, eu49, eu50, eu51, eo00, eo01, eo02, eo03, eo04, eo05, eo06, eo07, eo08, eo09, eo10, eo11, eo12, eo13, eo14, eo15, eo16, eo17, Nat.reduceAdd, Nat.reduceLT, if_true, Bool.false_eq_true, reduceIte, Nat.zero_add, Nat.succ_eq_add_one, Int.reduceNeg, beq_self_eq_true, meKind_app _ hPo, WMeth_app _ _ _ hPo hsz]
              refine ⟨stands_ref (at_set_ne hXo hlsne) hX, ps ++ [⟨b, pl, none, di⟩], _, rfl, rfl, (hFk.tr hA).trans (Kept.set _ (Nat.le_refl _) (Nat.le_of_lt (at_lt hPo))) (Nat.le_refl _), ?_, at_set_ne (hA.at' hHk) hlhne, at_set_ne hXo hlsne, by rw [List.length_append, hl]; rfl, hW.app hb hpl⟩
              rw [at_set hPo, List.map_append]; rfl
    · rintro ρ H' ⟨ps, t, rfl, ht, hF', hP', _, _, hl, hW⟩
      try simp (disch := first | decide | omega) only [↓ed00, ↓ed01, ↓ed03, ↓ed04, ↓ed05, ↓ed06, ↓ed07, ↓ed08, ↓ed09, ↓ed10, ↓ed11, ↓ed12, ↓ed13, ↓ed14, ↓ed15, ↓ed16, ↓ed17, ↓ed18, ↓ed19, ↓ed20, ↓ed21, ↓ed23, ↓ed24, ↓ed25, ↓ed26, ↓ed27, ↓ed28, ↓ed29, ↓ed30, ↓ed31, ↓ed32, ↓ed33, ↓ed34, ↓ed35, ↓ed36, ↓ed37, ↓ed38, ↓ed39, ↓ed40, ↓ed41, ↓ed42, ↓ed46, ↓ed47, eu00, eu01, eu02, eu03, eu04, eu05, eu06, eu09, eu10, eu11, eu14, eu15, eu18, eu19, eu20, eu21, eu22, eu23, eu24, eu25, eu26, eu27, eu28, eu29, eu30, eu31, eu32, eu33, eu34, eu35, eu36, eu37, eu38, eu39, eu40, eu41, eu42, eu43, eu44, eu46, eu47, eu48, eu49, eu50, eu51, eo00, eo01, eo02, eo03, eo04, eo05, eo06, eo07, eo08, eo09, eo10, eo11, eo12, eo13, eo14, eo15, eo16, eo17, Nat.reduceAdd, Nat.reduceLT, if_true, Bool.false_eq_true, reduceIte, Nat.zero_add, Nat.succ_eq_add_one, Int.reduceNeg, beq_self_eq_true]
      exact ⟨_, ps, rfl, hF', hP', by rw [hl, enum_len, List.length_map]; exact hxl, hW⟩

theorem w_adopting (n l : Nat) (c : Int) (H : Hp) (ps : List Per) (hA : H[l]? = some (.list (ps.map perV))) (hW : WfP ps) (hlen : ps.length ≤ 60) : Wp (callF scr pgks pfns (n + 2) i_law_adopting [.ref l, .int c] H) fun v H' =>
    ∃ (l' : Nat) (ps' : List Per), v = .ref l' ∧ Kept H.length H H' ∧ H'[l']? = some (.list (ps'.map perV)) ∧ ps'.length = ps.length ∧ WfP ps' := by
  rw [c_law_adopting, Wp_end]
  refine WSs.sound _ ?_
  unfold pb_law_adopting
  have hsz : (ps.map perV).length < 1000000 := by rw [List.length_map]; omega
  try simp (disch := first | decide | omega) only [↓ed00, ↓ed01, ↓ed03, ↓ed04, ↓ed05, ↓ed06, ↓ed07, ↓ed08, ↓ed09, ↓ed10, ↓ed11, ↓ed12, ↓ed13, ↓ed14, ↓ed15, ↓ed16, ↓ed17, ↓ed18, ↓ed19, ↓ed20, ↓ed21, ↓ed23, ↓ed24, ↓ed25, ↓ed26, ↓ed27, ↓ed28, ↓ed29, ↓ed30, ↓ed31, ↓ed32, ↓ed33, ↓ed34, ↓ed35, ↓ed36, ↓ed37, ↓ed38, ↓ed39, ↓ed40, ↓ed41, ↓ed42, ↓ed46, ↓ed47, eu00, eu01, eu02, eu03, eu04, eu05, eu06, eu09, eu10, eu11, eu14, eu15, eu18, eu19, eu20, eu21, eu22, eu23, eu24, eu25, eu26, eu27, eu28, eu29, eu30, eu31, eu32, eu33, eu34, eu35, eu36, eu37, eu38, eu39, eu40, eu41, eu42, eu43, eu44, eu46, eu47, eu48, eu49, eu50, eu51, eo00, eo01, eo02, eo03, eo04, eo05, eo06, eo07, eo08, eo09, eo10, eo11, eo12, eo13, eo14, eo15, eo16, eo17, Nat.reduceAdd, Nat.reduceLT, if_true, Bool.false_eq_true, reduceIte, Nat.zero_add, Nat.succ_eq_add_one, Int.reduceNeg, beq_self_eq_true, itemsOf_lst _ _ hA, WAllocL_ok _ _ _ hsz, WBi_lenL _ _ _ (at_app _ hA), List.length_map]
  refine call_of (w_stream scr n c _ _ (Int.natCast_nonneg _) (by omega)) ?_
  rintro v H₂ ⟨ls, xs, rfl, hls, hF2, hX, hxl, hxr⟩
  have hN := hF2.at' (at_new H (.list (ps.map perV)))
  have hne : H.length ≠ ls := Nat.ne_of_lt (Nat.lt_of_lt_of_le (at_lt (at_new H (.list (ps.map perV)))) hls)
  try simp (disch := first | decide | omega) only [↓ed00, ↓ed01, ↓ed03, ↓ed04, ↓ed05, ↓ed06, ↓ed07, ↓ed08, ↓ed09, ↓ed10, ↓ed11, ↓ed12, ↓ed13, ↓ed14, ↓ed15, ↓ed16, ↓ed17, ↓ed18, ↓ed19, ↓ed20, ↓ed21, ↓ed23, ↓ed24, ↓ed25, ↓ed26, ↓ed27, ↓ed28, ↓ed29, ↓ed30, ↓ed31, ↓ed32, ↓ed33, ↓ed34, ↓ed35, ↓ed36, ↓ed37, ↓ed38, ↓ed39, ↓ed40, ↓ed41, ↓ed42, ↓ed46, ↓ed47, eu00, eu01, eu02, eu03, eu04, eu05, eu06, eu09, eu10, eu11, eu14, eu15, eu18, eu19, eu20, eu21, eu22, eu23, eu24, eu25, eu26, eu27, eu28, eu29, eu30, eu31, eu32, eu33, eu34, eu35, eu36, eu37, eu38, eu39, eu40, eu41, eu42, eu43, eu44, eu46, eu47, eu48, eu49, eu50, eu51, eo00, eo01, eo02, eo03, eo04, eo05, eo06, eo07, eo08, eo09, eo10, eo11, eo12, eo13, eo14, eo15, eo16, eo17, Nat.reduceAdd, Nat.reduceLT, if_true, Bool.false_eq_true, reduceIte, Nat.zero_add, Nat.succ_eq_add_one, Int.reduceNeg, beq_self_eq_true, lstOf_lst _ _ hX]
  refine for_inv (fun k ρ H' => ∃ (ps' : List Per) (t : Env'), ρ = some (.ref l) :: some (.int c) :: some (.ref H.length) :: t ∧ t.length = 8 ∧ Kept H.length H H' ∧ H'[H.length]? = some (.list (ps'.map perV)) ∧ H'[ls]? = some (.list (xs.map .int)) ∧ ps'.length = ps.length ∧ WfP ps') ?_ ?_ ?_
  · exact ⟨ps, _, rfl, rfl, (Kept.app _ _).tr hF2, hN, hX, rfl, hW⟩
  · rintro k v ρ Hk hv ⟨ps', t, rfl, ht, hFk, hNk, hXk, hl', hW'⟩
    obtain ⟨x, hx, rfl⟩ := enum_int hv
    have hkx := (List.getElem?_eq_some_iff.mp hx).1
    obtain ⟨hx0, hx1⟩ := hxr x (List.mem_of_getElem? hx)
    have hAk := hFk.at' hA
    obtain ⟨p, hp, hp'⟩ := per_at (ps := ps) (k := (k : Int)) (Int.natCast_nonneg k) (by omega)
    obtain ⟨hb, hpar⟩ := hW _ _ hp'
    match t, ht with
    | [oa, ob, od, oe, of, og, oi, oj], _ =>
    simp only [wSome_some, asg_var, asg_tup, asgs_cons, asgs_nil, Option.bind_some, List.set_cons_succ, List.set_cons_zero, List.length_cons, List.length_nil, Nat.reduceAdd, Nat.reduceLT, reduceIte, Nat.zero_add, Nat.succ_eq_add_one, List.take_succ_cons, List.take_zero, List.drop_succ_cons, List.drop_zero]
    refine cut 3 (fun ρ' H' => ∃ (le : Nat) (es : List Int), ρ' = [some (.ref l), some (.int c), some (.ref H.length), some (.int k), some (.int x), some (.int p.born), some (.tup (p.par.map .int)), some (adV p.ad), some (diV p.died), some (.ref le), some (.int (p.born + x % 30))] ∧ Kept Hk.length Hk H' ∧ H'[le]? = some (.list (es.map .int))) ?_ ?_
    · try simp (disch := first | decide | omega) only [↓ed00, ↓ed01, ↓ed03, ↓ed04, ↓ed05, ↓ed06, ↓ed07, ↓ed08, ↓ed09, ↓ed10, ↓ed11, ↓ed12, ↓ed13, ↓ed14, ↓ed15, ↓ed16, ↓ed17, ↓ed18, ↓ed19, ↓ed20, ↓ed21, ↓ed23, ↓ed24, ↓ed25, ↓ed26, ↓ed27, ↓ed28, ↓ed29, ↓ed30, ↓ed31, ↓ed32, ↓ed33, ↓ed34, ↓ed35, ↓ed36, ↓ed37, ↓ed38, ↓ed39, ↓ed40, ↓ed41, ↓ed42, ↓ed46, ↓ed47, eu00, eu01, eu02, eu03, eu04, eu05, eu06, eu09, eu10, eu11, eu14, eu15, eu18, eu19, eu20, eu21, eu22, eu23, eu24, eu25, eu26, eu27, eu28, eu29, eu30, eu31, eu32, eu33, eu34, eu35, eu36, eu37, eu38, eu39, eu40, eu41, eu42, eu43, eu44, eu46, eu47, eu48, eu49, eu50, eu51, eo00, eo01, eo02, eo03, eo04, eo05, eo06, eo07, eo08, eo09, eo10, eo11, eo12, eo13, eo14, eo15, eo16, eo17, Nat.reduceAdd, Nat.reduceLT, if_true, Bool.false_eq_true, reduceIte, Nat.zero_add, Nat.succ_eq_add_one, Int.reduceNeg, beq_self_eq_true, idx_lst _ _ _ hAk, hp, perV, WBi_lenL _ _ _ hAk, List.length_map, range_ints]
      refine comp_filt (fun j => decide (bornAt ps j < p.born)) (by rw [ints_len]; omega) ?_ ?_
      · intro j hj Q hQ
        obtain ⟨hj0, hj1⟩ := mem_ints hj
        obtain ⟨q, hq, hq'⟩ := per_at (ps := ps) (k := j) hj0 (by omega)
        have e : bornAt ps j = q.born := by unfold bornAt; rw [hq']
        rw [e] at hQ
        try simp (disch := first | decide | omega) only [↓ed00, ↓ed01, ↓ed03, ↓ed04, ↓ed05, ↓ed06, ↓ed07, ↓ed08, ↓ed09, ↓ed10, ↓ed11, ↓ed12, ↓ed13, ↓ed14, ↓ed15, ↓ed16, ↓ed17, ↓ed18, ↓ed19, ↓ed20, ↓ed21, ↓ed23, ↓ed24, ↓ed25, ↓ed26, ↓ed27, ↓ed28, ↓ed29, ↓ed30, ↓ed31, ↓ed32, ↓ed33, ↓ed34, ↓ed35, ↓ed36, ↓ed37, ↓ed38, ↓ed39, ↓ed40, ↓ed41, ↓ed42, ↓ed46, ↓ed47, eu00, eu01, eu02, eu03, eu04, eu05, eu06, eu09, eu10, eu11, eu14, eu15, eu18, eu19, eu20, eu21, eu22, eu23, eu24, eu25, eu26, eu27, eu28, eu29, eu30, eu31, eu32, eu33, eu34, eu35, eu36, eu37, eu38, eu39, eu40, eu41, eu42, eu43, eu44, eu46, eu47, eu48, eu49, eu50, eu51, eo00, eo01, eo02, eo03, eo04, eo05, eo06, eo07, eo08, eo09, eo10, eo11, eo12, eo13, eo14, eo15, eo16, eo17, Nat.reduceAdd, Nat.reduceLT, if_true, Bool.false_eq_true, reduceIte, Nat.zero_add, Nat.succ_eq_add_one, Int.reduceNeg, beq_self_eq_true, idx_lst _ _ _ hAk, hq, perV]
        exact wIf_q _ hQ
      · try simp (disch := first | decide | omega) only [↓ed00, ↓ed01, ↓ed03, ↓ed04, ↓ed05, ↓ed06, ↓ed07, ↓ed08, ↓ed09, ↓ed10, ↓ed11, ↓ed12, ↓ed13, ↓ed14, ↓ed15, ↓ed16, ↓ed17, ↓ed18, ↓ed19, ↓ed20, ↓ed21, ↓ed23, ↓ed24, ↓ed25, ↓ed26, ↓ed27, ↓ed28, ↓ed29, ↓ed30, ↓ed31, ↓ed32, ↓ed33, ↓ed34, ↓ed35, ↓ed36, ↓ed37, ↓ed38, ↓ed39, ↓ed40, ↓ed41, ↓ed42, ↓ed46, ↓ed47, eu00, eu01, eu02, eu03, eu04, eu05, eu06, eu09, eu10, eu11, eu14, eu15, eu18, eu19, eu20, eu21, eu22, eu23, eu24, eu25, eu26, eu27, eu28, eu29, eu30, eu31, eu32, eu33, eu34, eu35, eu36, eu37, eu38, eu39, eu40, eu41, eu42, eu43, eu44, eu46, eu47, eu48, eu49, eu50, eu51, eo00, eo01, eo02, eo03, eo04, eo05, eo06, eo07, eo08, eo09, eo10, eo11, eo12, eo13, eo14, eo15, eo16, eo17, Nat.reduceAdd, Nat.reduceLT, if_true, Bool.false_eq_true, reduceIte, Nat.zero_add, Nat.succ_eq_add_one, Int.reduceNeg, beq_self_eq_true]
        exact ⟨_, _, rfl, Kept.app _ _, at_new _ _⟩
    · rintro ρ' Hm ⟨le, es, rfl, hFm, hEm⟩
      have hNm := hFm.at' hNk
      have hXm := hFm.at' hXk
      have hFa := hFk.tr hFm
      simp only [List.drop_succ_cons, List.drop_zero]
      refine if_cut (fun b H' => Kept Hm.length Hm H') ?_ ?_ ?_
      · try simp (disch := first | decide | omega) only [↓ed00, ↓ed01, ↓ed03, ↓ed04, ↓ed05, ↓ed06, ↓ed07, ↓ed08, ↓ed09, ↓ed10, ↓ed11, ↓ed12, ↓ed13, ↓ed14, ↓ed15, ↓ed16, ↓ed17, ↓ed18, ↓ed19, ↓ed20, ↓ed21, ↓ed23, ↓ed24, ↓ed25, ↓ed26, ↓ed27, ↓ed28, ↓ed29, ↓ed30, ↓ed31, ↓ed32, ↓ed33, ↓ed34, ↓ed35, ↓ed36, ↓ed37, ↓ed38, ↓ed39, ↓ed40, ↓ed41, ↓ed42, ↓ed46, ↓ed47, eu00, eu01, eu02, eu03, eu04, eu05, eu06, eu09, eu10, eu11, eu14, eu15, eu18, eu19, eu20, eu21, eu22, eu23, eu24, eu25, eu26, eu27, eu28, eu29, eu30, eu31, eu32, eu33, eu34, eu35, eu36, eu37, eu38, eu39, eu40, eu41, eu42, eu43, eu44, eu46, eu47, eu48, eu49, eu50, eu51, eo00, eo01, eo02, eo03, eo04, eo05, eo06, eo07, eo08, eo09, eo10, eo11, eo12, eo13, eo14, eo15, eo16, eo17, Nat.reduceAdd, Nat.reduceLT, if_true, Bool.false_eq_true, reduceIte, Nat.zero_add, Nat.succ_eq_add_one, Int.reduceNeg, beq_self_eq_true]
        refine wIf_split ?_ ?_
        · intro _
          try simp (disch := first | decide | omega) only [↓ed00, ↓ed01, ↓ed03, ↓ed04, ↓ed05, ↓ed06, ↓ed07, ↓ed08, ↓ed09, ↓ed10, ↓ed11, ↓ed12, ↓ed13, ↓ed14, ↓ed15, ↓ed16, ↓ed17, ↓ed18, ↓ed19, ↓ed20, ↓ed21, ↓ed23, ↓ed24, ↓ed25, ↓ed26, ↓ed27, ↓ed28, ↓ed29, ↓ed30, ↓ed31, ↓ed32, ↓ed33, ↓ed34, ↓ed35, ↓ed36, ↓ed37, ↓ed38, ↓ed39, ↓ed40, ↓ed41, ↓ed42, ↓ed46, ↓ed47, eu00, eu01, eu02, eu03, eu04, eu05, eu06, eu09, eu10, eu11, eu14, eu15, eu18, eu19, eu20, eu21, eu22, eu23, eu24, eu25, eu26, eu27, eu28, eu29, eu30, eu31, eu32, eu33, eu34, eu35, eu36, eu37, eu38, eu39, eu40, eu41, eu42, eu43, eu44, eu46, eu47, eu48, eu49, eu50, eu51, eo00, eo01, eo02, eo03, eo04, eo05, eo06, eo07, eo08, eo09, eo10, eo11, eo12, eo13, eo14, eo15, eo16, eo17, Nat.reduceAdd, Nat.reduceLT, if_true, Bool.false_eq_true, reduceIte, Nat.zero_add, Nat.succ_eq_add_one, Int.reduceNeg, beq_self_eq_true, cmp_ne_empty hEm (plain_ints _ 8)]
          refine wIf_split ?_ ?_
          · intro h
            cases hd : p.died with
            | none =>
              try simp (disch := first | decide | omega) only [↓ed00, ↓ed01, ↓ed03, ↓ed04, ↓ed05, ↓ed06, ↓ed07, ↓ed08, ↓ed09, ↓ed10, ↓ed11, ↓ed12, ↓ed13, ↓ed14, ↓ed15, ↓ed16, ↓ed17, ↓ed18, ↓ed19, ↓ed20, ↓ed21, ↓ed23, ↓ed24, ↓ed25, ↓ed26, ↓ed27, ↓ed28, ↓ed29, ↓ed30, ↓ed31, ↓ed32, ↓ed33, ↓ed34, ↓ed35, ↓ed36, ↓ed37, ↓ed38, ↓ed39, ↓ed40, ↓ed41, ↓ed42, ↓ed46, ↓ed47, eu00, eu01, eu02, eu03, eu04, eu05, eu06, eu09, eu10, eu11, eu14, eu15, eu18, eu19, eu20, eu21, eu22, eu23, eu24, eu25, eu26, eu27, eu28, eu29, eu30, eu31, eu32, eu33, eu34, eu35, eu36, eu37, eu38, eu39, eu40, eu41, eu42, eu43, eu44, eu46, eu47, eu48, eu49, eu50, eu51, eo00, eo01, eo02, eo03, eo04, eo05, eo06, eo07, eo08, eo09, eo10, eo11, eo12, eo13, eo14, eo15, eo16, eo17, Nat.reduceAdd, Nat.reduceLT, if_true, Bool.false_eq_true, reduceIte, Nat.zero_add, Nat.succ_eq_add_one, Int.reduceNeg, beq_self_eq_true, diV, show isNoneV V.none = true from rfl]
              exact Kept.app _ _
            | some e =>
              try simp (disch := first | decide | omega) only [↓ed00, ↓ed01, ↓ed03, ↓ed04, ↓ed05, ↓ed06, ↓ed07, ↓ed08, ↓ed09, ↓ed10, ↓ed11, ↓ed12, ↓ed13, ↓ed14, ↓ed15, ↓ed16, ↓ed17, ↓ed18, ↓ed19, ↓ed20, ↓ed21, ↓ed23, ↓ed24, ↓ed25, ↓ed26, ↓ed27, ↓ed28, ↓ed29, ↓ed30, ↓ed31, ↓ed32, ↓ed33, ↓ed34, ↓ed35, ↓ed36, ↓ed37, ↓ed38, ↓ed39, ↓ed40, ↓ed41, ↓ed42, ↓ed46, ↓ed47, eu00, eu01, eu02, eu03, eu04, eu05, eu06, eu09, eu10, eu11, eu14, eu15, eu18, eu19, eu20, eu21, eu22, eu23, eu24, eu25, eu26, eu27, eu28, eu29, eu30, eu31, eu32, eu33, eu34, eu35, eu36, eu37, eu38, eu39, eu40, eu41, eu42, eu43, eu44, eu46, eu47, eu48, eu49, eu50, eu51, eo00, eo01, eo02, eo03, eo04, eo05, eo06, eo07, eo08, eo09, eo10, eo11, eo12, eo13, eo14, eo15, eo16, eo17, Nat.reduceAdd, Nat.reduceLT, if_true, Bool.false_eq_true, reduceIte, Nat.zero_add, Nat.succ_eq_add_one, Int.reduceNeg, beq_self_eq_true, diV, show isNoneV (V.int e) = false from rfl]
              exact Kept.app _ _
          · intro h
            exact Kept.app _ _
        · intro h
          exact Kept.refl (Nat.le_refl _)
      · intro H' hF'
        try simp (disch := first | decide | omega) only [↓ed00, ↓ed01, ↓ed03, ↓ed04, ↓ed05, ↓ed06, ↓ed07, ↓ed08, ↓ed09, ↓ed10, ↓ed11, ↓ed12, ↓ed13, ↓ed14, ↓ed15, ↓ed16, ↓ed17, ↓ed18, ↓ed19, ↓ed20, ↓ed21, ↓ed23, ↓ed24, ↓ed25, ↓ed26, ↓ed27, ↓ed28, ↓ed29, ↓ed30, ↓ed31, ↓ed32, ↓ed33, ↓ed34, ↓ed35, ↓ed36, ↓ed37, ↓ed38, ↓ed39, ↓ed40, ↓ed41, ↓ed42, ↓ed46, ↓ed47, eu00, eu01, eu02, eu03, eu04, eu05, eu06, eu09, eu10, eu11, eu14, eu15, eu18, eu19, eu20, eu21, eu22, eu23, eu24, eu25, eu26, eu27, eu28, eu29, eu30, eu31, eu32, eu33, eu34, eu35, eu36, eu37, eu38, eu39, eu40, eu41, eu42, eu43, eu44, eu46, eu47, eu48, eu49, eu50, eu51, eo00, eo01, eo02, eo03, eo04, eo05, eo06, eo07, eo08, eo09, eo10, eo11, eo12, eo13, eo14, eo15, eo16, eo17, Nat.reduceAdd, Nat.reduceLT, if_true, Bool.false_eq_true, reduceIte, Nat.zero_add, Nat.succ_eq_add_one, Int.reduceNeg, beq_self_eq_true]
        refine call_of (w_some scr n le (x / 120) 1 H' es (hF'.at' hEm)) ?_
        rintro v H'' ⟨al, rfl, hF'', _, _, _, _⟩
        have hN'' := hF''.at' (hF'.at' hNm)
        have hX'' := hF''.at' (hF'.at' hXm)
        have hk' : k < ps'.length := by omega
        try simp (disch := first | decide | omega) only [↓ed00, ↓ed01, ↓ed03, ↓ed04, ↓ed05, ↓ed06, ↓ed07, ↓ed08, ↓ed09, ↓ed10, ↓ed11, ↓ed12, ↓ed13, ↓ed14, ↓ed15, ↓ed16, ↓ed17, ↓ed18, ↓ed19, ↓ed20, ↓ed21, ↓ed23, ↓ed24, ↓ed25, ↓ed26, ↓ed27, ↓ed28, ↓ed29, ↓ed30, ↓ed31, ↓ed32, ↓ed33, ↓ed34, ↓ed35, ↓ed36, ↓ed37, ↓ed38, ↓ed39, ↓ed40, ↓ed41, ↓ed42, ↓ed46, ↓ed47, eu00, eu01, eu02, eu03, eu04, eu05, eu06, eu09, eu10, eu11, eu14, eu15, eu18, eu19, eu20, eu21, eu22, eu23, eu24, eu25, eu26, eu27, eu28, eu29, eu30, eu31, eu32, eu33, eu34, eu35, eu36, eu37, eu38, eu39, eu40, eu41, eu42, eu43, eu44, eu46, eu47, eu48, eu49, eu50, eu51, eo00, eo01, eo02, eo03, eo04, eo05, eo06, eo07, eo08, eo09, eo10, eo11, eo12, eo13, eo14, eo15, eo16, eo17, Nat.reduceAdd, Nat.reduceLT, if_true, Bool.false_eq_true, reduceIte, Nat.zero_add, Nat.succ_eq_add_one, Int.reduceNeg, beq_self_eq_true, setIdx_lst _ _ _ hN'' (Int.natCast_nonneg k) (by rw [List.length_map]; omega)]
        refine ⟨stands_ref (at_set_ne hX'' hne) hX, ps'.set k ⟨p.born, p.par, some (p.born + x % 30, al), p.died⟩, _, rfl, rfl, ((hFa.tr hF').tr hF'').trans (Kept.set _ (Nat.le_refl _) (Nat.le_of_lt (at_lt hN''))) (Nat.le_refl _), ?_, at_set_ne hX'' hne, by rw [List.length_set]; exact hl', ?_⟩
        · rw [at_set hN'', List.map_set]; rfl
        · intro i q hq
          by_cases hik : k = i
          · subst hik
            rw [List.getElem?_set_self hk'] at hq
            cases hq
            exact ⟨hb, hpar⟩
          · rw [List.getElem?_set_ne hik] at hq
            exact hW' i q hq
      · intro H' hF'
        try simp (disch := first | decide | omega) only [↓ed00, ↓ed01, ↓ed03, ↓ed04, ↓ed05, ↓ed06, ↓ed07, ↓ed08, ↓ed09, ↓ed10, ↓ed11, ↓ed12, ↓ed13, ↓ed14, ↓ed15, ↓ed16, ↓ed17, ↓ed18, ↓ed19, ↓ed20, ↓ed21, ↓ed23, ↓ed24, ↓ed25, ↓ed26, ↓ed27, ↓ed28, ↓ed29, ↓ed30, ↓ed31, ↓ed32, ↓ed33, ↓ed34, ↓ed35, ↓ed36, ↓ed37, ↓ed38, ↓ed39, ↓ed40, ↓ed41, ↓ed42, ↓ed46, ↓ed47, eu00, eu01, eu02, eu03, eu04, eu05, eu06, eu09, eu10, eu11, eu14, eu15, eu18, eu19, eu20, eu21, eu22, eu23, eu24, eu25, eu26, eu27, eu28, eu29, eu30, eu31, eu32, eu33, eu34, eu35, eu36, eu37, eu38, eu39, eu40, eu41, eu42, eu43, eu44, eu46, eu47, eu48, eu49, eu50, eu51, eo00, eo01, eo02, eo03, eo04, eo05, eo06, eo07, eo08, eo09, eo10, eo11, eo12, eo13, eo14, eo15, eo16, eo17, Nat.reduceAdd, Nat.reduceLT, if_true, Bool.false_eq_true, reduceIte, Nat.zero_add, Nat.succ_eq_add_one, Int.reduceNeg, beq_self_eq_true]
        exact ⟨stands_ref (hF'.at' hXm) hX, ps', _, rfl, rfl, hFa.tr hF', hF'.at' hNm, hF'.at' hXm, hl', hW'⟩
  · rintro ρ H' ⟨ps', t, rfl, ht, hF', hN', hX', hl', hW'⟩
    try simp (disch := first | decide | omega) only [↓ed00, ↓ed01, ↓ed03, ↓ed04, ↓ed05, ↓ed06, ↓ed07, ↓ed08, ↓ed09, ↓ed10, ↓ed11, ↓ed12, ↓ed13, ↓ed14, ↓ed15, ↓ed16, ↓ed17, ↓ed18, ↓ed19, ↓ed20, ↓ed21, ↓ed23, ↓ed24, ↓ed25, ↓ed26, ↓ed27, ↓ed28, ↓ed29, ↓ed30, ↓ed31, ↓ed32, ↓ed33, ↓ed34, ↓ed35, ↓ed36, ↓ed37, ↓ed38, ↓ed39, ↓ed40, ↓ed41, ↓ed42, ↓ed46, ↓ed47, eu00, eu01, eu02, eu03, eu04, eu05, eu06, eu09, eu10, eu11, eu14, eu15, eu18, eu19, eu20, eu21, eu22, eu23, eu24, eu25, eu26, eu27, eu28, eu29, eu30, eu31, eu32, eu33, eu34, eu35, eu36, eu37, eu38, eu39, eu40, eu41, eu42, eu43, eu44, eu46, eu47, eu48, eu49, eu50, eu51, eo00, eo01, eo02, eo03, eo04, eo05, eo06, eo07, eo08, eo09, eo10, eo11, eo12, eo13, eo14, eo15, eo16, eo17, Nat.reduceAdd, Nat.reduceLT, if_true, Bool.false_eq_true, reduceIte, Nat.zero_add, Nat.succ_eq_add_one, Int.reduceNeg, beq_self_eq_true]
    exact ⟨_, ps', rfl, hF', hN', hl', hW'⟩
end Mine.P

end
section
set_option autoImplicit false
set_option linter.unusedVariables false
set_option linter.unusedSimpArgs false
set_option maxRecDepth 100000
namespace Mine.P
open PySem
variable (scr : List Int)

noncomputable def aliveP (p : Per) (d : Int) : Bool := decide (p.born ≤ d) && (match p.died with | none => true | some e => decide (d < e))
theorem isNone_int (i : Int) : isNoneV (V.int i) = false := rfl
theorem isNone_none : isNoneV V.none = true := rfl
theorem isNone_tup (vs : List V) : isNoneV (V.tup vs) = false := rfl

theorem w_llives (n l : Nat) (i d : Int) (H : Hp) (ps : List Per) (p : Per) (hA : H[l]? = some (.list (ps.map perV))) (h0 : 0 ≤ i) (hp : ps[i.toNat]? = some p) : Wp (callF scr pgks pfns (n + 1) i_law_lives [.ref l, .int i, .int d] H) fun v H' =>
    v = .bool (aliveP p d) ∧ H' = H := by
  rw [c_law_lives, Wp_end]
  refine WSs.sound _ ?_
  unfold pb_law_lives
  have hs := per_at' h0 hp
  refine if_cut (fun b H' => H' = H ∧ b = decide (d < p.born)) ?_ ?_ ?_
  · try simp (disch := first | decide | omega) only [↓ed00, ↓ed01, ↓ed03, ↓ed04, ↓ed05, ↓ed06, ↓ed07, ↓ed08, ↓ed09, ↓ed10, ↓ed11, ↓ed12, ↓ed13, ↓ed14, ↓ed15, ↓ed16, ↓ed17, ↓ed18, ↓ed19, ↓ed20, ↓ed21, ↓ed23, ↓ed24, ↓ed25, ↓ed26, ↓ed27, ↓ed28, ↓ed29, ↓ed30, ↓ed31, ↓ed32, ↓ed33, ↓ed34, ↓ed35, ↓ed36, ↓ed37, ↓ed38, ↓ed39, ↓ed40, ↓ed41, ↓ed42, ↓ed46, ↓ed47, eu00, eu01, eu02, eu03, eu04, eu05, eu06, eu09, eu10, eu11, eu14, eu15, eu18, eu19, eu20, eu21, eu22, eu23, eu24, eu25, eu26, eu27, eu28, eu29, eu30, eu31, eu32, eu33, eu34, eu35, eu36, eu37, eu38, eu39, eu40, eu41, eu42, eu43, eu44, eu46, eu47, eu48, eu49, eu50, eu51, eo00, eo01, eo02, eo03, eo04, eo05, eo06, eo07, eo08, eo09, eo10, eo11, eo12, eo13, eo14, eo15, eo16, eo17, Nat.reduceAdd, Nat.reduceLT, if_true, Bool.false_eq_true, reduceIte, Nat.zero_add, Nat.succ_eq_add_one, Int.reduceNeg, beq_self_eq_true, idx_lst _ _ _ hA, hs, perV]
    exact ⟨trivial, trivial⟩
  · rintro H' ⟨rfl, h⟩
    have h : d < p.born := by simpa using h
    try simp (disch := first | decide | omega) only [↓ed00, ↓ed01, ↓ed03, ↓ed04, ↓ed05, ↓ed06, ↓ed07, ↓ed08, ↓ed09, ↓ed10, ↓ed11, ↓ed12, ↓ed13, ↓ed14, ↓ed15, ↓ed16, ↓ed17, ↓ed18, ↓ed19, ↓ed20, ↓ed21, ↓ed23, ↓ed24, ↓ed25, ↓ed26, ↓ed27, ↓ed28, ↓ed29, ↓ed30, ↓ed31, ↓ed32, ↓ed33, ↓ed34, ↓ed35, ↓ed36, ↓ed37, ↓ed38, ↓ed39, ↓ed40, ↓ed41, ↓ed42, ↓ed46, ↓ed47, eu00, eu01, eu02, eu03, eu04, eu05, eu06, eu09, eu10, eu11, eu14, eu15, eu18, eu19, eu20, eu21, eu22, eu23, eu24, eu25, eu26, eu27, eu28, eu29, eu30, eu31, eu32, eu33, eu34, eu35, eu36, eu37, eu38, eu39, eu40, eu41, eu42, eu43, eu44, eu46, eu47, eu48, eu49, eu50, eu51, eo00, eo01, eo02, eo03, eo04, eo05, eo06, eo07, eo08, eo09, eo10, eo11, eo12, eo13, eo14, eo15, eo16, eo17, Nat.reduceAdd, Nat.reduceLT, if_true, Bool.false_eq_true, reduceIte, Nat.zero_add, Nat.succ_eq_add_one, Int.reduceNeg, beq_self_eq_true]
    refine ⟨?_, trivial⟩
    have : ¬ p.born ≤ d := by omega
    simp [aliveP, this]
  · rintro H' ⟨rfl, h⟩
    have h : ¬ d < p.born := by simpa using h
    have h2 : p.born ≤ d := by omega
    cases hd : p.died with
    | none =>
      try simp (disch := first | decide | omega) only [↓ed00, ↓ed01, ↓ed03, ↓ed04, ↓ed05, ↓ed06, ↓ed07, ↓ed08, ↓ed09, ↓ed10, ↓ed11, ↓ed12, ↓ed13, ↓ed14, ↓ed15, ↓ed16, ↓ed17, ↓ed18, ↓ed19, ↓ed20, ↓ed21, ↓ed23, ↓ed24, ↓ed25, ↓ed26, ↓ed27, ↓ed28, ↓ed29, ↓ed30, ↓ed31, ↓ed32, ↓ed33, ↓ed34, ↓ed35, ↓ed36, ↓ed37, ↓ed38, ↓ed39, ↓ed40, ↓ed41, ↓ed42, ↓ed46, ↓ed47, eu00, eu01, eu02, eu03, eu04, eu05, eu06, eu09, eu10, eu11, eu14, eu15, eu18, eu19, eu20, eu21, eu22, eu23, eu24, eu25, eu26, eu27, eu28, eu29, eu30, eu31, eu32, eu33, eu34, eu35, eu36, eu37, eu38, eu39, eu40, eu41, eu42, eu43, eu44, eu46, eu47, eu48, eu49, eu50, eu51, eo00, eo01, eo02, eo03, eo04, eo05, eo06, eo07, eo08, eo09, eo10, eo11, eo12, eo13, eo14, eo15, eo16, eo17, Nat.reduceAdd, Nat.reduceLT, if_true, Bool.false_eq_true, reduceIte, Nat.zero_add, Nat.succ_eq_add_one, Int.reduceNeg, beq_self_eq_true, idx_lst _ _ _ hA, hs, perV, hd, diV, isNone_none]
      exact ⟨by simp [aliveP, h2, hd], trivial⟩
    | some e =>
      try simp (disch := first | decide | omega) only [↓ed00, ↓ed01, ↓ed03, ↓ed04, ↓ed05, ↓ed06, ↓ed07, ↓ed08, ↓ed09, ↓ed10, ↓ed11, ↓ed12, ↓ed13, ↓ed14, ↓ed15, ↓ed16, ↓ed17, ↓ed18, ↓ed19, ↓ed20, ↓ed21, ↓ed23, ↓ed24, ↓ed25, ↓ed26, ↓ed27, ↓ed28, ↓ed29, ↓ed30, ↓ed31, ↓ed32, ↓ed33, ↓ed34, ↓ed35, ↓ed36, ↓ed37, ↓ed38, ↓ed39, ↓ed40, ↓ed41, ↓ed42, ↓ed46, ↓ed47, eu00, eu01, eu02, eu03, eu04, eu05, eu06, eu09, eu10, eu11, eu14, eu15, eu18, eu19, eu20, eu21, eu22, eu23, eu24, eu25, eu26, eu27, eu28, eu29, eu30, eu31, eu32, eu33, eu34, eu35, eu36, eu37, eu38, eu39, eu40, eu41, eu42, eu43, eu44, eu46, eu47, eu48, eu49, eu50, eu51, eo00, eo01, eo02, eo03, eo04, eo05, eo06, eo07, eo08, eo09, eo10, eo11, eo12, eo13, eo14, eo15, eo16, eo17, Nat.reduceAdd, Nat.reduceLT, if_true, Bool.false_eq_true, reduceIte, Nat.zero_add, Nat.succ_eq_add_one, Int.reduceNeg, beq_self_eq_true, idx_lst _ _ _ hA, hs, perV, hd, diV, isNone_int]
      exact ⟨by simp [aliveP, h2, hd], trivial⟩

theorem w_lives (n l : Nat) (i d : Int) (H : Hp) (ps : List Per) (p : Per) (hA : H[l]? = some (.list (ps.map perV))) (h0 : 0 ≤ i) (hp : ps[i.toNat]? = some p) : Wp (callF scr pgks pfns (n + 1) i_lives [.ref l, .int i, .int d] H) fun v H' =>
    v = .bool (aliveP p d) ∧ H' = H := by
  rw [c_lives, Wp_end]
  refine WSs.sound _ ?_
  unfold pb_lives
  have hs := per_at' h0 hp
  by_cases h : p.born ≤ d
  · cases hd : p.died with
    | none =>
      try simp (disch := first | decide | omega) only [↓ed00, ↓ed01, ↓ed03, ↓ed04, ↓ed05, ↓ed06, ↓ed07, ↓ed08, ↓ed09, ↓ed10, ↓ed11, ↓ed12, ↓ed13, ↓ed14, ↓ed15, ↓ed16, ↓ed17, ↓ed18, ↓ed19, ↓ed20, ↓ed21, ↓ed23, ↓ed24, ↓ed25, ↓ed26, ↓ed27, ↓ed28, ↓ed29, ↓ed30, ↓ed31, ↓ed32, ↓ed33, ↓ed34, ↓ed35, ↓ed36, ↓ed37, ↓ed38, ↓ed39, ↓ed40, ↓ed41, ↓ed42, ↓ed46, ↓ed47, eu00, eu01, eu02, eu03, eu04, eu05, eu06, eu09, eu10, eu11, eu14, eu15, eu18, eu19, eu20, eu21, eu22, eu23, eu24, eu25, eu26, eu27, eu28, eu29, eu30, eu31, eu32, eu33, eu34, eu35, eu36, eu37, eu38, eu39, eu40, eu41, eu42, eu43, eu44, eu46, eu47, eu48, eu49, eu50, eu51, eo00, eo01, eo02, eo03, eo04, eo05, eo06, eo07, eo08, eo09, eo10, eo11, eo12, eo13, eo14, eo15, eo16, eo17, Nat.reduceAdd, Nat.reduceLT, if_true, Bool.false_eq_true, reduceIte, Nat.zero_add, Nat.succ_eq_add_one, Int.reduceNeg, beq_self_eq_true, idx_lst _ _ _ hA, hs, perV, hd, diV, isNone_none, h, decide_true]
      exact ⟨by simp [aliveP, h, hd], trivial⟩
    | some e =>
      try simp (disch := first | decide | omega) only [↓ed00, ↓ed01, ↓ed03, ↓ed04, ↓ed05, ↓ed06, ↓ed07, ↓ed08, ↓ed09, ↓ed10, ↓ed11, ↓ed12, ↓ed13, ↓ed14, ↓ed15, ↓ed16, ↓ed17, ↓ed18, ↓ed19, ↓ed20, ↓ed21, ↓ed23, ↓ed24, ↓ed25, ↓ed26, ↓ed27, ↓ed28, ↓ed29, ↓ed30, ↓ed31, ↓ed32, ↓ed33, ↓ed34, ↓ed35, ↓ed36, ↓ed37, ↓ed38, ↓ed39, ↓ed40, ↓ed41, ↓ed42, ↓ed46, ↓ed47, eu00, eu01, eu02, eu03, eu04, eu05, eu06, eu09, eu10, eu11, eu14, eu15, eu18, eu19, eu20, eu21, eu22, eu23, eu24, eu25, eu26, eu27, eu28, eu29, eu30, eu31, eu32, eu33, eu34, eu35, eu36, eu37, eu38, eu39, eu40, eu41, eu42, eu43, eu44, eu46, eu47, eu48, eu49, eu50, eu51, eo00, eo01, eo02, eo03, eo04, eo05, eo06, eo07, eo08, eo09, eo10, eo11, eo12, eo13, eo14, eo15, eo16, eo17, Nat.reduceAdd, Nat.reduceLT, if_true, Bool.false_eq_true, reduceIte, Nat.zero_add, Nat.succ_eq_add_one, Int.reduceNeg, beq_self_eq_true, idx_lst _ _ _ hA, hs, perV, hd, diV, isNone_int, h, decide_true]
      exact ⟨by simp [aliveP, h, hd], trivial⟩
  · try simp (disch := first | decide | omega) only [↓ed00, ↓ed01, ↓ed03, ↓ed04, ↓ed05, ↓ed06, ↓ed07, ↓ed08, ↓ed09, ↓ed10, ↓ed11, ↓ed12, ↓ed13, ↓ed14, ↓ed15, ↓ed16, ↓ed17, ↓ed18, ↓ed19, ↓ed20, ↓ed21, ↓ed23, ↓ed24, ↓ed25, ↓ed26, ↓ed27, ↓ed28, ↓ed29, ↓ed30, ↓ed31, ↓ed32, ↓ed33, ↓ed34, ↓ed35, ↓ed36, ↓ed37, ↓ed38, ↓ed39, ↓ed40, ↓ed41, ↓ed42, ↓ed46, ↓ed47, eu00, eu01, eu02, eu03, eu04, eu05, eu06, eu09, eu10, eu11, eu14, eu15, eu18, eu19, eu20, eu21, eu22, eu23, eu24, eu25, eu26, eu27, eu28, eu29, eu30, eu31, eu32, eu33, eu34, eu35, eu36, eu37, eu38, eu39, eu40, eu41, eu42, eu43, eu44, eu46, eu47, eu48, eu49, eu50, eu51, eo00, eo01, eo02, eo03, eo04, eo05, eo06, eo07, eo08, eo09, eo10, eo11, eo12, eo13, eo14, eo15, eo16, eo17, Nat.reduceAdd, Nat.reduceLT, if_true, Bool.false_eq_true, reduceIte, Nat.zero_add, Nat.succ_eq_add_one, Int.reduceNeg, beq_self_eq_true, idx_lst _ _ _ hA, hs, perV, h, decide_false]
    exact ⟨by simp [aliveP, h], trivial⟩

/-- a marriage -/
abbrev Wed := Int × Int × Int
noncomputable def wedV (w : Wed) : V := .tup [.int w.1, .int w.2.1, .int w.2.2]
noncomputable def WedOk (m : Int) (w : Wed) : Prop := 0 ≤ w.1 ∧ w.1 < m ∧ 0 ≤ w.2.1 ∧ w.2.1 < m ∧ 0 ≤ w.2.2

theorem minD_ints (H : Hp) {l : Nat} (is : List Int) (d : Int) (hA : H[l]? = some (.list (is.map .int))) (Q : V → Hp → Prop) (hQ : ∀ e, Q (.int e) H) : WMinD (.ref l) (.int d) H Q := by
  unfold WMinD minDV
  cases is with
  | nil => simp only [hA, List.map_nil]; exact hQ d
  | cons a r =>
    have hall : ∀ r : List Int, allInts (r.map .int) = some r := by
      intro r; induction r with
      | nil => rfl
      | cons b t ih => rw [List.map_cons, allInts, ih]; rfl
    have := hall (a :: r)
    simp only [hA, List.map_cons] at this ⊢
    rw [this]
    exact hQ _

theorem w_ends (n l : Nat) (w : Wed) (H : Hp) (ps : List Per) (hA : H[l]? = some (.list (ps.map perV))) (hw : WedOk ps.length w) : Wp (callF scr pgks pfns (n + 1) i_law_ends [.ref l, wedV w] H) fun v H' =>
    ∃ e : Int, v = .int e ∧ Kept H.length H H' := by
  rw [c_law_ends, Wp_end]
  refine WSs.sound _ ?_
  unfold pb_law_ends
  obtain ⟨a, b, d⟩ := w
  obtain ⟨ha0, ha1, hb0, hb1, _⟩ := hw
  simp only at ha0 ha1 hb0 hb1
  have hsl : pySlice [V.int a, V.int b, V.int d] none (some 2) = [a, b].map .int := rfl
  have hpow : ∀ H Q, WBin .pow (.int 10) (.int 9) H Q = Q (.int 1000000000) H := fun _ _ => rfl
  try simp (disch := first | decide | omega) only [↓ed00, ↓ed01, ↓ed03, ↓ed04, ↓ed05, ↓ed06, ↓ed07, ↓ed08, ↓ed09, ↓ed10, ↓ed11, ↓ed12, ↓ed13, ↓ed14, ↓ed15, ↓ed16, ↓ed17, ↓ed18, ↓ed19, ↓ed20, ↓ed21, ↓ed23, ↓ed24, ↓ed25, ↓ed26, ↓ed27, ↓ed28, ↓ed29, ↓ed30, ↓ed31, ↓ed32, ↓ed33, ↓ed34, ↓ed35, ↓ed36, ↓ed37, ↓ed38, ↓ed39, ↓ed40, ↓ed41, ↓ed42, ↓ed46, ↓ed47, eu00, eu01, eu02, eu03, eu04, eu05, eu06, eu09, eu10, eu11, eu14, eu15, eu18, eu19, eu20, eu21, eu22, eu23, eu24, eu25, eu26, eu27, eu28, eu29, eu30, eu31, eu32, eu33, eu34, eu35, eu36, eu37, eu38, eu39, eu40, eu41, eu42, eu43, eu44, eu46, eu47, eu48, eu49, eu50, eu51, eo00, eo01, eo02, eo03, eo04, eo05, eo06, eo07, eo08, eo09, eo10, eo11, eo12, eo13, eo14, eo15, eo16, eo17, Nat.reduceAdd, Nat.reduceLT, if_true, Bool.false_eq_true, reduceIte, Nat.zero_add, Nat.succ_eq_add_one, Int.reduceNeg, beq_self_eq_true, wedV, WSlc_tup _ _ _ _ .none (.int 2) (l := none) (h := some 2) (by rfl) (by rfl), hsl]
  have hin : ∀ x, x ∈ [a, b] → ∃ p, seqAt (ps.map perV) x = some (perV p) ∧ ps[x.toNat]? = some p := by
    intro x hx
    have : x = a ∨ x = b := by simpa using hx
    rcases this with rfl | rfl
    · exact per_at ha0 ha1
    · exact per_at hb0 hb1
  refine comp_fm V.int (fun x => (((ps[x.toNat]?).bind (·.died)).isSome)) (fun x => .int (((ps[x.toNat]?).bind (·.died)).getD 0)) (by simp) ?_ ?_ ?_
  · intro x hx Q hQ
    obtain ⟨p, hs, hp⟩ := hin x hx
    rw [hp] at hQ
    try simp (disch := first | decide | omega) only [↓ed00, ↓ed01, ↓ed03, ↓ed04, ↓ed05, ↓ed06, ↓ed07, ↓ed08, ↓ed09, ↓ed10, ↓ed11, ↓ed12, ↓ed13, ↓ed14, ↓ed15, ↓ed16, ↓ed17, ↓ed18, ↓ed19, ↓ed20, ↓ed21, ↓ed23, ↓ed24, ↓ed25, ↓ed26, ↓ed27, ↓ed28, ↓ed29, ↓ed30, ↓ed31, ↓ed32, ↓ed33, ↓ed34, ↓ed35, ↓ed36, ↓ed37, ↓ed38, ↓ed39, ↓ed40, ↓ed41, ↓ed42, ↓ed46, ↓ed47, eu00, eu01, eu02, eu03, eu04, eu05, eu06, eu09, eu10, eu11, eu14, eu15, eu18, eu19, eu20, eu21, eu22, eu23, eu24, eu25, eu26, eu27, eu28, eu29, eu30, eu31, eu32, eu33, eu34, eu35, eu36, eu37, eu38, eu39, eu40, eu41, eu42, eu43, eu44, eu46, eu47, eu48, eu49, eu50, eu51, eo00, eo01, eo02, eo03, eo04, eo05, eo06, eo07, eo08, eo09, eo10, eo11, eo12, eo13, eo14, eo15, eo16, eo17, Nat.reduceAdd, Nat.reduceLT, if_true, Bool.false_eq_true, reduceIte, Nat.zero_add, Nat.succ_eq_add_one, Int.reduceNeg, beq_self_eq_true, idx_lst _ _ _ hA, hs, perV]
    cases hd : p.died with
    | none => rw [show (!isNoneV (diV none)) = false from rfl, wIf_f]; simpa [hd] using hQ
    | some e => try simp (disch := first | decide | omega) only [↓ed00, ↓ed01, ↓ed03, ↓ed04, ↓ed05, ↓ed06, ↓ed07, ↓ed08, ↓ed09, ↓ed10, ↓ed11, ↓ed12, ↓ed13, ↓ed14, ↓ed15, ↓ed16, ↓ed17, ↓ed18, ↓ed19, ↓ed20, ↓ed21, ↓ed23, ↓ed24, ↓ed25, ↓ed26, ↓ed27, ↓ed28, ↓ed29, ↓ed30, ↓ed31, ↓ed32, ↓ed33, ↓ed34, ↓ed35, ↓ed36, ↓ed37, ↓ed38, ↓ed39, ↓ed40, ↓ed41, ↓ed42, ↓ed46, ↓ed47, eu00, eu01, eu02, eu03, eu04, eu05, eu06, eu09, eu10, eu11, eu14, eu15, eu18, eu19, eu20, eu21, eu22, eu23, eu24, eu25, eu26, eu27, eu28, eu29, eu30, eu31, eu32, eu33, eu34, eu35, eu36, eu37, eu38, eu39, eu40, eu41, eu42, eu43, eu44, eu46, eu47, eu48, eu49, eu50, eu51, eo00, eo01, eo02, eo03, eo04, eo05, eo06, eo07, eo08, eo09, eo10, eo11, eo12, eo13, eo14, eo15, eo16, eo17, Nat.reduceAdd, Nat.reduceLT, if_true, Bool.false_eq_true, reduceIte, Nat.zero_add, Nat.succ_eq_add_one, Int.reduceNeg, beq_self_eq_true, diV, isNone_int]; simpa [hd] using hQ
  · intro x hx hq Q hQ
    obtain ⟨p, hs, hp⟩ := hin x hx
    rw [hp] at hQ hq
    try simp (disch := first | decide | omega) only [↓ed00, ↓ed01, ↓ed03, ↓ed04, ↓ed05, ↓ed06, ↓ed07, ↓ed08, ↓ed09, ↓ed10, ↓ed11, ↓ed12, ↓ed13, ↓ed14, ↓ed15, ↓ed16, ↓ed17, ↓ed18, ↓ed19, ↓ed20, ↓ed21, ↓ed23, ↓ed24, ↓ed25, ↓ed26, ↓ed27, ↓ed28, ↓ed29, ↓ed30, ↓ed31, ↓ed32, ↓ed33, ↓ed34, ↓ed35, ↓ed36, ↓ed37, ↓ed38, ↓ed39, ↓ed40, ↓ed41, ↓ed42, ↓ed46, ↓ed47, eu00, eu01, eu02, eu03, eu04, eu05, eu06, eu09, eu10, eu11, eu14, eu15, eu18, eu19, eu20, eu21, eu22, eu23, eu24, eu25, eu26, eu27, eu28, eu29, eu30, eu31, eu32, eu33, eu34, eu35, eu36, eu37, eu38, eu39, eu40, eu41, eu42, eu43, eu44, eu46, eu47, eu48, eu49, eu50, eu51, eo00, eo01, eo02, eo03, eo04, eo05, eo06, eo07, eo08, eo09, eo10, eo11, eo12, eo13, eo14, eo15, eo16, eo17, Nat.reduceAdd, Nat.reduceLT, if_true, Bool.false_eq_true, reduceIte, Nat.zero_add, Nat.succ_eq_add_one, Int.reduceNeg, beq_self_eq_true, idx_lst _ _ _ hA, hs, perV]
    cases hd : p.died with
    | none => simp [hd] at hq
    | some e => simpa [hd, diV] using hQ
  · have : ∀ is : List Int, is.map (fun x => V.int (((ps[x.toNat]?).bind (·.died)).getD 0)) = (is.map (fun x => ((ps[x.toNat]?).bind (·.died)).getD 0)).map .int := by intro is; simp
    rw [this]
    try simp (disch := first | decide | omega) only [↓ed00, ↓ed01, ↓ed03, ↓ed04, ↓ed05, ↓ed06, ↓ed07, ↓ed08, ↓ed09, ↓ed10, ↓ed11, ↓ed12, ↓ed13, ↓ed14, ↓ed15, ↓ed16, ↓ed17, ↓ed18, ↓ed19, ↓ed20, ↓ed21, ↓ed23, ↓ed24, ↓ed25, ↓ed26, ↓ed27, ↓ed28, ↓ed29, ↓ed30, ↓ed31, ↓ed32, ↓ed33, ↓ed34, ↓ed35, ↓ed36, ↓ed37, ↓ed38, ↓ed39, ↓ed40, ↓ed41, ↓ed42, ↓ed46, ↓ed47, eu00, eu01, eu02, eu03, eu04, eu05, eu06, eu09, eu10, eu11, eu14, eu15, eu18, eu19, eu20, eu21, eu22, eu23, eu24, eu25, eu26, eu27, eu28, eu29, eu30, eu31, eu32, eu33, eu34, eu35, eu36, eu37, eu38, eu39, eu40, eu41, eu42, eu43, eu44, eu46, eu47, eu48, eu49, eu50, eu51, eo00, eo01, eo02, eo03, eo04, eo05, eo06, eo07, eo08, eo09, eo10, eo11, eo12, eo13, eo14, eo15, eo16, eo17, Nat.reduceAdd, Nat.reduceLT, if_true, Bool.false_eq_true, reduceIte, Nat.zero_add, Nat.succ_eq_add_one, Int.reduceNeg, beq_self_eq_true, hpow]
    refine minD_ints _ _ _ (at_new _ _) _ ?_
    intro e
    exact ⟨e, rfl, Kept.app _ _⟩

theorem w_meets (n l : Nat) (w u : Wed) (H : Hp) (ps : List Per) (hA : H[l]? = some (.list (ps.map perV))) (hw : WedOk ps.length w) (hu : WedOk ps.length u) : Wp (callF scr pgks pfns (n + 2) i_law_meets [.ref l, wedV w, wedV u] H) fun v H' =>
    ∃ b : Bool, v = .bool b ∧ Kept H.length H H' := by
  rw [c_law_meets, Wp_end]
  refine WSs.sound _ ?_
  unfold pb_law_meets
  try simp (disch := first | decide | omega) only [↓ed00, ↓ed01, ↓ed03, ↓ed04, ↓ed05, ↓ed06, ↓ed07, ↓ed08, ↓ed09, ↓ed10, ↓ed11, ↓ed12, ↓ed13, ↓ed14, ↓ed15, ↓ed16, ↓ed17, ↓ed18, ↓ed19, ↓ed20, ↓ed21, ↓ed23, ↓ed24, ↓ed25, ↓ed26, ↓ed27, ↓ed28, ↓ed29, ↓ed30, ↓ed31, ↓ed32, ↓ed33, ↓ed34, ↓ed35, ↓ed36, ↓ed37, ↓ed38, ↓ed39, ↓ed40, ↓ed41, ↓ed42, ↓ed46, ↓ed47, eu00, eu01, eu02, eu03, eu04, eu05, eu06, eu09, eu10, eu11, eu14, eu15, eu18, eu19, eu20, eu21, eu22, eu23, eu24, eu25, eu26, eu27, eu28, eu29, eu30, eu31, eu32, eu33, eu34, eu35, eu36, eu37, eu38, eu39, eu40, eu41, eu42, eu43, eu44, eu46, eu47, eu48, eu49, eu50, eu51, eo00, eo01, eo02, eo03, eo04, eo05, eo06, eo07, eo08, eo09, eo10, eo11, eo12, eo13, eo14, eo15, eo16, eo17, Nat.reduceAdd, Nat.reduceLT, if_true, Bool.false_eq_true, reduceIte, Nat.zero_add, Nat.succ_eq_add_one, Int.reduceNeg, beq_self_eq_true]
  refine call_of (w_ends scr n l w H ps hA hw) ?_
  rintro v H₁ ⟨e, rfl, hF⟩
  try simp (disch := first | decide | omega) only [↓ed00, ↓ed01, ↓ed03, ↓ed04, ↓ed05, ↓ed06, ↓ed07, ↓ed08, ↓ed09, ↓ed10, ↓ed11, ↓ed12, ↓ed13, ↓ed14, ↓ed15, ↓ed16, ↓ed17, ↓ed18, ↓ed19, ↓ed20, ↓ed21, ↓ed23, ↓ed24, ↓ed25, ↓ed26, ↓ed27, ↓ed28, ↓ed29, ↓ed30, ↓ed31, ↓ed32, ↓ed33, ↓ed34, ↓ed35, ↓ed36, ↓ed37, ↓ed38, ↓ed39, ↓ed40, ↓ed41, ↓ed42, ↓ed46, ↓ed47, eu00, eu01, eu02, eu03, eu04, eu05, eu06, eu09, eu10, eu11, eu14, eu15, eu18, eu19, eu20, eu21, eu22, eu23, eu24, eu25, eu26, eu27, eu28, eu29, eu30, eu31, eu32, eu33, eu34, eu35, eu36, eu37, eu38, eu39, eu40, eu41, eu42, eu43, eu44, eu46, eu47, eu48, eu49, eu50, eu51, eo00, eo01, eo02, eo03, eo04, eo05, eo06, eo07, eo08, eo09, eo10, eo11, eo12, eo13, eo14, eo15, eo16, eo17, Nat.reduceAdd, Nat.reduceLT, if_true, Bool.false_eq_true, reduceIte, Nat.zero_add, Nat.succ_eq_add_one, Int.reduceNeg, beq_self_eq_true, show ∀ k, idxV scr (wedV u) (.int k) H₁ = seqAt [.int u.1, .int u.2.1, .int u.2.2] k from fun _ => rfl]
  refine wIf_split ?_ ?_
  · intro _
    refine call_of (w_ends scr n l u H₁ ps (hF.at' hA) hu) ?_
    rintro v H₂ ⟨e, rfl, hF2⟩
    try simp (disch := first | decide | omega) only [↓ed00, ↓ed01, ↓ed03, ↓ed04, ↓ed05, ↓ed06, ↓ed07, ↓ed08, ↓ed09, ↓ed10, ↓ed11, ↓ed12, ↓ed13, ↓ed14, ↓ed15, ↓ed16, ↓ed17, ↓ed18, ↓ed19, ↓ed20, ↓ed21, ↓ed23, ↓ed24, ↓ed25, ↓ed26, ↓ed27, ↓ed28, ↓ed29, ↓ed30, ↓ed31, ↓ed32, ↓ed33, ↓ed34, ↓ed35, ↓ed36, ↓ed37, ↓ed38, ↓ed39, ↓ed40, ↓ed41, ↓ed42, ↓ed46, ↓ed47, eu00, eu01, eu02, eu03, eu04, eu05, eu06, eu09, eu10, eu11, eu14, eu15, eu18, eu19, eu20, eu21, eu22, eu23, eu24, eu25, eu26, eu27, eu28, eu29, eu30, eu31, eu32, eu33, eu34, eu35, eu36, eu37, eu38, eu39, eu40, eu41, eu42, eu43, eu44, eu46, eu47, eu48, eu49, eu50, eu51, eo00, eo01, eo02, eo03, eo04, eo05, eo06, eo07, eo08, eo09, eo10, eo11, eo12, eo13, eo14, eo15, eo16, eo17, Nat.reduceAdd, Nat.reduceLT, if_true, Bool.false_eq_true, reduceIte, Nat.zero_add, Nat.succ_eq_add_one, Int.reduceNeg, beq_self_eq_true, show ∀ k, idxV scr (wedV w) (.int k) H₂ = seqAt [.int w.1, .int w.2.1, .int w.2.2] k from fun _ => rfl]
    exact ⟨_, rfl, hF.tr hF2⟩
  · intro _
    exact ⟨_, rfl, hF⟩

theorem emod_rng (x : Int) {m : Int} (h : 0 < m) : 0 ≤ x % m ∧ x % m < m := ⟨Int.emod_nonneg _ (by omega), Int.emod_lt_of_pos _ h⟩

theorem w_weddings (n l : Nat) (c m : Int) (H : Hp) (ps : List Per) (hA : H[l]? = some (.list (ps.map perV))) (hW : WfP ps) (hp0 : 0 < ps.length) (hm0 : 0 ≤ m) (hm1 : m ≤ 60) : Wp (callF scr pgks pfns (n + 3) i_law_weddings [.ref l, .int c, .int m] H) fun v H' =>
    ∃ (l' : Nat) (ws : List Wed), v = .ref l' ∧ H.length ≤ l' ∧ Kept H.length H H' ∧ H'[l']? = some (.list (ws.map wedV)) ∧ ws.length ≤ 60 ∧ ∀ w ∈ ws, WedOk ps.length w := by
  rw [c_law_weddings, Wp_end]
  refine WSs.sound _ ?_
  unfold pb_law_weddings
  try simp (disch := first | decide | omega) only [↓ed00, ↓ed01, ↓ed03, ↓ed04, ↓ed05, ↓ed06, ↓ed07, ↓ed08, ↓ed09, ↓ed10, ↓ed11, ↓ed12, ↓ed13, ↓ed14, ↓ed15, ↓ed16, ↓ed17, ↓ed18, ↓ed19, ↓ed20, ↓ed21, ↓ed23, ↓ed24, ↓ed25, ↓ed26, ↓ed27, ↓ed28, ↓ed29, ↓ed30, ↓ed31, ↓ed32, ↓ed33, ↓ed34, ↓ed35, ↓ed36, ↓ed37, ↓ed38, ↓ed39, ↓ed40, ↓ed41, ↓ed42, ↓ed46, ↓ed47, eu00, eu01, eu02, eu03, eu04, eu05, eu06, eu09, eu10, eu11, eu14, eu15, eu18, eu19, eu20, eu21, eu22, eu23, eu24, eu25, eu26, eu27, eu28, eu29, eu30, eu31, eu32, eu33, eu34, eu35, eu36, eu37, eu38, eu39, eu40, eu41, eu42, eu43, eu44, eu46, eu47, eu48, eu49, eu50, eu51, eo00, eo01, eo02, eo03, eo04, eo05, eo06, eo07, eo08, eo09, eo10, eo11, eo12, eo13, eo14, eo15, eo16, eo17, Nat.reduceAdd, Nat.reduceLT, if_true, Bool.false_eq_true, reduceIte, Nat.zero_add, Nat.succ_eq_add_one, Int.reduceNeg, beq_self_eq_true]
  refine call_of (w_stream scr (n + 1) c m _ hm0 (by omega)) ?_
  rintro v H₂ ⟨ls, xs, rfl, hls, hF2, hX, hxl, hxr⟩
  have hN := hF2.at' (at_new H (.list []))
  have hFH : Kept H.length H H₂ := (Kept.app _ _).tr hF2
  simp only [List.length_append, List.length_cons, List.length_nil] at hls
  have hne : H.length ≠ ls := by omega
  try simp (disch := first | decide | omega) only [↓ed00, ↓ed01, ↓ed03, ↓ed04, ↓ed05, ↓ed06, ↓ed07, ↓ed08, ↓ed09, ↓ed10, ↓ed11, ↓ed12, ↓ed13, ↓ed14, ↓ed15, ↓ed16, ↓ed17, ↓ed18, ↓ed19, ↓ed20, ↓ed21, ↓ed23, ↓ed24, ↓ed25, ↓ed26, ↓ed27, ↓ed28, ↓ed29, ↓ed30, ↓ed31, ↓ed32, ↓ed33, ↓ed34, ↓ed35, ↓ed36, ↓ed37, ↓ed38, ↓ed39, ↓ed40, ↓ed41, ↓ed42, ↓ed46, ↓ed47, eu00, eu01, eu02, eu03, eu04, eu05, eu06, eu09, eu10, eu11, eu14, eu15, eu18, eu19, eu20, eu21, eu22, eu23, eu24, eu25, eu26, eu27, eu28, eu29, eu30, eu31, eu32, eu33, eu34, eu35, eu36, eu37, eu38, eu39, eu40, eu41, eu42, eu43, eu44, eu46, eu47, eu48, eu49, eu50, eu51, eo00, eo01, eo02, eo03, eo04, eo05, eo06, eo07, eo08, eo09, eo10, eo11, eo12, eo13, eo14, eo15, eo16, eo17, Nat.reduceAdd, Nat.reduceLT, if_true, Bool.false_eq_true, reduceIte, Nat.zero_add, Nat.succ_eq_add_one, Int.reduceNeg, beq_self_eq_true, seqOf_lst _ _ hX]
  refine for_inv (fun k ρ H' => ∃ (ws : List Wed) (a b d e f g h : Option V), ρ = [some (.ref l), some (.int c), some (.int m), some (.ref H.length), a, b, d, e, f, g, h] ∧ Kept H.length H H' ∧ H'[H.length]? = some (.list (ws.map wedV)) ∧ H'[ls]? = some (.list (xs.map .int)) ∧ ws.length ≤ k ∧ ∀ w ∈ ws, WedOk ps.length w) ?_ ?_ ?_
  · exact ⟨[], _, _, _, _, _, _, _, rfl, hFH, hN, hX, by simp, by simp⟩
  · rintro k v ρ Hk hv ⟨ws, oa, ob, od, oe, of, og, oh, rfl, hFk, hNk, hXk, hl, hws⟩
    rw [List.getElem?_map] at hv
    obtain ⟨x, hx, rfl⟩ : ∃ x, xs[k]? = some x ∧ v = .int x := by
      cases hx : xs[k]? with
      | none => rw [hx] at hv; simp at hv
      | some x => rw [hx] at hv; exact ⟨x, rfl, by simpa using hv.symm⟩
    have hkx := (List.getElem?_eq_some_iff.mp hx).1
    have hAk := hFk.at' hA
    have hlen : (0 : Int) < ps.length := by omega
    obtain ⟨ha0, ha1⟩ := emod_rng x hlen
    obtain ⟨hb0, hb1⟩ := emod_rng (x / 60) hlen
    obtain ⟨p, hp, hp'⟩ := per_at (ps := ps) ha0 ha1
    obtain ⟨q, hq, hq'⟩ := per_at (ps := ps) hb0 hb1
    obtain ⟨hday, -⟩ : 0 ≤ max p.born q.born + x / 3600 % 40 ∧ True := by
      have h1 := (hW _ _ hp').1
      have h2 := (hW _ _ hq').1
      exact ⟨by omega, trivial⟩
    generalize hw : (x % (ps.length : Int), x / 60 % (ps.length : Int), max p.born q.born + x / 3600 % 40) = w
    have hwok : WedOk ps.length w := by rw [← hw]; exact ⟨ha0, ha1, hb0, hb1, hday⟩
    simp only [wSome_some, asg_var, asg_tup, asgs_cons, asgs_nil, Option.bind_some, List.set_cons_succ, List.set_cons_zero, List.length_cons, List.length_nil, Nat.reduceAdd, Nat.reduceLT, reduceIte, Nat.zero_add, Nat.succ_eq_add_one, List.take_succ_cons, List.take_zero, List.drop_succ_cons, List.drop_zero]
    refine cut 5 (fun ρ' H' => H' = Hk ∧ ∃ t : Bool, ρ' = [some (.ref l), some (.int c), some (.int m), some (.ref H.length), some (.int x), some (.int w.1), some (.int w.2.1), some (.int w.2.2), some (wedV w), some (.bool t), oh]) ?_ ?_
    · try simp (disch := first | decide | omega) only [↓ed00, ↓ed01, ↓ed03, ↓ed04, ↓ed05, ↓ed06, ↓ed07, ↓ed08, ↓ed09, ↓ed10, ↓ed11, ↓ed12, ↓ed13, ↓ed14, ↓ed15, ↓ed16, ↓ed17, ↓ed18, ↓ed19, ↓ed20, ↓ed21, ↓ed23, ↓ed24, ↓ed25, ↓ed26, ↓ed27, ↓ed28, ↓ed29, ↓ed30, ↓ed31, ↓ed32, ↓ed33, ↓ed34, ↓ed35, ↓ed36, ↓ed37, ↓ed38, ↓ed39, ↓ed40, ↓ed41, ↓ed42, ↓ed46, ↓ed47, eu00, eu01, eu02, eu03, eu04, eu05, eu06, eu09, eu10, eu11, eu14, eu15, eu18, eu19, eu20, eu21, eu22, eu23, eu24, eu25, eu26, eu27, eu28, eu29, eu30, eu31, eu32, eu33, eu34, eu35, eu36, eu37, eu38, eu39, eu40, eu41, eu42, eu43, eu44, eu46, eu47, eu48, eu49, eu50, eu51, eo00, eo01, eo02, eo03, eo04, eo05, eo06, eo07, eo08, eo09, eo10, eo11, eo12, eo13, eo14, eo15, eo16, eo17, Nat.reduceAdd, Nat.reduceLT, if_true, Bool.false_eq_true, reduceIte, Nat.zero_add, Nat.succ_eq_add_one, Int.reduceNeg, beq_self_eq_true, WBi_lenL _ _ _ hAk, List.length_map, idx_lst _ _ _ hAk, hp, hq, perV]
      refine wIf_split ?_ ?_
      · intro h
        refine call_of (w_llives scr (n + 1) l _ _ Hk ps p hAk ha0 hp') ?_
        rintro v H' ⟨rfl, rfl⟩
        try simp (disch := first | decide | omega) only [↓ed00, ↓ed01, ↓ed03, ↓ed04, ↓ed05, ↓ed06, ↓ed07, ↓ed08, ↓ed09, ↓ed10, ↓ed11, ↓ed12, ↓ed13, ↓ed14, ↓ed15, ↓ed16, ↓ed17, ↓ed18, ↓ed19, ↓ed20, ↓ed21, ↓ed23, ↓ed24, ↓ed25, ↓ed26, ↓ed27, ↓ed28, ↓ed29, ↓ed30, ↓ed31, ↓ed32, ↓ed33, ↓ed34, ↓ed35, ↓ed36, ↓ed37, ↓ed38, ↓ed39, ↓ed40, ↓ed41, ↓ed42, ↓ed46, ↓ed47, eu00, eu01, eu02, eu03, eu04, eu05, eu06, eu09, eu10, eu11, eu14, eu15, eu18, eu19, eu20, eu21, eu22, eu23, eu24, eu25, eu26, eu27, eu28, eu29, eu30, eu31, eu32, eu33, eu34, eu35, eu36, eu37, eu38, eu39, eu40, eu41, eu42, eu43, eu44, eu46, eu47, eu48, eu49, eu50, eu51, eo00, eo01, eo02, eo03, eo04, eo05, eo06, eo07, eo08, eo09, eo10, eo11, eo12, eo13, eo14, eo15, eo16, eo17, Nat.reduceAdd, Nat.reduceLT, if_true, Bool.false_eq_true, reduceIte, Nat.zero_add, Nat.succ_eq_add_one, Int.reduceNeg, beq_self_eq_true]
        refine wIf_split ?_ ?_
        · intro _
          refine call_of (w_llives scr (n + 1) l _ _ H' ps q hAk hb0 hq') ?_
          rintro v H'' ⟨rfl, rfl⟩
          try simp (disch := first | decide | omega) only [↓ed00, ↓ed01, ↓ed03, ↓ed04, ↓ed05, ↓ed06, ↓ed07, ↓ed08, ↓ed09, ↓ed10, ↓ed11, ↓ed12, ↓ed13, ↓ed14, ↓ed15, ↓ed16, ↓ed17, ↓ed18, ↓ed19, ↓ed20, ↓ed21, ↓ed23, ↓ed24, ↓ed25, ↓ed26, ↓ed27, ↓ed28, ↓ed29, ↓ed30, ↓ed31, ↓ed32, ↓ed33, ↓ed34, ↓ed35, ↓ed36, ↓ed37, ↓ed38, ↓ed39, ↓ed40, ↓ed41, ↓ed42, ↓ed46, ↓ed47, eu00, eu01, eu02, eu03, eu04, eu05, eu06, eu09, eu10, eu11, eu14, eu15, eu18, eu19, eu20, eu21, eu22, eu23, eu24, eu25, eu26, eu27, eu28, eu29, eu30, eu31, eu32, eu33, eu34, eu35, eu36, eu37, eu38, eu39, eu40, eu41, eu42, eu43, eu44, eu46, eu47, eu48, eu49, eu50, eu51, eo00, eo01, eo02, eo03, eo04, eo05, eo06, eo07, eo08, eo09, eo10, eo11, eo12, eo13, eo14, eo15, eo16, eo17, Nat.reduceAdd, Nat.reduceLT, if_true, Bool.false_eq_true, reduceIte, Nat.zero_add, Nat.succ_eq_add_one, Int.reduceNeg, beq_self_eq_true]
          exact ⟨trivial, _, by rw [← hw]; rfl⟩
        · intro _
          exact ⟨trivial, _, by rw [← hw]; rfl⟩
      · intro h
        exact ⟨trivial, _, by rw [← hw]; rfl⟩
    · rintro ρ' H' ⟨rfl, t, rfl⟩
      simp only [List.drop_succ_cons, List.drop_zero]
      refine cut 1 (fun ρ' H'' => ∃ (t : Bool) (oh : Option V), ρ' = [some (.ref l), some (.int c), some (.int m), some (.ref H.length), some (.int x), some (.int w.1), some (.int w.2.1), some (.int w.2.2), some (wedV w), some (.bool t), oh] ∧ Kept H'.length H' H'') ?_ ?_
      · try simp (disch := first | decide | omega) only [↓ed00, ↓ed01, ↓ed03, ↓ed04, ↓ed05, ↓ed06, ↓ed07, ↓ed08, ↓ed09, ↓ed10, ↓ed11, ↓ed12, ↓ed13, ↓ed14, ↓ed15, ↓ed16, ↓ed17, ↓ed18, ↓ed19, ↓ed20, ↓ed21, ↓ed23, ↓ed24, ↓ed25, ↓ed26, ↓ed27, ↓ed28, ↓ed29, ↓ed30, ↓ed31, ↓ed32, ↓ed33, ↓ed34, ↓ed35, ↓ed36, ↓ed37, ↓ed38, ↓ed39, ↓ed40, ↓ed41, ↓ed42, ↓ed46, ↓ed47, eu00, eu01, eu02, eu03, eu04, eu05, eu06, eu09, eu10, eu11, eu14, eu15, eu18, eu19, eu20, eu21, eu22, eu23, eu24, eu25, eu26, eu27, eu28, eu29, eu30, eu31, eu32, eu33, eu34, eu35, eu36, eu37, eu38, eu39, eu40, eu41, eu42, eu43, eu44, eu46, eu47, eu48, eu49, eu50, eu51, eo00, eo01, eo02, eo03, eo04, eo05, eo06, eo07, eo08, eo09, eo10, eo11, eo12, eo13, eo14, eo15, eo16, eo17, Nat.reduceAdd, Nat.reduceLT, if_true, Bool.false_eq_true, reduceIte, Nat.zero_add, Nat.succ_eq_add_one, Int.reduceNeg, beq_self_eq_true, seqOf_lst _ _ hNk]
        refine for_inv (fun j ρ' H'' => ∃ (t : Bool) (oh : Option V), ρ' = [some (.ref l), some (.int c), some (.int m), some (.ref H.length), some (.int x), some (.int w.1), some (.int w.2.1), some (.int w.2.2), some (wedV w), some (.bool t), oh] ∧ Kept H'.length H' H'') ?_ ?_ ?_
        · exact ⟨t, oh, rfl, Kept.refl (Nat.le_refl _)⟩
        · rintro j v ρ Hj hv ⟨t, oh, rfl, hFj⟩
          rw [List.getElem?_map] at hv
          obtain ⟨u, hu, rfl⟩ : ∃ u, ws[j]? = some u ∧ v = wedV u := by
            cases hx : ws[j]? with
            | none => rw [hx] at hv; simp at hv
            | some x => rw [hx] at hv; exact ⟨x, rfl, by simpa using hv.symm⟩
          have huok := hws u (List.mem_of_getElem? hu)
          have hsl : pySlice [V.int u.1, V.int u.2.1, V.int u.2.2] none (some 2) = [u.1, u.2.1].map .int := rfl
          have hslc : ∀ H Q, WSlc scr (wedV u) .none (.int 2) H Q = Q (.tup ([u.1, u.2.1].map .int)) H := fun _ _ => rfl
          have hst : ∀ {H''}, Kept H'.length H' H'' → stands (watch (.ref H.length)) H' H'' = true := fun h => stands_ref (h.at' hNk) hNk
          simp only [wSome_some, asg_var, asg_tup, asgs_cons, asgs_nil, Option.bind_some, List.set_cons_succ, List.set_cons_zero, List.length_cons, List.length_nil, Nat.reduceAdd, Nat.reduceLT, reduceIte, Nat.zero_add, Nat.succ_eq_add_one, List.take_succ_cons, List.take_zero, List.drop_succ_cons, List.drop_zero]
          refine if_cut (fun b H'' => H'' = Hj) ?_ ?_ ?_
          · try simp (disch := first | decide | omega) only [↓ed00, ↓ed01, ↓ed03, ↓ed04, ↓ed05, ↓ed06, ↓ed07, ↓ed08, ↓ed09, ↓ed10, ↓ed11, ↓ed12, ↓ed13, ↓ed14, ↓ed15, ↓ed16, ↓ed17, ↓ed18, ↓ed19, ↓ed20, ↓ed21, ↓ed23, ↓ed24, ↓ed25, ↓ed26, ↓ed27, ↓ed28, ↓ed29, ↓ed30, ↓ed31, ↓ed32, ↓ed33, ↓ed34, ↓ed35, ↓ed36, ↓ed37, ↓ed38, ↓ed39, ↓ed40, ↓ed41, ↓ed42, ↓ed46, ↓ed47, eu00, eu01, eu02, eu03, eu04, eu05, eu06, eu09, eu10, eu11, eu14, eu15, eu18, eu19, eu20, eu21, eu22, eu23, eu24, eu25, eu26, eu27, eu28, eu29, eu30, eu31, eu32, eu33, eu34, eu35, eu36, eu37, eu38, eu39, eu40, eu41, eu42, eu43, eu44, eu46, eu47, eu48, eu49, eu50, eu51, eo00, eo01, eo02, eo03, eo04, eo05, eo06, eo07, eo08, eo09, eo10, eo11, eo12, eo13, eo14, eo15, eo16, eo17, Nat.reduceAdd, Nat.reduceLT, if_true, Bool.false_eq_true, reduceIte, Nat.zero_add, Nat.succ_eq_add_one, Int.reduceNeg, beq_self_eq_true, hslc, in_tup]
            refine wIf_split ?_ ?_
            · intro _; trivial
            · intro _; trivial
          · rintro H'' rfl
            try simp (disch := first | decide | omega) only [↓ed00, ↓ed01, ↓ed03, ↓ed04, ↓ed05, ↓ed06, ↓ed07, ↓ed08, ↓ed09, ↓ed10, ↓ed11, ↓ed12, ↓ed13, ↓ed14, ↓ed15, ↓ed16, ↓ed17, ↓ed18, ↓ed19, ↓ed20, ↓ed21, ↓ed23, ↓ed24, ↓ed25, ↓ed26, ↓ed27, ↓ed28, ↓ed29, ↓ed30, ↓ed31, ↓ed32, ↓ed33, ↓ed34, ↓ed35, ↓ed36, ↓ed37, ↓ed38, ↓ed39, ↓ed40, ↓ed41, ↓ed42, ↓ed46, ↓ed47, eu00, eu01, eu02, eu03, eu04, eu05, eu06, eu09, eu10, eu11, eu14, eu15, eu18, eu19, eu20, eu21, eu22, eu23, eu24, eu25, eu26, eu27, eu28, eu29, eu30, eu31, eu32, eu33, eu34, eu35, eu36, eu37, eu38, eu39, eu40, eu41, eu42, eu43, eu44, eu46, eu47, eu48, eu49, eu50, eu51, eo00, eo01, eo02, eo03, eo04, eo05, eo06, eo07, eo08, eo09, eo10, eo11, eo12, eo13, eo14, eo15, eo16, eo17, Nat.reduceAdd, Nat.reduceLT, if_true, Bool.false_eq_true, reduceIte, Nat.zero_add, Nat.succ_eq_add_one, Int.reduceNeg, beq_self_eq_true]
            refine wIf_split ?_ ?_
            · intro _
              refine call_of (w_meets scr n l w u H'' ps (hFj.at' hAk) hwok huok) ?_
              rintro v H3 ⟨b, rfl, hF3⟩
              try simp (disch := first | decide | omega) only [↓ed00, ↓ed01, ↓ed03, ↓ed04, ↓ed05, ↓ed06, ↓ed07, ↓ed08, ↓ed09, ↓ed10, ↓ed11, ↓ed12, ↓ed13, ↓ed14, ↓ed15, ↓ed16, ↓ed17, ↓ed18, ↓ed19, ↓ed20, ↓ed21, ↓ed23, ↓ed24, ↓ed25, ↓ed26, ↓ed27, ↓ed28, ↓ed29, ↓ed30, ↓ed31, ↓ed32, ↓ed33, ↓ed34, ↓ed35, ↓ed36, ↓ed37, ↓ed38, ↓ed39, ↓ed40, ↓ed41, ↓ed42, ↓ed46, ↓ed47, eu00, eu01, eu02, eu03, eu04, eu05, eu06, eu09, eu10, eu11, eu14, eu15, eu18, eu19, eu20, eu21, eu22, eu23, eu24, eu25, eu26, eu27, eu28, eu29, eu30, eu31, eu32, eu33, eu34, eu35, eu36, eu37, eu38, eu39, eu40, eu41, eu42, eu43, eu44, eu46, eu47, eu48, eu49, eu50, eu51, eo00, eo01, eo02, eo03, eo04, eo05, eo06, eo07, eo08, eo09, eo10, eo11, eo12, eo13, eo14, eo15, eo16, eo17, Nat.reduceAdd, Nat.reduceLT, if_true, Bool.false_eq_true, reduceIte, Nat.zero_add, Nat.succ_eq_add_one, Int.reduceNeg, beq_self_eq_true]
              exact ⟨hst (hFj.tr hF3), _, _, rfl, hFj.tr hF3⟩
            · intro _
              exact ⟨hst hFj, _, _, rfl, hFj⟩
          · rintro H'' rfl
            try simp (disch := first | decide | omega) only [↓ed00, ↓ed01, ↓ed03, ↓ed04, ↓ed05, ↓ed06, ↓ed07, ↓ed08, ↓ed09, ↓ed10, ↓ed11, ↓ed12, ↓ed13, ↓ed14, ↓ed15, ↓ed16, ↓ed17, ↓ed18, ↓ed19, ↓ed20, ↓ed21, ↓ed23, ↓ed24, ↓ed25, ↓ed26, ↓ed27, ↓ed28, ↓ed29, ↓ed30, ↓ed31, ↓ed32, ↓ed33, ↓ed34, ↓ed35, ↓ed36, ↓ed37, ↓ed38, ↓ed39, ↓ed40, ↓ed41, ↓ed42, ↓ed46, ↓ed47, eu00, eu01, eu02, eu03, eu04, eu05, eu06, eu09, eu10, eu11, eu14, eu15, eu18, eu19, eu20, eu21, eu22, eu23, eu24, eu25, eu26, eu27, eu28, eu29, eu30, eu31, eu32, eu33, eu34, eu35, eu36, eu37, eu38, eu39, eu40, eu41, eu42, eu43, eu44, eu46, eu47, eu48, eu49, eu50, eu51, eo00, eo01, eo02, eo03, eo04, eo05, eo06, eo07, eo08, eo09, eo10, eo11, eo12, eo13, eo14, eo15, eo16, eo17, Nat.reduceAdd, Nat.reduceLT, if_true, Bool.false_eq_true, reduceIte, Nat.zero_add, Nat.succ_eq_add_one, Int.reduceNeg, beq_self_eq_true]
            exact ⟨hst hFj, _, _, rfl, hFj⟩
        · rintro ρ H'' ⟨t, oh, rfl, hF''⟩
          exact ⟨t, oh, rfl, hF''⟩
      · rintro ρ' Hm ⟨t, oh, rfl, hFm⟩
        simp only [List.drop_succ_cons, List.drop_zero]
        have hNm := hFm.at' hNk
        have hXm := hFm.at' hXk
        have hFa : Kept H.length H Hm := hFk.tr hFm
        have hsz : (ws.map wedV).length < 1000000 := by rw [List.length_map]; omega
        try simp (disch := first | decide | omega) only [↓ed00, ↓ed01, ↓ed03, ↓ed04, ↓ed05, ↓ed06, ↓ed07, ↓ed08, ↓ed09, ↓ed10, ↓ed11, ↓ed12, ↓ed13, ↓ed14, ↓ed15, ↓ed16, ↓ed17, ↓ed18, ↓ed19, ↓ed20, ↓ed21, ↓ed23, ↓ed24, ↓ed25, ↓ed26, ↓ed27, ↓ed28, ↓ed29, ↓ed30, ↓ed31, ↓ed32, ↓ed33, ↓ed34, ↓ed35, ↓ed36, ↓ed37, ↓ed38, ↓ed39, ↓ed40, ↓ed41, ↓ed42, ↓ed46, ↓ed47, eu00, eu01, eu02, eu03, eu04, eu05, eu06, eu09, eu10, eu11, eu14, eu15, eu18, eu19, eu20, eu21, eu22, eu23, eu24, eu25, eu26, eu27, eu28, eu29, eu30, eu31, eu32, eu33, eu34, eu35, eu36, eu37, eu38, eu39, eu40, eu41, eu42, eu43, eu44, eu46, eu47, eu48, eu49, eu50, eu51, eo00, eo01, eo02, eo03, eo04, eo05, eo06, eo07, eo08, eo09, eo10, eo11, eo12, eo13, eo14, eo15, eo16, eo17, Nat.reduceAdd, Nat.reduceLT, if_true, Bool.false_eq_true, reduceIte, Nat.zero_add, Nat.succ_eq_add_one, Int.reduceNeg, beq_self_eq_true]
        refine wIf_split ?_ ?_
        · intro _
          try simp (disch := first | decide | omega) only [↓ed00, ↓ed01, ↓ed03, ↓ed04, ↓ed05, ↓ed06, ↓ed07, ↓ed08, ↓ed09, ↓ed10, ↓ed11, ↓ed12, ↓ed13, ↓ed14, ↓ed15, ↓ed16, ↓ed17, ↓ed18, ↓ed19, ↓ed20, ↓ed21, ↓ed23, ↓ed24, ↓ed25, ↓ed26, ↓ed27, ↓ed28, ↓ed29, ↓ed30, ↓ed31, ↓ed32, ↓ed33, ↓ed34, ↓ed35, ↓ed36, ↓ed37, ↓ed38, ↓ed39, ↓ed40, ↓ed41, ↓ed42, ↓ed46, ↓ed47, eu00, eu01, eu02, eu03, eu04, eu05, eu06, eu09, eu10, eu11, eu14, eu15, eu18, eu19, eu20, eu21, eu22, eu23, eu24, eu25, eu26, eu27, eu28, eu29, eu30, eu31, eu32, eu33, eu34, eu35, eu36, eu37, eu38, eu39, eu40, eu41, eu42, eu43, eu44, eu46, eu47, eu48, eu49, eu50, eu51, eo00, eo01, eo02, eo03, eo04, eo05, eo06, eo07, eo08, eo09, eo10, eo11, eo12, eo13, eo14, eo15, eo16, eo17, Nat.reduceAdd, Nat.reduceLT, if_true, Bool.false_eq_true, reduceIte, Nat.zero_add, Nat.succ_eq_add_one, Int.reduceNeg, beq_self_eq_true, meKind_app _ hNm, WMeth_app _ _ _ hNm hsz]
          refine ⟨stands_ref (at_set_ne hXm hne) hX, ws ++ [w], _, _, _, _, _, _, _, rfl, hFa.trans (Kept.set _ (Nat.le_refl _) (Nat.le_of_lt (at_lt hNm))) (Nat.le_refl _), ?_, at_set_ne hXm hne, by simp <;> omega, ?_⟩
          · rw [at_set hNm]; simp
          · intro u hu
            rcases List.mem_append.mp hu with h | h
            · exact hws u h
            · have : u = w := List.mem_singleton.mp h
              rw [this]; exact hwok
        · intro _
          exact ⟨stands_ref hXm hX, ws, _, _, _, _, _, _, _, rfl, hFa, hNm, hXm, by omega, hws⟩
  · rintro ρ H' ⟨ws, oa, ob, od, oe, of, og, oh, rfl, hF', hN', hX', hl, hws⟩
    rw [List.length_map] at hl
    try simp (disch := first | decide | omega) only [↓ed00, ↓ed01, ↓ed03, ↓ed04, ↓ed05, ↓ed06, ↓ed07, ↓ed08, ↓ed09, ↓ed10, ↓ed11, ↓ed12, ↓ed13, ↓ed14, ↓ed15, ↓ed16, ↓ed17, ↓ed18, ↓ed19, ↓ed20, ↓ed21, ↓ed23, ↓ed24, ↓ed25, ↓ed26, ↓ed27, ↓ed28, ↓ed29, ↓ed30, ↓ed31, ↓ed32, ↓ed33, ↓ed34, ↓ed35, ↓ed36, ↓ed37, ↓ed38, ↓ed39, ↓ed40, ↓ed41, ↓ed42, ↓ed46, ↓ed47, eu00, eu01, eu02, eu03, eu04, eu05, eu06, eu09, eu10, eu11, eu14, eu15, eu18, eu19, eu20, eu21, eu22, eu23, eu24, eu25, eu26, eu27, eu28, eu29, eu30, eu31, eu32, eu33, eu34, eu35, eu36, eu37, eu38, eu39, eu40, eu41, eu42, eu43, eu44, eu46, eu47, eu48, eu49, eu50, eu51, eo00, eo01, eo02, eo03, eo04, eo05, eo06, eo07, eo08, eo09, eo10, eo11, eo12, eo13, eo14, eo15, eo16, eo17, Nat.reduceAdd, Nat.reduceLT, if_true, Bool.false_eq_true, reduceIte, Nat.zero_add, Nat.succ_eq_add_one, Int.reduceNeg, beq_self_eq_true]
    exact ⟨_, ws, rfl, Nat.le_refl _, hF', hN', by omega, hws⟩
end Mine.P

end
section
set_option autoImplicit false
set_option linter.unusedVariables false
set_option linter.unusedSimpArgs false
set_option maxRecDepth 100000
namespace Mine
open PySem
theorem comp_gen {α : Type} (g : α → V) (env : V → Env') (q : α → Bool) (f : α → V) {C : Ctx} {t : Tgt} {cs : List E} {elt : E} {ws : List Nat} {H : Hp} {xs : List α} {pre ρ : Env'} {Q : V → Hp → Prop} (hsz : xs.length < 1000000)
    (he : ∀ x, x ∈ xs → (env (g x)).length = pre.length ∧ ∀ p : Env', p.length = pre.length → asg t (g x) (p ++ ρ) = some (env (g x) ++ ρ))
    (step : ∀ x, x ∈ xs → ∀ Q : Bool → Hp → Prop, Q (q x) H → WT C cs (env (g x) ++ ρ) H Q)
    (selt : ∀ x, x ∈ xs → q x = true → ∀ Q : V → Hp → Prop, Q (f x) H → WE C elt (env (g x) ++ ρ) H Q)
    (fin : Q (.ref H.length) (H ++ [.list ((xs.filter q).map f)])) : WComp C t cs elt ws H (xs.map g) (pre ++ ρ) H Q := by
  have hst : ∀ H, stands ws H H = true := by intro H; simp [stands]
  refine comp_inv (pre := pre) (ρ := ρ) env (fun k acc H' => H' = H ∧ acc = ((xs.take k).filter q).map f) ?_ (by simpa using hsz) ⟨rfl, rfl⟩ ?_ ?_
  · intro v hv
    obtain ⟨x, hx, rfl⟩ := List.mem_map.mp hv
    exact he x hx
  · rintro k v acc H' hv ⟨rfl, rfl⟩
    rw [List.getElem?_map] at hv
    cases hx : xs[k]? with
    | none => rw [hx] at hv; simp at hv
    | some x =>
      rw [hx] at hv
      have hv : g x = v := by simpa using hv
      subst hv
      have hm : x ∈ xs := List.mem_of_getElem? hx
      have ht : xs.take (k + 1) = xs.take k ++ [x] := by rw [List.take_add_one, hx]; rfl
      refine step x hm _ ?_
      cases hq : q x with
      | false => rw [wIf_f]; exact ⟨hst _, rfl, by rw [ht]; simp [hq]⟩
      | true =>
        rw [wIf_t]
        exact selt x hm hq _ ⟨hst _, rfl, by rw [ht]; simp [hq]⟩
  · rintro acc H' _ ⟨rfl, rfl⟩
    rw [List.length_map, List.take_length]; exact fin
theorem WBi_tupleOf (scr : List Int) (H : Hp) (Q : V → Hp → Prop) {l : Nat} {xs : List V} (h : H[l]? = some (.list xs)) (h' : xs.length < 1000000) : WBi scr .tupleOf [.ref l] H Q = Q (.tup xs) H := by
  have e : itemsOf scr H (.ref l) = some xs := by simp [itemsOf, h]
  have e3 : szOk xs = true := decide_eq_true h'
  show Wp (onO (itemsOf scr H (.ref l)) fun l => if szOk l then .ok (.tup l) H else .stuck) Q = _
  rw [e]
  show Wp (if szOk xs then .ok (.tup xs) H else .stuck) Q = _
  rw [e3]; rfl
end Mine
namespace Mine.P
open PySem
variable (scr : List Int)
theorem w_lowest (n a b : Nat) (H : Hp) (hb : 0 < b) : Wp (callF scr pgks pfns (n + 1) i_law_lowest [.int a, .int b] H) fun v H' => v = prt a b ∧ H' = H := by
  rw [c_law_lowest]
  have := part_exec ⟨scr, pgks, callF scr pgks pfns n⟩ a b H hb
  unfold pb_law_lowest
  unfold partB at this
  rw [this]
  exact ⟨rfl, rfl⟩

noncomputable def giftL (ov un : Int) (o : Int) : V := .tup [.int o, .int ov, .int un]

theorem w_gifts (n l : Nat) (i x : Int) (H : Hp) (ps : List Per) (hA : H[l]? = some (.list (ps.map perV))) (hp0 : 0 < ps.length) (hx0 : 0 ≤ x) : Wp (callF scr pgks pfns (n + 1) i_law_gifts [.ref l, .int i, .int x] H) fun v H' =>
    ∃ (l' : Nat) (named : List Int) (ov mo : Nat), v = .ref l' ∧ H.length ≤ l' ∧ Kept H.length H H' ∧ H'[l']? = some (.list (named.map (giftL ov (ov * named.length + mo)))) ∧ named.length ≤ 10 ∧ named.Nodup ∧ (∀ o ∈ named, 0 ≤ o ∧ o < ps.length ∧ o ≠ i) ∧ 1 ≤ ov ∧ ov ≤ 3 ∧ mo ≤ 900 := by
  rw [c_law_gifts, Wp_end]
  refine WSs.sound _ ?_
  unfold pb_law_gifts
  refine cut 2 (fun ρ' H' => ∃ (named : List Int) (a b : Option V), ρ' = [some (.ref l), some (.int i), some (.int x), some (.ref H.length), a, b, none, none] ∧ Kept H.length H H' ∧ H'[H.length]? = some (.list (named.map .int)) ∧ named.length ≤ 10 ∧ named.Nodup ∧ (∀ o ∈ named, 0 ≤ o ∧ o < ps.length ∧ o ≠ i)) ?_ ?_
  · have hs : ∃ z : Int, seqAt [V.int 3, V.int 3, V.int 10] (x / 30 % 3) = some (.int z) ∧ 0 < z ∧ z ≤ 10 := by
      have : x / 30 % 3 = 0 ∨ x / 30 % 3 = 1 ∨ x / 30 % 3 = 2 := by omega
      rcases this with h | h | h <;> rw [h]
      · exact ⟨3, rfl, by omega, by omega⟩
      · exact ⟨3, rfl, by omega, by omega⟩
      · exact ⟨10, rfl, by omega, by omega⟩
    obtain ⟨z, hz, hz0, hz1⟩ := hs
    obtain ⟨hm0, hm1⟩ := emod_rng x hz0
    try simp (disch := first | decide | omega) only [↓ed00, ↓ed01, ↓ed03, ↓ed04, ↓ed05, ↓ed06, ↓ed07, ↓ed08, ↓ed09, ↓ed10, ↓ed11, ↓ed12, ↓ed13, ↓ed14, ↓ed15, ↓ed16, ↓ed17, ↓ed18, ↓ed19, ↓ed20, ↓ed21, ↓ed23, ↓ed24, ↓ed25, ↓ed26, ↓ed27, ↓ed28, ↓ed29, ↓ed30, ↓ed31, ↓ed32, ↓ed33, ↓ed34, ↓ed35, ↓ed36, ↓ed37, ↓ed38, ↓ed39, ↓ed40, ↓ed41, ↓ed42, ↓ed46, ↓ed47, eu00, eu01, eu02, eu03, eu04, eu05, eu06, eu09, eu10, eu11, eu14, eu15, eu18, eu19, eu20, eu21, eu22, eu23, eu24, eu25, eu26, eu27, eu28, eu29, eu30, eu31, eu32, eu33, eu34, eu35, eu36, eu37, eu38, eu39, eu40, eu41, eu42, eu43, eu44, eu46, eu47, eu48, eu49, eu50, eu51, eo00, eo01, eo02, eo03, eo04, eo05, eo06, eo07, eo08, eo09, eo10, eo11, eo12, eo13, eo14, eo15, eo16, eo17, Nat.reduceAdd, Nat.reduceLT, if_true, Bool.false_eq_true, reduceIte, Nat.zero_add, Nat.succ_eq_add_one, Int.reduceNeg, beq_self_eq_true, idx_lst _ _ _ (at_new _ _), hz]
    refine for_inv (fun k ρ' H' => ∃ (named : List Int) (a b : Option V), ρ' = [some (.ref l), some (.int i), some (.int x), some (.ref H.length), a, b, none, none] ∧ Kept H.length H H' ∧ H'[H.length]? = some (.list (named.map .int)) ∧ named.length ≤ k ∧ named.Nodup ∧ (∀ o ∈ named, 0 ≤ o ∧ o < ps.length ∧ o ≠ i)) ?_ ?_ ?_
    · exact ⟨[], _, _, rfl, (Kept.app _ _).tr (Kept.app _ _), at_app _ (at_new _ _), by simp, by simp, by simp⟩
    · rintro k v ρ Hk hv ⟨named, oa, ob, rfl, hFk, hNk, hl, hnd, hin⟩
      obtain ⟨rfl, hk⟩ := range_get hv
      have hAk := hFk.at' hA
      have hlen : (0 : Int) < ps.length := by omega
      generalize hy : (x / 90 + (0 + (k : Int)) * (1 + x / 540 % 7)) % (ps.length : Int) = y
      obtain ⟨hy0, hy1⟩ : 0 ≤ y ∧ y < ps.length := by rw [← hy]; exact emod_rng _ hlen
      have hsz : (named.map V.int).length < 1000000 := by rw [List.length_map]; omega
      simp only [wSome_some, asg_var, asg_tup, asgs_cons, asgs_nil, Option.bind_some, List.set_cons_succ, List.set_cons_zero, List.length_cons, List.length_nil, Nat.reduceAdd, Nat.reduceLT, reduceIte, Nat.zero_add, Nat.succ_eq_add_one, List.take_succ_cons, List.take_zero, List.drop_succ_cons, List.drop_zero]
      refine cut 1 (fun ρ' H' => H' = Hk ∧ ρ' = [some (.ref l), some (.int i), some (.int x), some (.ref H.length), some (.int (0 + k)), some (.int y), none, none]) ?_ ?_
      · try simp (disch := first | decide | omega) only [↓ed00, ↓ed01, ↓ed03, ↓ed04, ↓ed05, ↓ed06, ↓ed07, ↓ed08, ↓ed09, ↓ed10, ↓ed11, ↓ed12, ↓ed13, ↓ed14, ↓ed15, ↓ed16, ↓ed17, ↓ed18, ↓ed19, ↓ed20, ↓ed21, ↓ed23, ↓ed24, ↓ed25, ↓ed26, ↓ed27, ↓ed28, ↓ed29, ↓ed30, ↓ed31, ↓ed32, ↓ed33, ↓ed34, ↓ed35, ↓ed36, ↓ed37, ↓ed38, ↓ed39, ↓ed40, ↓ed41, ↓ed42, ↓ed46, ↓ed47, eu00, eu01, eu02, eu03, eu04, eu05, eu06, eu09, eu10, eu11, eu14, eu15, eu18, eu19, eu20, eu21, eu22, eu23, eu24, eu25, eu26, eu27, eu28, eu29, eu30, eu31, eu32, eu33, eu34, eu35, eu36, eu37, eu38, eu39, eu40, eu41, eu42, eu43, eu44, eu46, eu47, eu48, eu49, eu50, eu51, eo00, eo01, eo02, eo03, eo04, eo05, eo06, eo07, eo08, eo09, eo10, eo11, eo12, eo13, eo14, eo15, eo16, eo17, Nat.reduceAdd, Nat.reduceLT, if_true, Bool.false_eq_true, reduceIte, Nat.zero_add, Nat.succ_eq_add_one, Int.reduceNeg, beq_self_eq_true, WBi_lenL _ _ _ hAk, List.length_map, hy]
        exact ⟨trivial, trivial⟩
      · rintro ρ' H' ⟨rfl, rfl⟩
        simp only [List.drop_succ_cons, List.drop_zero]
        refine if_cut (fun b H'' => H'' = H' ∧ (b = true → y ≠ i ∧ ¬ y ∈ named)) ?_ ?_ ?_
        · try simp (disch := first | decide | omega) only [↓ed00, ↓ed01, ↓ed03, ↓ed04, ↓ed05, ↓ed06, ↓ed07, ↓ed08, ↓ed09, ↓ed10, ↓ed11, ↓ed12, ↓ed13, ↓ed14, ↓ed15, ↓ed16, ↓ed17, ↓ed18, ↓ed19, ↓ed20, ↓ed21, ↓ed23, ↓ed24, ↓ed25, ↓ed26, ↓ed27, ↓ed28, ↓ed29, ↓ed30, ↓ed31, ↓ed32, ↓ed33, ↓ed34, ↓ed35, ↓ed36, ↓ed37, ↓ed38, ↓ed39, ↓ed40, ↓ed41, ↓ed42, ↓ed46, ↓ed47, eu00, eu01, eu02, eu03, eu04, eu05, eu06, eu09, eu10, eu11, eu14, eu15, eu18, eu19, eu20, eu21, eu22, eu23, eu24, eu25, eu26, eu27, eu28, eu29, eu30, eu31, eu32, eu33, eu34, eu35, eu36, eu37, eu38, eu39, eu40, eu41, eu42, eu43, eu44, eu46, eu47, eu48, eu49, eu50, eu51, eo00, eo01, eo02, eo03, eo04, eo05, eo06, eo07, eo08, eo09, eo10, eo11, eo12, eo13, eo14, eo15, eo16, eo17, Nat.reduceAdd, Nat.reduceLT, if_true, Bool.false_eq_true, reduceIte, Nat.zero_add, Nat.succ_eq_add_one, Int.reduceNeg, beq_self_eq_true, notin_lst _ hNk]
          refine wIf_split ?_ ?_
          · intro h
            have h : y ≠ i := by simpa using h
            exact ⟨trivial, fun h' => ⟨h, by simpa using h'⟩⟩
          · intro h
            rw [h]
            exact ⟨trivial, by simp⟩
        · rintro H'' ⟨rfl, h⟩
          obtain ⟨h1, h2⟩ := h rfl
          try simp (disch := first | decide | omega) only [↓ed00, ↓ed01, ↓ed03, ↓ed04, ↓ed05, ↓ed06, ↓ed07, ↓ed08, ↓ed09, ↓ed10, ↓ed11, ↓ed12, ↓ed13, ↓ed14, ↓ed15, ↓ed16, ↓ed17, ↓ed18, ↓ed19, ↓ed20, ↓ed21, ↓ed23, ↓ed24, ↓ed25, ↓ed26, ↓ed27, ↓ed28, ↓ed29, ↓ed30, ↓ed31, ↓ed32, ↓ed33, ↓ed34, ↓ed35, ↓ed36, ↓ed37, ↓ed38, ↓ed39, ↓ed40, ↓ed41, ↓ed42, ↓ed46, ↓ed47, eu00, eu01, eu02, eu03, eu04, eu05, eu06, eu09, eu10, eu11, eu14, eu15, eu18, eu19, eu20, eu21, eu22, eu23, eu24, eu25, eu26, eu27, eu28, eu29, eu30, eu31, eu32, eu33, eu34, eu35, eu36, eu37, eu38, eu39, eu40, eu41, eu42, eu43, eu44, eu46, eu47, eu48, eu49, eu50, eu51, eo00, eo01, eo02, eo03, eo04, eo05, eo06, eo07, eo08, eo09, eo10, eo11, eo12, eo13, eo14, eo15, eo16, eo17, Nat.reduceAdd, Nat.reduceLT, if_true, Bool.false_eq_true, reduceIte, Nat.zero_add, Nat.succ_eq_add_one, Int.reduceNeg, beq_self_eq_true, meKind_app _ hNk, WMeth_app _ _ _ hNk hsz]
          refine ⟨rfl, named ++ [y], _, _, rfl, hFk.trans (Kept.set _ (Nat.le_refl _) (Nat.le_of_lt (at_lt hNk))) (Nat.le_refl _), ?_, by simp <;> omega, ?_, ?_⟩
          · rw [at_set hNk]; simp
          · rw [List.nodup_append]
            refine ⟨hnd, by simp, ?_⟩
            intro a ha b hb
            have : b = y := by simpa using hb
            subst this
            intro e; subst e; exact h2 ha
          · intro o ho
            rcases List.mem_append.mp ho with h | h
            · exact hin o h
            · have : o = y := by simpa using h
              subst this
              exact ⟨hy0, hy1, h1⟩
        · rintro H'' ⟨rfl, _⟩
          try simp (disch := first | decide | omega) only [↓ed00, ↓ed01, ↓ed03, ↓ed04, ↓ed05, ↓ed06, ↓ed07, ↓ed08, ↓ed09, ↓ed10, ↓ed11, ↓ed12, ↓ed13, ↓ed14, ↓ed15, ↓ed16, ↓ed17, ↓ed18, ↓ed19, ↓ed20, ↓ed21, ↓ed23, ↓ed24, ↓ed25, ↓ed26, ↓ed27, ↓ed28, ↓ed29, ↓ed30, ↓ed31, ↓ed32, ↓ed33, ↓ed34, ↓ed35, ↓ed36, ↓ed37, ↓ed38, ↓ed39, ↓ed40, ↓ed41, ↓ed42, ↓ed46, ↓ed47, eu00, eu01, eu02, eu03, eu04, eu05, eu06, eu09, eu10, eu11, eu14, eu15, eu18, eu19, eu20, eu21, eu22, eu23, eu24, eu25, eu26, eu27, eu28, eu29, eu30, eu31, eu32, eu33, eu34, eu35, eu36, eu37, eu38, eu39, eu40, eu41, eu42, eu43, eu44, eu46, eu47, eu48, eu49, eu50, eu51, eo00, eo01, eo02, eo03, eo04, eo05, eo06, eo07, eo08, eo09, eo10, eo11, eo12, eo13, eo14, eo15, eo16, eo17, Nat.reduceAdd, Nat.reduceLT, if_true, Bool.false_eq_true, reduceIte, Nat.zero_add, Nat.succ_eq_add_one, Int.reduceNeg, beq_self_eq_true]
          exact ⟨rfl, named, _, _, rfl, hFk, hNk, by omega, hnd, hin⟩
    · rintro ρ H' ⟨named, oa, ob, rfl, hF', hN', hl, hnd, hin⟩
      rw [range_len] at hl
      exact ⟨named, oa, ob, rfl, hF', hN', by omega, hnd, hin⟩
  · rintro ρ' H' ⟨named, oa, ob, rfl, hF', hN', hl, hnd, hin⟩
    simp only [List.drop_succ_cons, List.drop_zero]
    have hs : ∃ z : Int, seqAt [V.int (x / 11340 % 4), V.int (x / 11340 % 900)] (x / 7 % 2) = some (.int z) ∧ 0 ≤ z ∧ z ≤ 900 := by
      have : x / 7 % 2 = 0 ∨ x / 7 % 2 = 1 := by omega
      rcases this with h | h <;> rw [h]
      · exact ⟨_, rfl, by omega, by omega⟩
      · exact ⟨_, rfl, by omega, by omega⟩
    obtain ⟨z, hz, hz0, hz1⟩ := hs
    have hN2 := at_app [.list [V.int (x / 11340 % 4), V.int (x / 11340 % 900)]] hN'
    try simp (disch := first | decide | omega) only [↓ed00, ↓ed01, ↓ed03, ↓ed04, ↓ed05, ↓ed06, ↓ed07, ↓ed08, ↓ed09, ↓ed10, ↓ed11, ↓ed12, ↓ed13, ↓ed14, ↓ed15, ↓ed16, ↓ed17, ↓ed18, ↓ed19, ↓ed20, ↓ed21, ↓ed23, ↓ed24, ↓ed25, ↓ed26, ↓ed27, ↓ed28, ↓ed29, ↓ed30, ↓ed31, ↓ed32, ↓ed33, ↓ed34, ↓ed35, ↓ed36, ↓ed37, ↓ed38, ↓ed39, ↓ed40, ↓ed41, ↓ed42, ↓ed46, ↓ed47, eu00, eu01, eu02, eu03, eu04, eu05, eu06, eu09, eu10, eu11, eu14, eu15, eu18, eu19, eu20, eu21, eu22, eu23, eu24, eu25, eu26, eu27, eu28, eu29, eu30, eu31, eu32, eu33, eu34, eu35, eu36, eu37, eu38, eu39, eu40, eu41, eu42, eu43, eu44, eu46, eu47, eu48, eu49, eu50, eu51, eo00, eo01, eo02, eo03, eo04, eo05, eo06, eo07, eo08, eo09, eo10, eo11, eo12, eo13, eo14, eo15, eo16, eo17, Nat.reduceAdd, Nat.reduceLT, if_true, Bool.false_eq_true, reduceIte, Nat.zero_add, Nat.succ_eq_add_one, Int.reduceNeg, beq_self_eq_true, idx_lst _ _ _ (at_new _ _), hz, seqOf_lst _ _ hN2]
    refine comp_fm V.int (fun _ => true) (giftL (1 + x / 3780 % 3) ((1 + x / 3780 % 3) * named.length + z)) (by omega) ?_ ?_ ?_
    · intro y hy Q hQ
      try simp (disch := first | decide | omega) only [↓ed00, ↓ed01, ↓ed03, ↓ed04, ↓ed05, ↓ed06, ↓ed07, ↓ed08, ↓ed09, ↓ed10, ↓ed11, ↓ed12, ↓ed13, ↓ed14, ↓ed15, ↓ed16, ↓ed17, ↓ed18, ↓ed19, ↓ed20, ↓ed21, ↓ed23, ↓ed24, ↓ed25, ↓ed26, ↓ed27, ↓ed28, ↓ed29, ↓ed30, ↓ed31, ↓ed32, ↓ed33, ↓ed34, ↓ed35, ↓ed36, ↓ed37, ↓ed38, ↓ed39, ↓ed40, ↓ed41, ↓ed42, ↓ed46, ↓ed47, eu00, eu01, eu02, eu03, eu04, eu05, eu06, eu09, eu10, eu11, eu14, eu15, eu18, eu19, eu20, eu21, eu22, eu23, eu24, eu25, eu26, eu27, eu28, eu29, eu30, eu31, eu32, eu33, eu34, eu35, eu36, eu37, eu38, eu39, eu40, eu41, eu42, eu43, eu44, eu46, eu47, eu48, eu49, eu50, eu51, eo00, eo01, eo02, eo03, eo04, eo05, eo06, eo07, eo08, eo09, eo10, eo11, eo12, eo13, eo14, eo15, eo16, eo17, Nat.reduceAdd, Nat.reduceLT, if_true, Bool.false_eq_true, reduceIte, Nat.zero_add, Nat.succ_eq_add_one, Int.reduceNeg, beq_self_eq_true]
      exact hQ
    · intro y hy _ Q hQ
      try simp (disch := first | decide | omega) only [↓ed00, ↓ed01, ↓ed03, ↓ed04, ↓ed05, ↓ed06, ↓ed07, ↓ed08, ↓ed09, ↓ed10, ↓ed11, ↓ed12, ↓ed13, ↓ed14, ↓ed15, ↓ed16, ↓ed17, ↓ed18, ↓ed19, ↓ed20, ↓ed21, ↓ed23, ↓ed24, ↓ed25, ↓ed26, ↓ed27, ↓ed28, ↓ed29, ↓ed30, ↓ed31, ↓ed32, ↓ed33, ↓ed34, ↓ed35, ↓ed36, ↓ed37, ↓ed38, ↓ed39, ↓ed40, ↓ed41, ↓ed42, ↓ed46, ↓ed47, eu00, eu01, eu02, eu03, eu04, eu05, eu06, eu09, eu10, eu11, eu14, eu15, eu18, eu19, eu20, eu21, eu22, eu23, eu24, eu25, eu26, eu27, eu28, eu29, eu30, eu31, eu32, eu33, eu34, eu35, eu36, eu37, eu38, eu39, eu40, eu41, eu42, eu43, eu44, eu46, eu47, eu48, eu49, eu50, eu51, eo00, eo01, eo02, eo03, eo04, eo05, eo06, eo07, eo08, eo09, eo10, eo11, eo12, eo13, eo14, eo15, eo16, eo17, Nat.reduceAdd, Nat.reduceLT, if_true, Bool.false_eq_true, reduceIte, Nat.zero_add, Nat.succ_eq_add_one, Int.reduceNeg, beq_self_eq_true, WBi_lenL _ _ _ hN2, List.length_map]
      exact hQ
    · have e1 : (((1 + x / 3780 % 3).toNat : Nat) : Int) = 1 + x / 3780 % 3 := by omega
      have e2 : ((z.toNat : Nat) : Int) = z := by omega
      refine ⟨_, named, (1 + x / 3780 % 3).toNat, z.toNat, rfl, ?_, ((hF'.tr (Kept.app _ _)).tr (Kept.app _ _)), ?_, hl, hnd, hin, by omega, by omega, by omega⟩
      · have := hF'.2.1; simp; omega
      · rw [e1, e2, List.filter_eq_self.mpr (by simp)]
        exact at_new _ _
end Mine.P

end
section
set_option autoImplicit false
set_option linter.unusedVariables false
set_option linter.unusedSimpArgs false
set_option maxRecDepth 100000
namespace Mine.P
open PySem
variable (scr : List Int)
/-- a gift of a will: who, and the part -/
abbrev Gift := Int × Nat × Nat
noncomputable def giftV (g : Gift) : V := .tup [.int g.1, .tup [.int g.2.1, .int g.2.2]]
structure Will where
  who : Int
  day : Int
  gifts : List Gift
noncomputable def willV (w : Will) : V := .tup [.int w.who, .int w.day, .tup (w.gifts.map giftV)]
noncomputable def lowG (ov un : Nat) (o : Int) : Gift := (o, ov / Nat.gcd ov un, un / Nat.gcd ov un)
/-- gifts as they are drawn -/
noncomputable def GiftsOk (m : Int) (gs : List Gift) : Prop := ∃ (named : List Int) (ov mo : Nat), gs = named.map (lowG ov (ov * named.length + mo)) ∧ named ≠ [] ∧ named.length ≤ 10 ∧ named.Nodup ∧ (∀ o ∈ named, 0 ≤ o ∧ o < m) ∧ 1 ≤ ov ∧ ov ≤ 3 ∧ mo ≤ 900
noncomputable def WillOk (m : Int) (w : Will) : Prop := 0 ≤ w.who ∧ w.who < m ∧ 0 ≤ w.day ∧ GiftsOk m w.gifts

theorem gift_plain (g : Gift) : plain 3 (giftV g) = true := rfl
theorem will_plain (w : Will) : plain 8 (willV w) = true := by
  have : ∀ gs : List Gift, (gs.map giftV).all (plain 6) = true := by
    intro gs; induction gs with
    | nil => rfl
    | cons a r ih => rw [List.map_cons, List.all_cons, ih]; rfl
  simp [willV, plain, this]
theorem map_plain {α : Type} (f : α → V) {n : Nat} (h : ∀ a, plain n (f a) = true) (l : List α) : ∀ v, v ∈ l.map f → plain n v = true := by
  intro v hv
  obtain ⟨a, _, rfl⟩ := List.mem_map.mp hv
  exact h a

noncomputable def env3 (v : V) : Env' := match v with | .tup [a, b, c] => [some a, some b, some c] | _ => []
theorem env3_ok {ρ pre : Env'} {a b c : V} (hp : pre.length = 3) : (env3 (.tup [a, b, c])).length = pre.length ∧ ∀ p : Env', p.length = pre.length → asg (.tup [.var 0, .var 1, .var 2]) (.tup [a, b, c]) (p ++ ρ) = some (env3 (.tup [a, b, c]) ++ ρ) := by
  refine ⟨by simp [hp, env3], ?_⟩
  intro p hpl
  rw [hp] at hpl
  match p, hpl with
  | [x, y, z], _ => simp [asg, asgs, env3]

theorem w_wills (n l : Nat) (c m : Int) (H : Hp) (ps : List Per) (hA : H[l]? = some (.list (ps.map perV))) (hW : WfP ps) (hp0 : 0 < ps.length) (hm0 : 0 ≤ m) (hm1 : m ≤ 60) : Wp (callF scr pgks pfns (n + 2) i_law_wills [.ref l, .int c, .int m] H) fun v H' =>
    ∃ (l' : Nat) (ws : List Will), v = .ref l' ∧ H.length ≤ l' ∧ Kept H.length H H' ∧ H'[l']? = some (.list (ws.map willV)) ∧ ws.length ≤ 60 ∧ ∀ w ∈ ws, WillOk ps.length w := by
  rw [c_law_wills, Wp_end]
  refine WSs.sound _ ?_
  unfold pb_law_wills
  try simp (disch := first | decide | omega) only [↓ed00, ↓ed01, ↓ed03, ↓ed04, ↓ed05, ↓ed06, ↓ed07, ↓ed08, ↓ed09, ↓ed10, ↓ed11, ↓ed12, ↓ed13, ↓ed14, ↓ed15, ↓ed16, ↓ed17, ↓ed18, ↓ed19, ↓ed20, ↓ed21, ↓ed23, ↓ed24, ↓ed25, ↓ed26, ↓ed27, ↓ed28, ↓ed29, ↓ed30, ↓ed31, ↓ed32, ↓ed33, ↓ed34, ↓ed35, ↓ed36, ↓ed37, ↓ed38, ↓ed39, ↓ed40, ↓ed41, ↓ed42, ↓ed46, ↓ed47, eu00, eu01, eu02, eu03, eu04, eu05, eu06, eu09, eu10, eu11, eu14, eu15, eu18, eu19, eu20, eu21, eu22, eu23, eu24, eu25, eu26, eu27, eu28, eu29, eu30, eu31, eu32, eu33, eu34, eu35, eu36, eu37, eu38, eu39, eu40, eu41, eu42, eu43, eu44, eu46, eu47, eu48, eu49, eu50, eu51, eo00, eo01, eo02, eo03, eo04, eo05, eo06, eo07, eo08, eo09, eo10, eo11, eo12, eo13, eo14, eo15, eo16, eo17, Nat.reduceAdd, Nat.reduceLT, if_true, Bool.false_eq_true, reduceIte, Nat.zero_add, Nat.succ_eq_add_one, Int.reduceNeg, beq_self_eq_true]
  refine call_of (w_stream scr n c m _ hm0 (by omega)) ?_
  rintro v H₂ ⟨ls, xs, rfl, hls, hF2, hX, hxl, hxr⟩
  have hN := hF2.at' (at_new H (.list []))
  have hFH : Kept H.length H H₂ := (Kept.app _ _).tr hF2
  simp only [List.length_append, List.length_cons, List.length_nil] at hls
  have hne : H.length ≠ ls := by omega
  try simp (disch := first | decide | omega) only [↓ed00, ↓ed01, ↓ed03, ↓ed04, ↓ed05, ↓ed06, ↓ed07, ↓ed08, ↓ed09, ↓ed10, ↓ed11, ↓ed12, ↓ed13, ↓ed14, ↓ed15, ↓ed16, ↓ed17, ↓ed18, ↓ed19, ↓ed20, ↓ed21, ↓ed23, ↓ed24, ↓ed25, ↓ed26, ↓ed27, ↓ed28, ↓ed29, ↓ed30, ↓ed31, ↓ed32, ↓ed33, ↓ed34, ↓ed35, ↓ed36, ↓ed37, ↓ed38, ↓ed39, ↓ed40, ↓ed41, ↓ed42, ↓ed46, ↓ed47, eu00, eu01, eu02, eu03, eu04, eu05, eu06, eu09, eu10, eu11, eu14, eu15, eu18, eu19, eu20, eu21, eu22, eu23, eu24, eu25, eu26, eu27, eu28, eu29, eu30, eu31, eu32, eu33, eu34, eu35, eu36, eu37, eu38, eu39, eu40, eu41, eu42, eu43, eu44, eu46, eu47, eu48, eu49, eu50, eu51, eo00, eo01, eo02, eo03, eo04, eo05, eo06, eo07, eo08, eo09, eo10, eo11, eo12, eo13, eo14, eo15, eo16, eo17, Nat.reduceAdd, Nat.reduceLT, if_true, Bool.false_eq_true, reduceIte, Nat.zero_add, Nat.succ_eq_add_one, Int.reduceNeg, beq_self_eq_true, seqOf_lst _ _ hX]
  refine for_inv (fun k ρ H' => ∃ (ws : List Will) (a b d e : Option V), ρ = [some (.ref l), some (.int c), some (.int m), some (.ref H.length), a, b, d, e] ∧ Kept H.length H H' ∧ H'[H.length]? = some (.list (ws.map willV)) ∧ H'[ls]? = some (.list (xs.map .int)) ∧ ws.length ≤ k ∧ ∀ w ∈ ws, WillOk ps.length w) ?_ ?_ ?_
  · exact ⟨[], _, _, _, _, rfl, hFH, hN, hX, by simp, by simp⟩
  · rintro k v ρ Hk hv ⟨ws, oa, ob, od, oe, rfl, hFk, hNk, hXk, hl, hws⟩
    rw [List.getElem?_map] at hv
    obtain ⟨x, hx, rfl⟩ : ∃ x, xs[k]? = some x ∧ v = .int x := by
      cases hx : xs[k]? with
      | none => rw [hx] at hv; simp at hv
      | some x => rw [hx] at hv; exact ⟨x, rfl, by simpa using hv.symm⟩
    have hkx := (List.getElem?_eq_some_iff.mp hx).1
    obtain ⟨hx0, hx1⟩ := hxr x (List.mem_of_getElem? hx)
    have hAk := hFk.at' hA
    have hlen : (0 : Int) < ps.length := by omega
    obtain ⟨ha0, ha1⟩ := emod_rng x hlen
    obtain ⟨p, hp, hp'⟩ := per_at (ps := ps) ha0 ha1
    have hborn := (hW _ _ hp').1
    simp only [wSome_some, asg_var, asg_tup, asgs_cons, asgs_nil, Option.bind_some, List.set_cons_succ, List.set_cons_zero, List.length_cons, List.length_nil, Nat.reduceAdd, Nat.reduceLT, reduceIte, Nat.zero_add, Nat.succ_eq_add_one, List.take_succ_cons, List.take_zero, List.drop_succ_cons, List.drop_zero]
    refine cut 3 (fun ρ' H' => ∃ (l' : Nat) (named : List Int) (ov mo : Nat), ρ' = [some (.ref l), some (.int c), some (.int m), some (.ref H.length), some (.int x), some (.int (x % ps.length)), some (.int (p.born + x / 60 % 30)), some (.ref l')] ∧ Kept Hk.length Hk H' ∧ H'[l']? = some (.list (named.map (giftL ov (ov * named.length + mo)))) ∧ named.length ≤ 10 ∧ named.Nodup ∧ (∀ o ∈ named, 0 ≤ o ∧ o < ps.length ∧ o ≠ x % ps.length) ∧ 1 ≤ ov ∧ ov ≤ 3 ∧ mo ≤ 900) ?_ ?_
    · try simp (disch := first | decide | omega) only [↓ed00, ↓ed01, ↓ed03, ↓ed04, ↓ed05, ↓ed06, ↓ed07, ↓ed08, ↓ed09, ↓ed10, ↓ed11, ↓ed12, ↓ed13, ↓ed14, ↓ed15, ↓ed16, ↓ed17, ↓ed18, ↓ed19, ↓ed20, ↓ed21, ↓ed23, ↓ed24, ↓ed25, ↓ed26, ↓ed27, ↓ed28, ↓ed29, ↓ed30, ↓ed31, ↓ed32, ↓ed33, ↓ed34, ↓ed35, ↓ed36, ↓ed37, ↓ed38, ↓ed39, ↓ed40, ↓ed41, ↓ed42, ↓ed46, ↓ed47, eu00, eu01, eu02, eu03, eu04, eu05, eu06, eu09, eu10, eu11, eu14, eu15, eu18, eu19, eu20, eu21, eu22, eu23, eu24, eu25, eu26, eu27, eu28, eu29, eu30, eu31, eu32, eu33, eu34, eu35, eu36, eu37, eu38, eu39, eu40, eu41, eu42, eu43, eu44, eu46, eu47, eu48, eu49, eu50, eu51, eo00, eo01, eo02, eo03, eo04, eo05, eo06, eo07, eo08, eo09, eo10, eo11, eo12, eo13, eo14, eo15, eo16, eo17, Nat.reduceAdd, Nat.reduceLT, if_true, Bool.false_eq_true, reduceIte, Nat.zero_add, Nat.succ_eq_add_one, Int.reduceNeg, beq_self_eq_true, WBi_lenL _ _ _ hAk, List.length_map, idx_lst _ _ _ hAk, hp, perV]
      refine call_of (w_gifts scr n l _ (x / 1800) Hk ps hAk hp0 (by omega)) ?_
      rintro v H' ⟨l', named, ov, mo, rfl, _, hF', hG, r⟩
      try simp (disch := first | decide | omega) only [↓ed00, ↓ed01, ↓ed03, ↓ed04, ↓ed05, ↓ed06, ↓ed07, ↓ed08, ↓ed09, ↓ed10, ↓ed11, ↓ed12, ↓ed13, ↓ed14, ↓ed15, ↓ed16, ↓ed17, ↓ed18, ↓ed19, ↓ed20, ↓ed21, ↓ed23, ↓ed24, ↓ed25, ↓ed26, ↓ed27, ↓ed28, ↓ed29, ↓ed30, ↓ed31, ↓ed32, ↓ed33, ↓ed34, ↓ed35, ↓ed36, ↓ed37, ↓ed38, ↓ed39, ↓ed40, ↓ed41, ↓ed42, ↓ed46, ↓ed47, eu00, eu01, eu02, eu03, eu04, eu05, eu06, eu09, eu10, eu11, eu14, eu15, eu18, eu19, eu20, eu21, eu22, eu23, eu24, eu25, eu26, eu27, eu28, eu29, eu30, eu31, eu32, eu33, eu34, eu35, eu36, eu37, eu38, eu39, eu40, eu41, eu42, eu43, eu44, eu46, eu47, eu48, eu49, eu50, eu51, eo00, eo01, eo02, eo03, eo04, eo05, eo06, eo07, eo08, eo09, eo10, eo11, eo12, eo13, eo14, eo15, eo16, eo17, Nat.reduceAdd, Nat.reduceLT, if_true, Bool.false_eq_true, reduceIte, Nat.zero_add, Nat.succ_eq_add_one, Int.reduceNeg, beq_self_eq_true]
      exact ⟨l', named, ov, mo, rfl, hF', hG, r⟩
    · rintro ρ' Hm ⟨lg, named, ov, mo, rfl, hFm, hG, hn10, hnd, hin, hov1, hov3, hmo⟩
      simp only [List.drop_succ_cons, List.drop_zero]
      have hNm := hFm.at' hNk
      have hXm := hFm.at' hXk
      have hAm := hFm.at' hAk
      have hFa : Kept H.length H Hm := hFk.tr hFm
      refine if_cut (fun b H' => Kept Hm.length Hm H' ∧ (b = true → named ≠ [])) ?_ ?_ ?_
      · try simp (disch := first | decide | omega) only [↓ed00, ↓ed01, ↓ed03, ↓ed04, ↓ed05, ↓ed06, ↓ed07, ↓ed08, ↓ed09, ↓ed10, ↓ed11, ↓ed12, ↓ed13, ↓ed14, ↓ed15, ↓ed16, ↓ed17, ↓ed18, ↓ed19, ↓ed20, ↓ed21, ↓ed23, ↓ed24, ↓ed25, ↓ed26, ↓ed27, ↓ed28, ↓ed29, ↓ed30, ↓ed31, ↓ed32, ↓ed33, ↓ed34, ↓ed35, ↓ed36, ↓ed37, ↓ed38, ↓ed39, ↓ed40, ↓ed41, ↓ed42, ↓ed46, ↓ed47, eu00, eu01, eu02, eu03, eu04, eu05, eu06, eu09, eu10, eu11, eu14, eu15, eu18, eu19, eu20, eu21, eu22, eu23, eu24, eu25, eu26, eu27, eu28, eu29, eu30, eu31, eu32, eu33, eu34, eu35, eu36, eu37, eu38, eu39, eu40, eu41, eu42, eu43, eu44, eu46, eu47, eu48, eu49, eu50, eu51, eo00, eo01, eo02, eo03, eo04, eo05, eo06, eo07, eo08, eo09, eo10, eo11, eo12, eo13, eo14, eo15, eo16, eo17, Nat.reduceAdd, Nat.reduceLT, if_true, Bool.false_eq_true, reduceIte, Nat.zero_add, Nat.succ_eq_add_one, Int.reduceNeg, beq_self_eq_true, cmp_ne_empty hG (map_plain _ (fun _ => rfl) _)]
        refine wIf_split ?_ ?_
        · intro h
          have h : named ≠ [] := by simpa using h
          have hAm' := at_app [.list []] hAm
          cases hd : p.died with
          | none =>
            try simp (disch := first | decide | omega) only [↓ed00, ↓ed01, ↓ed03, ↓ed04, ↓ed05, ↓ed06, ↓ed07, ↓ed08, ↓ed09, ↓ed10, ↓ed11, ↓ed12, ↓ed13, ↓ed14, ↓ed15, ↓ed16, ↓ed17, ↓ed18, ↓ed19, ↓ed20, ↓ed21, ↓ed23, ↓ed24, ↓ed25, ↓ed26, ↓ed27, ↓ed28, ↓ed29, ↓ed30, ↓ed31, ↓ed32, ↓ed33, ↓ed34, ↓ed35, ↓ed36, ↓ed37, ↓ed38, ↓ed39, ↓ed40, ↓ed41, ↓ed42, ↓ed46, ↓ed47, eu00, eu01, eu02, eu03, eu04, eu05, eu06, eu09, eu10, eu11, eu14, eu15, eu18, eu19, eu20, eu21, eu22, eu23, eu24, eu25, eu26, eu27, eu28, eu29, eu30, eu31, eu32, eu33, eu34, eu35, eu36, eu37, eu38, eu39, eu40, eu41, eu42, eu43, eu44, eu46, eu47, eu48, eu49, eu50, eu51, eo00, eo01, eo02, eo03, eo04, eo05, eo06, eo07, eo08, eo09, eo10, eo11, eo12, eo13, eo14, eo15, eo16, eo17, Nat.reduceAdd, Nat.reduceLT, if_true, Bool.false_eq_true, reduceIte, Nat.zero_add, Nat.succ_eq_add_one, Int.reduceNeg, beq_self_eq_true, idx_lst _ _ _ hAm', hp, perV, hd, diV, isNone_none]
            exact ⟨Kept.app _ _, fun _ => h⟩
          | some e =>
            try simp (disch := first | decide | omega) only [↓ed00, ↓ed01, ↓ed03, ↓ed04, ↓ed05, ↓ed06, ↓ed07, ↓ed08, ↓ed09, ↓ed10, ↓ed11, ↓ed12, ↓ed13, ↓ed14, ↓ed15, ↓ed16, ↓ed17, ↓ed18, ↓ed19, ↓ed20, ↓ed21, ↓ed23, ↓ed24, ↓ed25, ↓ed26, ↓ed27, ↓ed28, ↓ed29, ↓ed30, ↓ed31, ↓ed32, ↓ed33, ↓ed34, ↓ed35, ↓ed36, ↓ed37, ↓ed38, ↓ed39, ↓ed40, ↓ed41, ↓ed42, ↓ed46, ↓ed47, eu00, eu01, eu02, eu03, eu04, eu05, eu06, eu09, eu10, eu11, eu14, eu15, eu18, eu19, eu20, eu21, eu22, eu23, eu24, eu25, eu26, eu27, eu28, eu29, eu30, eu31, eu32, eu33, eu34, eu35, eu36, eu37, eu38, eu39, eu40, eu41, eu42, eu43, eu44, eu46, eu47, eu48, eu49, eu50, eu51, eo00, eo01, eo02, eo03, eo04, eo05, eo06, eo07, eo08, eo09, eo10, eo11, eo12, eo13, eo14, eo15, eo16, eo17, Nat.reduceAdd, Nat.reduceLT, if_true, Bool.false_eq_true, reduceIte, Nat.zero_add, Nat.succ_eq_add_one, Int.reduceNeg, beq_self_eq_true, idx_lst _ _ _ hAm', hp, perV, hd, diV, isNone_int]
            exact ⟨Kept.app _ _, fun _ => h⟩
        · intro h
          rw [h]
          exact ⟨Kept.app _ _, by simp⟩
      · rintro H' ⟨hF', h⟩
        have hne0 := h rfl
        have hN' := hF'.at' hNm
        have hX' := hF'.at' hXm
        have hG' := hF'.at' hG
        have hsz : (ws.map willV).length < 1000000 := by rw [List.length_map]; omega
        have hun : 0 < ov * named.length + mo := by
          have := Nat.mul_pos (show 0 < ov by omega) (List.length_pos_iff.mpr hne0)
          omega
        have hcast : ((ov : Int) * (named.length : Int) + (mo : Int)) = ((ov * named.length + mo : Nat) : Int) := by simp
        try simp (disch := first | decide | omega) only [↓ed00, ↓ed01, ↓ed03, ↓ed04, ↓ed05, ↓ed06, ↓ed07, ↓ed08, ↓ed09, ↓ed10, ↓ed11, ↓ed12, ↓ed13, ↓ed14, ↓ed15, ↓ed16, ↓ed17, ↓ed18, ↓ed19, ↓ed20, ↓ed21, ↓ed23, ↓ed24, ↓ed25, ↓ed26, ↓ed27, ↓ed28, ↓ed29, ↓ed30, ↓ed31, ↓ed32, ↓ed33, ↓ed34, ↓ed35, ↓ed36, ↓ed37, ↓ed38, ↓ed39, ↓ed40, ↓ed41, ↓ed42, ↓ed46, ↓ed47, eu00, eu01, eu02, eu03, eu04, eu05, eu06, eu09, eu10, eu11, eu14, eu15, eu18, eu19, eu20, eu21, eu22, eu23, eu24, eu25, eu26, eu27, eu28, eu29, eu30, eu31, eu32, eu33, eu34, eu35, eu36, eu37, eu38, eu39, eu40, eu41, eu42, eu43, eu44, eu46, eu47, eu48, eu49, eu50, eu51, eo00, eo01, eo02, eo03, eo04, eo05, eo06, eo07, eo08, eo09, eo10, eo11, eo12, eo13, eo14, eo15, eo16, eo17, Nat.reduceAdd, Nat.reduceLT, if_true, Bool.false_eq_true, reduceIte, Nat.zero_add, Nat.succ_eq_add_one, Int.reduceNeg, beq_self_eq_true, meKind_app _ hN', seqOf_lst _ _ hG']
        refine comp_gen (pre := [none, none, none]) (giftL ov (ov * named.length + mo)) env3 (fun _ => true) (fun o => giftV (lowG ov (ov * named.length + mo) o)) (by omega) ?_ ?_ ?_ ?_
        · intro o _
          exact env3_ok rfl
        · intro o _ Q hQ
          try simp (disch := first | decide | omega) only [↓ed00, ↓ed01, ↓ed03, ↓ed04, ↓ed05, ↓ed06, ↓ed07, ↓ed08, ↓ed09, ↓ed10, ↓ed11, ↓ed12, ↓ed13, ↓ed14, ↓ed15, ↓ed16, ↓ed17, ↓ed18, ↓ed19, ↓ed20, ↓ed21, ↓ed23, ↓ed24, ↓ed25, ↓ed26, ↓ed27, ↓ed28, ↓ed29, ↓ed30, ↓ed31, ↓ed32, ↓ed33, ↓ed34, ↓ed35, ↓ed36, ↓ed37, ↓ed38, ↓ed39, ↓ed40, ↓ed41, ↓ed42, ↓ed46, ↓ed47, eu00, eu01, eu02, eu03, eu04, eu05, eu06, eu09, eu10, eu11, eu14, eu15, eu18, eu19, eu20, eu21, eu22, eu23, eu24, eu25, eu26, eu27, eu28, eu29, eu30, eu31, eu32, eu33, eu34, eu35, eu36, eu37, eu38, eu39, eu40, eu41, eu42, eu43, eu44, eu46, eu47, eu48, eu49, eu50, eu51, eo00, eo01, eo02, eo03, eo04, eo05, eo06, eo07, eo08, eo09, eo10, eo11, eo12, eo13, eo14, eo15, eo16, eo17, Nat.reduceAdd, Nat.reduceLT, if_true, Bool.false_eq_true, reduceIte, Nat.zero_add, Nat.succ_eq_add_one, Int.reduceNeg, beq_self_eq_true]
          exact hQ
        · intro o _ _ Q hQ
          simp only [giftL, env3]
          rw [hcast]
          try simp (disch := first | decide | omega) only [↓ed00, ↓ed01, ↓ed03, ↓ed04, ↓ed05, ↓ed06, ↓ed07, ↓ed08, ↓ed09, ↓ed10, ↓ed11, ↓ed12, ↓ed13, ↓ed14, ↓ed15, ↓ed16, ↓ed17, ↓ed18, ↓ed19, ↓ed20, ↓ed21, ↓ed23, ↓ed24, ↓ed25, ↓ed26, ↓ed27, ↓ed28, ↓ed29, ↓ed30, ↓ed31, ↓ed32, ↓ed33, ↓ed34, ↓ed35, ↓ed36, ↓ed37, ↓ed38, ↓ed39, ↓ed40, ↓ed41, ↓ed42, ↓ed46, ↓ed47, eu00, eu01, eu02, eu03, eu04, eu05, eu06, eu09, eu10, eu11, eu14, eu15, eu18, eu19, eu20, eu21, eu22, eu23, eu24, eu25, eu26, eu27, eu28, eu29, eu30, eu31, eu32, eu33, eu34, eu35, eu36, eu37, eu38, eu39, eu40, eu41, eu42, eu43, eu44, eu46, eu47, eu48, eu49, eu50, eu51, eo00, eo01, eo02, eo03, eo04, eo05, eo06, eo07, eo08, eo09, eo10, eo11, eo12, eo13, eo14, eo15, eo16, eo17, Nat.reduceAdd, Nat.reduceLT, if_true, Bool.false_eq_true, reduceIte, Nat.zero_add, Nat.succ_eq_add_one, Int.reduceNeg, beq_self_eq_true]
          refine call_of (w_lowest scr n ov (ov * named.length + mo) H' hun) ?_
          rintro v H'' ⟨rfl, rfl⟩
          exact hQ
        · have hsz2 : ((named.filter fun _ => true).map fun o => giftV (lowG ov (ov * named.length + mo) o)).length < 1000000 := by
            rw [List.length_map]
            exact Nat.lt_of_le_of_lt (List.length_filter_le _ _) (by omega)
          have hN2 := at_app [.list ((named.filter fun _ => true).map fun o => giftV (lowG ov (ov * named.length + mo) o))] hN'
          try simp (disch := first | decide | omega) only [↓ed00, ↓ed01, ↓ed03, ↓ed04, ↓ed05, ↓ed06, ↓ed07, ↓ed08, ↓ed09, ↓ed10, ↓ed11, ↓ed12, ↓ed13, ↓ed14, ↓ed15, ↓ed16, ↓ed17, ↓ed18, ↓ed19, ↓ed20, ↓ed21, ↓ed23, ↓ed24, ↓ed25, ↓ed26, ↓ed27, ↓ed28, ↓ed29, ↓ed30, ↓ed31, ↓ed32, ↓ed33, ↓ed34, ↓ed35, ↓ed36, ↓ed37, ↓ed38, ↓ed39, ↓ed40, ↓ed41, ↓ed42, ↓ed46, ↓ed47, eu00, eu01, eu02, eu03, eu04, eu05, eu06, eu09, eu10, eu11, eu14, eu15, eu18, eu19, eu20, eu21, eu22, eu23, eu24, eu25, eu26, eu27, eu28, eu29, eu30, eu31, eu32, eu33, eu34, eu35, eu36, eu37, eu38, eu39, eu40, eu41, eu42, eu43, eu44, eu46, eu47, eu48, eu49, eu50, eu51, eo00, eo01, eo02, eo03, eo04, eo05, eo06, eo07, eo08, eo09, eo10, eo11, eo12, eo13, eo14, eo15, eo16, eo17, Nat.reduceAdd, Nat.reduceLT, if_true, Bool.false_eq_true, reduceIte, Nat.zero_add, Nat.succ_eq_add_one, Int.reduceNeg, beq_self_eq_true, WBi_tupleOf _ _ _ (at_new _ _) hsz2, WMeth_app _ _ _ hN2 hsz]
          have hflt : (named.filter fun _ => true) = named := List.filter_eq_self.mpr (by simp)
          refine ⟨stands_ref (at_set_ne (at_app _ hX') hne) hX, ws ++ [⟨x % ps.length, p.born + x / 60 % 30, named.map (lowG ov (ov * named.length + mo))⟩], _, _, _, _, rfl, ?_, ?_, at_set_ne (at_app _ hX') hne, by simp <;> omega, ?_⟩
          · have h1 := at_lt hNm
            have h2 := at_lt hN'
            exact ((hFa.tr hF').tr (Kept.app _ _)).trans (Kept.set _ (Nat.le_refl _) (Nat.le_of_lt (at_lt hN2))) (Nat.le_refl _)
          · rw [at_set hN2, hflt]; simp [willV, Function.comp_def]
          · intro w hw
            rcases List.mem_append.mp hw with h | h
            · exact hws w h
            · have : w = _ := List.mem_singleton.mp h
              subst this
              exact ⟨ha0, ha1, by show 0 ≤ p.born + _; omega, named, ov, mo, rfl, hne0, hn10, hnd, fun o ho => ⟨(hin o ho).1, (hin o ho).2.1⟩, hov1, hov3, hmo⟩
      · rintro H' ⟨hF', _⟩
        try simp (disch := first | decide | omega) only [↓ed00, ↓ed01, ↓ed03, ↓ed04, ↓ed05, ↓ed06, ↓ed07, ↓ed08, ↓ed09, ↓ed10, ↓ed11, ↓ed12, ↓ed13, ↓ed14, ↓ed15, ↓ed16, ↓ed17, ↓ed18, ↓ed19, ↓ed20, ↓ed21, ↓ed23, ↓ed24, ↓ed25, ↓ed26, ↓ed27, ↓ed28, ↓ed29, ↓ed30, ↓ed31, ↓ed32, ↓ed33, ↓ed34, ↓ed35, ↓ed36, ↓ed37, ↓ed38, ↓ed39, ↓ed40, ↓ed41, ↓ed42, ↓ed46, ↓ed47, eu00, eu01, eu02, eu03, eu04, eu05, eu06, eu09, eu10, eu11, eu14, eu15, eu18, eu19, eu20, eu21, eu22, eu23, eu24, eu25, eu26, eu27, eu28, eu29, eu30, eu31, eu32, eu33, eu34, eu35, eu36, eu37, eu38, eu39, eu40, eu41, eu42, eu43, eu44, eu46, eu47, eu48, eu49, eu50, eu51, eo00, eo01, eo02, eo03, eo04, eo05, eo06, eo07, eo08, eo09, eo10, eo11, eo12, eo13, eo14, eo15, eo16, eo17, Nat.reduceAdd, Nat.reduceLT, if_true, Bool.false_eq_true, reduceIte, Nat.zero_add, Nat.succ_eq_add_one, Int.reduceNeg, beq_self_eq_true]
        exact ⟨stands_ref (hF'.at' hXm) hX, ws, _, _, _, _, rfl, hFa.tr hF', hF'.at' hNm, hF'.at' hXm, by omega, hws⟩
  · rintro ρ H' ⟨ws, oa, ob, od, oe, rfl, hF', hN', hX', hl, hws⟩
    rw [List.length_map] at hl
    try simp (disch := first | decide | omega) only [↓ed00, ↓ed01, ↓ed03, ↓ed04, ↓ed05, ↓ed06, ↓ed07, ↓ed08, ↓ed09, ↓ed10, ↓ed11, ↓ed12, ↓ed13, ↓ed14, ↓ed15, ↓ed16, ↓ed17, ↓ed18, ↓ed19, ↓ed20, ↓ed21, ↓ed23, ↓ed24, ↓ed25, ↓ed26, ↓ed27, ↓ed28, ↓ed29, ↓ed30, ↓ed31, ↓ed32, ↓ed33, ↓ed34, ↓ed35, ↓ed36, ↓ed37, ↓ed38, ↓ed39, ↓ed40, ↓ed41, ↓ed42, ↓ed46, ↓ed47, eu00, eu01, eu02, eu03, eu04, eu05, eu06, eu09, eu10, eu11, eu14, eu15, eu18, eu19, eu20, eu21, eu22, eu23, eu24, eu25, eu26, eu27, eu28, eu29, eu30, eu31, eu32, eu33, eu34, eu35, eu36, eu37, eu38, eu39, eu40, eu41, eu42, eu43, eu44, eu46, eu47, eu48, eu49, eu50, eu51, eo00, eo01, eo02, eo03, eo04, eo05, eo06, eo07, eo08, eo09, eo10, eo11, eo12, eo13, eo14, eo15, eo16, eo17, Nat.reduceAdd, Nat.reduceLT, if_true, Bool.false_eq_true, reduceIte, Nat.zero_add, Nat.succ_eq_add_one, Int.reduceNeg, beq_self_eq_true]
    exact ⟨_, ws, rfl, Nat.le_refl _, hF', hN', by omega, hws⟩
end Mine.P

end
section
set_option autoImplicit false
set_option linter.unusedVariables false
set_option linter.unusedSimpArgs false
set_option maxRecDepth 100000
namespace Mine.P
open PySem
variable (scr : List Int)
noncomputable def aliveI (ps : List Per) (i d : Int) : Bool := match ps[i.toNat]? with | some p => aliveP p d | none => false
noncomputable def spF (ps : List Per) (i d : Int) (w : Wed) : Option Int :=
  if w.2.2 ≤ d ∧ w.1 = i ∧ aliveI ps w.2.1 d = true then some w.2.1 else if w.2.2 ≤ d ∧ w.2.1 = i ∧ aliveI ps w.1 d = true then some w.1 else none
noncomputable def spouseL (ps : List Per) (ws : List Wed) (i d : Int) : Option Int := ws.findSome? (spF ps i d)

theorem get_map {α : Type} (f : α → V) {xs : List α} {k : Nat} {v : V} (h : (xs.map f)[k]? = some v) : ∃ x, xs[k]? = some x ∧ v = f x := by
  rw [List.getElem?_map] at h
  cases hx : xs[k]? with
  | none => rw [hx] at h; simp at h
  | some x => rw [hx] at h; exact ⟨x, rfl, by simpa using h.symm⟩
theorem take_next {α : Type} {xs : List α} {k : Nat} {x : α} (h : xs[k]? = some x) : xs.take (k + 1) = xs.take k ++ [x] := by
  rw [List.take_add_one, h]; rfl
theorem find_found {α β : Type} (f : α → Option β) {xs : List α} {k : Nat} {x : α} {b : β} (h : xs[k]? = some x) (h0 : (xs.take k).findSome? f = none) (hx : f x = some b) : xs.findSome? f = some b := by
  have e : xs = xs.take k ++ xs.drop k := (List.take_append_drop k xs).symm
  have hk := (List.getElem?_eq_some_iff.mp h).1
  have hd : xs.drop k = x :: xs.drop (k + 1) := by
    rw [List.drop_eq_getElem_cons hk]
    congr 1
    exact (List.getElem?_eq_some_iff.mp h).2
  rw [e, List.findSome?_append, h0, hd]
  simp [hx]

theorem per_alive {ps : List Per} {i : Int} (h0 : 0 ≤ i) (h1 : i < ps.length) : ∃ p, ps[i.toNat]? = some p ∧ ∀ d, aliveI ps i d = aliveP p d := by
  have hk : i.toNat < ps.length := by omega
  refine ⟨ps[i.toNat], by simp [hk], ?_⟩
  intro d
  simp [aliveI, hk]

theorem w_spouse_on (n lp lw : Nat) (z : V) (i d : Int) (H : Hp) (ps : List Per) (ws : List Wed) (hA : H[lp]? = some (.list (ps.map perV))) (hB : H[lw]? = some (.list (ws.map wedV))) (hok : ∀ w ∈ ws, WedOk ps.length w) :
    Wp (callF scr pgks pfns (n + 2) i_spouse_on [.tup [.ref lp, .ref lw, z], .int i, .int d] H) fun v H' => v = diV (spouseL ps ws i d) ∧ H' = H := by
  rw [c_spouse_on, Wp_end]
  refine WSs.sound _ ?_
  unfold pb_spouse_on
  try simp (disch := first | decide | omega) only [↓ed00, ↓ed01, ↓ed03, ↓ed04, ↓ed05, ↓ed06, ↓ed07, ↓ed08, ↓ed09, ↓ed10, ↓ed11, ↓ed12, ↓ed13, ↓ed14, ↓ed15, ↓ed16, ↓ed17, ↓ed18, ↓ed19, ↓ed20, ↓ed21, ↓ed23, ↓ed24, ↓ed25, ↓ed26, ↓ed27, ↓ed28, ↓ed29, ↓ed30, ↓ed31, ↓ed32, ↓ed33, ↓ed34, ↓ed35, ↓ed36, ↓ed37, ↓ed38, ↓ed39, ↓ed40, ↓ed41, ↓ed42, ↓ed46, ↓ed47, eu00, eu01, eu02, eu03, eu04, eu05, eu06, eu09, eu10, eu11, eu14, eu15, eu18, eu19, eu20, eu21, eu22, eu23, eu24, eu25, eu26, eu27, eu28, eu29, eu30, eu31, eu32, eu33, eu34, eu35, eu36, eu37, eu38, eu39, eu40, eu41, eu42, eu43, eu44, eu46, eu47, eu48, eu49, eu50, eu51, eo00, eo01, eo02, eo03, eo04, eo05, eo06, eo07, eo08, eo09, eo10, eo11, eo12, eo13, eo14, eo15, eo16, eo17, Nat.reduceAdd, Nat.reduceLT, if_true, Bool.false_eq_true, reduceIte, Nat.zero_add, Nat.succ_eq_add_one, Int.reduceNeg, beq_self_eq_true, seqOf_lst _ _ hB]
  refine for_inv (fun k ρ H' => ∃ (a b c : Option V), ρ = [some (.tup [.ref lp, .ref lw, z]), some (.int i), some (.int d), a, b, c] ∧ H' = H ∧ (ws.take k).findSome? (spF ps i d) = none) ?_ ?_ ?_
  · exact ⟨_, _, _, rfl, rfl, by simp⟩
  · rintro k v ρ Hk hv ⟨oa, ob, oc, rfl, rfl, hno⟩
    obtain ⟨w, hw, rfl⟩ := get_map _ hv
    obtain ⟨h1, h2, h3, h4, h5⟩ := hok w (List.mem_of_getElem? hw)
    obtain ⟨p, hp, hpa⟩ := per_alive h1 h2
    obtain ⟨q, hq, hqa⟩ := per_alive h3 h4
    rw [wedV]
    simp only [wSome_some, asg_var, asg_tup, asgs_cons, asgs_nil, Option.bind_some, List.set_cons_succ, List.set_cons_zero, List.length_cons, List.length_nil, Nat.reduceAdd, Nat.reduceLT, reduceIte, Nat.zero_add, Nat.succ_eq_add_one, List.take_succ_cons, List.take_zero, List.drop_succ_cons, List.drop_zero]
    refine if_cut (fun b H' => H' = Hk ∧ b = decide (w.2.2 ≤ d ∧ w.1 = i ∧ aliveI ps w.2.1 d = true)) ?_ ?_ ?_
    · by_cases hd : w.2.2 ≤ d
      · by_cases he : w.1 = i
        · try simp (disch := first | decide | omega) only [↓ed00, ↓ed01, ↓ed03, ↓ed04, ↓ed05, ↓ed06, ↓ed07, ↓ed08, ↓ed09, ↓ed10, ↓ed11, ↓ed12, ↓ed13, ↓ed14, ↓ed15, ↓ed16, ↓ed17, ↓ed18, ↓ed19, ↓ed20, ↓ed21, ↓ed23, ↓ed24, ↓ed25, ↓ed26, ↓ed27, ↓ed28, ↓ed29, ↓ed30, ↓ed31, ↓ed32, ↓ed33, ↓ed34, ↓ed35, ↓ed36, ↓ed37, ↓ed38, ↓ed39, ↓ed40, ↓ed41, ↓ed42, ↓ed46, ↓ed47, eu00, eu01, eu02, eu03, eu04, eu05, eu06, eu09, eu10, eu11, eu14, eu15, eu18, eu19, eu20, eu21, eu22, eu23, eu24, eu25, eu26, eu27, eu28, eu29, eu30, eu31, eu32, eu33, eu34, eu35, eu36, eu37, eu38, eu39, eu40, eu41, eu42, eu43, eu44, eu46, eu47, eu48, eu49, eu50, eu51, eo00, eo01, eo02, eo03, eo04, eo05, eo06, eo07, eo08, eo09, eo10, eo11, eo12, eo13, eo14, eo15, eo16, eo17, Nat.reduceAdd, Nat.reduceLT, if_true, Bool.false_eq_true, reduceIte, Nat.zero_add, Nat.succ_eq_add_one, Int.reduceNeg, beq_self_eq_true, hd, he, decide_true]
          refine call_of (w_lives scr n lp _ d Hk ps q hA h3 hq) ?_
          rintro v H' ⟨rfl, rfl⟩
          try simp (disch := first | decide | omega) only [↓ed00, ↓ed01, ↓ed03, ↓ed04, ↓ed05, ↓ed06, ↓ed07, ↓ed08, ↓ed09, ↓ed10, ↓ed11, ↓ed12, ↓ed13, ↓ed14, ↓ed15, ↓ed16, ↓ed17, ↓ed18, ↓ed19, ↓ed20, ↓ed21, ↓ed23, ↓ed24, ↓ed25, ↓ed26, ↓ed27, ↓ed28, ↓ed29, ↓ed30, ↓ed31, ↓ed32, ↓ed33, ↓ed34, ↓ed35, ↓ed36, ↓ed37, ↓ed38, ↓ed39, ↓ed40, ↓ed41, ↓ed42, ↓ed46, ↓ed47, eu00, eu01, eu02, eu03, eu04, eu05, eu06, eu09, eu10, eu11, eu14, eu15, eu18, eu19, eu20, eu21, eu22, eu23, eu24, eu25, eu26, eu27, eu28, eu29, eu30, eu31, eu32, eu33, eu34, eu35, eu36, eu37, eu38, eu39, eu40, eu41, eu42, eu43, eu44, eu46, eu47, eu48, eu49, eu50, eu51, eo00, eo01, eo02, eo03, eo04, eo05, eo06, eo07, eo08, eo09, eo10, eo11, eo12, eo13, eo14, eo15, eo16, eo17, Nat.reduceAdd, Nat.reduceLT, if_true, Bool.false_eq_true, reduceIte, Nat.zero_add, Nat.succ_eq_add_one, Int.reduceNeg, beq_self_eq_true]
          exact ⟨trivial, by simp [hqa]⟩
        · have he' : (w.1 == i) = false := by simpa using he
          try simp (disch := first | decide | omega) only [↓ed00, ↓ed01, ↓ed03, ↓ed04, ↓ed05, ↓ed06, ↓ed07, ↓ed08, ↓ed09, ↓ed10, ↓ed11, ↓ed12, ↓ed13, ↓ed14, ↓ed15, ↓ed16, ↓ed17, ↓ed18, ↓ed19, ↓ed20, ↓ed21, ↓ed23, ↓ed24, ↓ed25, ↓ed26, ↓ed27, ↓ed28, ↓ed29, ↓ed30, ↓ed31, ↓ed32, ↓ed33, ↓ed34, ↓ed35, ↓ed36, ↓ed37, ↓ed38, ↓ed39, ↓ed40, ↓ed41, ↓ed42, ↓ed46, ↓ed47, eu00, eu01, eu02, eu03, eu04, eu05, eu06, eu09, eu10, eu11, eu14, eu15, eu18, eu19, eu20, eu21, eu22, eu23, eu24, eu25, eu26, eu27, eu28, eu29, eu30, eu31, eu32, eu33, eu34, eu35, eu36, eu37, eu38, eu39, eu40, eu41, eu42, eu43, eu44, eu46, eu47, eu48, eu49, eu50, eu51, eo00, eo01, eo02, eo03, eo04, eo05, eo06, eo07, eo08, eo09, eo10, eo11, eo12, eo13, eo14, eo15, eo16, eo17, Nat.reduceAdd, Nat.reduceLT, if_true, Bool.false_eq_true, reduceIte, Nat.zero_add, Nat.succ_eq_add_one, Int.reduceNeg, beq_self_eq_true, hd, he', decide_true]
          exact ⟨trivial, by simp [he]⟩
      · try simp (disch := first | decide | omega) only [↓ed00, ↓ed01, ↓ed03, ↓ed04, ↓ed05, ↓ed06, ↓ed07, ↓ed08, ↓ed09, ↓ed10, ↓ed11, ↓ed12, ↓ed13, ↓ed14, ↓ed15, ↓ed16, ↓ed17, ↓ed18, ↓ed19, ↓ed20, ↓ed21, ↓ed23, ↓ed24, ↓ed25, ↓ed26, ↓ed27, ↓ed28, ↓ed29, ↓ed30, ↓ed31, ↓ed32, ↓ed33, ↓ed34, ↓ed35, ↓ed36, ↓ed37, ↓ed38, ↓ed39, ↓ed40, ↓ed41, ↓ed42, ↓ed46, ↓ed47, eu00, eu01, eu02, eu03, eu04, eu05, eu06, eu09, eu10, eu11, eu14, eu15, eu18, eu19, eu20, eu21, eu22, eu23, eu24, eu25, eu26, eu27, eu28, eu29, eu30, eu31, eu32, eu33, eu34, eu35, eu36, eu37, eu38, eu39, eu40, eu41, eu42, eu43, eu44, eu46, eu47, eu48, eu49, eu50, eu51, eo00, eo01, eo02, eo03, eo04, eo05, eo06, eo07, eo08, eo09, eo10, eo11, eo12, eo13, eo14, eo15, eo16, eo17, Nat.reduceAdd, Nat.reduceLT, if_true, Bool.false_eq_true, reduceIte, Nat.zero_add, Nat.succ_eq_add_one, Int.reduceNeg, beq_self_eq_true, hd, decide_false]
        exact ⟨trivial, by simp [hd]⟩
    · rintro H' ⟨rfl, h⟩
      have h : w.2.2 ≤ d ∧ w.1 = i ∧ aliveI ps w.2.1 d = true := by simpa using h
      try simp (disch := first | decide | omega) only [↓ed00, ↓ed01, ↓ed03, ↓ed04, ↓ed05, ↓ed06, ↓ed07, ↓ed08, ↓ed09, ↓ed10, ↓ed11, ↓ed12, ↓ed13, ↓ed14, ↓ed15, ↓ed16, ↓ed17, ↓ed18, ↓ed19, ↓ed20, ↓ed21, ↓ed23, ↓ed24, ↓ed25, ↓ed26, ↓ed27, ↓ed28, ↓ed29, ↓ed30, ↓ed31, ↓ed32, ↓ed33, ↓ed34, ↓ed35, ↓ed36, ↓ed37, ↓ed38, ↓ed39, ↓ed40, ↓ed41, ↓ed42, ↓ed46, ↓ed47, eu00, eu01, eu02, eu03, eu04, eu05, eu06, eu09, eu10, eu11, eu14, eu15, eu18, eu19, eu20, eu21, eu22, eu23, eu24, eu25, eu26, eu27, eu28, eu29, eu30, eu31, eu32, eu33, eu34, eu35, eu36, eu37, eu38, eu39, eu40, eu41, eu42, eu43, eu44, eu46, eu47, eu48, eu49, eu50, eu51, eo00, eo01, eo02, eo03, eo04, eo05, eo06, eo07, eo08, eo09, eo10, eo11, eo12, eo13, eo14, eo15, eo16, eo17, Nat.reduceAdd, Nat.reduceLT, if_true, Bool.false_eq_true, reduceIte, Nat.zero_add, Nat.succ_eq_add_one, Int.reduceNeg, beq_self_eq_true]
      refine ⟨?_, trivial⟩
      unfold spouseL
      rw [find_found _ hw hno (b := w.2.1) (by unfold spF; rw [if_pos h])]
      rfl
    · rintro H' ⟨rfl, hn⟩
      have hn : ¬ (w.2.2 ≤ d ∧ w.1 = i ∧ aliveI ps w.2.1 d = true) := of_decide_eq_false hn.symm
      rw [WSs_nil, thenK_next]
      refine if_cut (fun b H'' => H'' = H' ∧ b = decide (w.2.2 ≤ d ∧ w.2.1 = i ∧ aliveI ps w.1 d = true)) ?_ ?_ ?_
      · by_cases hd : w.2.2 ≤ d
        · by_cases he : w.2.1 = i
          · try simp (disch := first | decide | omega) only [↓ed00, ↓ed01, ↓ed03, ↓ed04, ↓ed05, ↓ed06, ↓ed07, ↓ed08, ↓ed09, ↓ed10, ↓ed11, ↓ed12, ↓ed13, ↓ed14, ↓ed15, ↓ed16, ↓ed17, ↓ed18, ↓ed19, ↓ed20, ↓ed21, ↓ed23, ↓ed24, ↓ed25, ↓ed26, ↓ed27, ↓ed28, ↓ed29, ↓ed30, ↓ed31, ↓ed32, ↓ed33, ↓ed34, ↓ed35, ↓ed36, ↓ed37, ↓ed38, ↓ed39, ↓ed40, ↓ed41, ↓ed42, ↓ed46, ↓ed47, eu00, eu01, eu02, eu03, eu04, eu05, eu06, eu09, eu10, eu11, eu14, eu15, eu18, eu19, eu20, eu21, eu22, eu23, eu24, eu25, eu26, eu27, eu28, eu29, eu30, eu31, eu32, eu33, eu34, eu35, eu36, eu37, eu38, eu39, eu40, eu41, eu42, eu43, eu44, eu46, eu47, eu48, eu49, eu50, eu51, eo00, eo01, eo02, eo03, eo04, eo05, eo06, eo07, eo08, eo09, eo10, eo11, eo12, eo13, eo14, eo15, eo16, eo17, Nat.reduceAdd, Nat.reduceLT, if_true, Bool.false_eq_true, reduceIte, Nat.zero_add, Nat.succ_eq_add_one, Int.reduceNeg, beq_self_eq_true, hd, he, decide_true]
            refine call_of (w_lives scr n lp _ d H' ps p hA h1 hp) ?_
            rintro v H' ⟨rfl, rfl⟩
            try simp (disch := first | decide | omega) only [↓ed00, ↓ed01, ↓ed03, ↓ed04, ↓ed05, ↓ed06, ↓ed07, ↓ed08, ↓ed09, ↓ed10, ↓ed11, ↓ed12, ↓ed13, ↓ed14, ↓ed15, ↓ed16, ↓ed17, ↓ed18, ↓ed19, ↓ed20, ↓ed21, ↓ed23, ↓ed24, ↓ed25, ↓ed26, ↓ed27, ↓ed28, ↓ed29, ↓ed30, ↓ed31, ↓ed32, ↓ed33, ↓ed34, ↓ed35, ↓ed36, ↓ed37, ↓ed38, ↓ed39, ↓ed40, ↓ed41, ↓ed42, ↓ed46, ↓ed47, eu00, eu01, eu02, eu03, eu04, eu05, eu06, eu09, eu10, eu11, eu14, eu15, eu18, eu19, eu20, eu21, eu22, eu23, eu24, eu25, eu26, eu27, eu28, eu29, eu30, eu31, eu32, eu33, eu34, eu35, eu36, eu37, eu38, eu39, eu40, eu41, eu42, eu43, eu44, eu46, eu47, eu48, eu49, eu50, eu51, eo00, eo01, eo02, eo03, eo04, eo05, eo06, eo07, eo08, eo09, eo10, eo11, eo12, eo13, eo14, eo15, eo16, eo17, Nat.reduceAdd, Nat.reduceLT, if_true, Bool.false_eq_true, reduceIte, Nat.zero_add, Nat.succ_eq_add_one, Int.reduceNeg, beq_self_eq_true]
            exact ⟨trivial, by simp [hpa]⟩
          · have he' : (w.2.1 == i) = false := by simpa using he
            try simp (disch := first | decide | omega) only [↓ed00, ↓ed01, ↓ed03, ↓ed04, ↓ed05, ↓ed06, ↓ed07, ↓ed08, ↓ed09, ↓ed10, ↓ed11, ↓ed12, ↓ed13, ↓ed14, ↓ed15, ↓ed16, ↓ed17, ↓ed18, ↓ed19, ↓ed20, ↓ed21, ↓ed23, ↓ed24, ↓ed25, ↓ed26, ↓ed27, ↓ed28, ↓ed29, ↓ed30, ↓ed31, ↓ed32, ↓ed33, ↓ed34, ↓ed35, ↓ed36, ↓ed37, ↓ed38, ↓ed39, ↓ed40, ↓ed41, ↓ed42, ↓ed46, ↓ed47, eu00, eu01, eu02, eu03, eu04, eu05, eu06, eu09, eu10, eu11, eu14, eu15, eu18, eu19, eu20, eu21, eu22, eu23, eu24, eu25, eu26, eu27, eu28, eu29, eu30, eu31, eu32, eu33, eu34, eu35, eu36, eu37, eu38, eu39, eu40, eu41, eu42, eu43, eu44, eu46, eu47, eu48, eu49, eu50, eu51, eo00, eo01, eo02, eo03, eo04, eo05, eo06, eo07, eo08, eo09, eo10, eo11, eo12, eo13, eo14, eo15, eo16, eo17, Nat.reduceAdd, Nat.reduceLT, if_true, Bool.false_eq_true, reduceIte, Nat.zero_add, Nat.succ_eq_add_one, Int.reduceNeg, beq_self_eq_true, hd, he', decide_true]
            exact ⟨trivial, by simp [he]⟩
        · try simp (disch := first | decide | omega) only [↓ed00, ↓ed01, ↓ed03, ↓ed04, ↓ed05, ↓ed06, ↓ed07, ↓ed08, ↓ed09, ↓ed10, ↓ed11, ↓ed12, ↓ed13, ↓ed14, ↓ed15, ↓ed16, ↓ed17, ↓ed18, ↓ed19, ↓ed20, ↓ed21, ↓ed23, ↓ed24, ↓ed25, ↓ed26, ↓ed27, ↓ed28, ↓ed29, ↓ed30, ↓ed31, ↓ed32, ↓ed33, ↓ed34, ↓ed35, ↓ed36, ↓ed37, ↓ed38, ↓ed39, ↓ed40, ↓ed41, ↓ed42, ↓ed46, ↓ed47, eu00, eu01, eu02, eu03, eu04, eu05, eu06, eu09, eu10, eu11, eu14, eu15, eu18, eu19, eu20, eu21, eu22, eu23, eu24, eu25, eu26, eu27, eu28, eu29, eu30, eu31, eu32, eu33, eu34, eu35, eu36, eu37, eu38, eu39, eu40, eu41, eu42, eu43, eu44, eu46, eu47, eu48, eu49, eu50, eu51, eo00, eo01, eo02, eo03, eo04, eo05, eo06, eo07, eo08, eo09, eo10, eo11, eo12, eo13, eo14, eo15, eo16, eo17, Nat.reduceAdd, Nat.reduceLT, if_true, Bool.false_eq_true, reduceIte, Nat.zero_add, Nat.succ_eq_add_one, Int.reduceNeg, beq_self_eq_true, hd, decide_false]
          exact ⟨trivial, by simp [hd]⟩
      · rintro H'' ⟨rfl, h⟩
        have h : w.2.2 ≤ d ∧ w.2.1 = i ∧ aliveI ps w.1 d = true := by simpa using h
        try simp (disch := first | decide | omega) only [↓ed00, ↓ed01, ↓ed03, ↓ed04, ↓ed05, ↓ed06, ↓ed07, ↓ed08, ↓ed09, ↓ed10, ↓ed11, ↓ed12, ↓ed13, ↓ed14, ↓ed15, ↓ed16, ↓ed17, ↓ed18, ↓ed19, ↓ed20, ↓ed21, ↓ed23, ↓ed24, ↓ed25, ↓ed26, ↓ed27, ↓ed28, ↓ed29, ↓ed30, ↓ed31, ↓ed32, ↓ed33, ↓ed34, ↓ed35, ↓ed36, ↓ed37, ↓ed38, ↓ed39, ↓ed40, ↓ed41, ↓ed42, ↓ed46, ↓ed47, eu00, eu01, eu02, eu03, eu04, eu05, eu06, eu09, eu10, eu11, eu14, eu15, eu18, eu19, eu20, eu21, eu22, eu23, eu24, eu25, eu26, eu27, eu28, eu29, eu30, eu31, eu32, eu33, eu34, eu35, eu36, eu37, eu38, eu39, eu40, eu41, eu42, eu43, eu44, eu46, eu47, eu48, eu49, eu50, eu51, eo00, eo01, eo02, eo03, eo04, eo05, eo06, eo07, eo08, eo09, eo10, eo11, eo12, eo13, eo14, eo15, eo16, eo17, Nat.reduceAdd, Nat.reduceLT, if_true, Bool.false_eq_true, reduceIte, Nat.zero_add, Nat.succ_eq_add_one, Int.reduceNeg, beq_self_eq_true]
        refine ⟨?_, trivial⟩
        unfold spouseL
        rw [find_found _ hw hno (b := w.1) (by unfold spF; rw [if_neg hn, if_pos h])]
        rfl
      · rintro H'' ⟨rfl, hn2⟩
        have hn2 : ¬ (w.2.2 ≤ d ∧ w.2.1 = i ∧ aliveI ps w.1 d = true) := of_decide_eq_false hn2.symm
        try simp (disch := first | decide | omega) only [↓ed00, ↓ed01, ↓ed03, ↓ed04, ↓ed05, ↓ed06, ↓ed07, ↓ed08, ↓ed09, ↓ed10, ↓ed11, ↓ed12, ↓ed13, ↓ed14, ↓ed15, ↓ed16, ↓ed17, ↓ed18, ↓ed19, ↓ed20, ↓ed21, ↓ed23, ↓ed24, ↓ed25, ↓ed26, ↓ed27, ↓ed28, ↓ed29, ↓ed30, ↓ed31, ↓ed32, ↓ed33, ↓ed34, ↓ed35, ↓ed36, ↓ed37, ↓ed38, ↓ed39, ↓ed40, ↓ed41, ↓ed42, ↓ed46, ↓ed47, eu00, eu01, eu02, eu03, eu04, eu05, eu06, eu09, eu10, eu11, eu14, eu15, eu18, eu19, eu20, eu21, eu22, eu23, eu24, eu25, eu26, eu27, eu28, eu29, eu30, eu31, eu32, eu33, eu34, eu35, eu36, eu37, eu38, eu39, eu40, eu41, eu42, eu43, eu44, eu46, eu47, eu48, eu49, eu50, eu51, eo00, eo01, eo02, eo03, eo04, eo05, eo06, eo07, eo08, eo09, eo10, eo11, eo12, eo13, eo14, eo15, eo16, eo17, Nat.reduceAdd, Nat.reduceLT, if_true, Bool.false_eq_true, reduceIte, Nat.zero_add, Nat.succ_eq_add_one, Int.reduceNeg, beq_self_eq_true]
        refine ⟨by simp [stands, watch], _, _, _, rfl, trivial, ?_⟩
        rw [take_next hw, List.findSome?_append, hno]
        simp only [List.findSome?, spF, if_neg hn, if_neg hn2]; rfl
  · rintro ρ H' ⟨oa, ob, oc, rfl, rfl, hno⟩
    rw [List.length_map, List.take_length] at hno
    try simp (disch := first | decide | omega) only [↓ed00, ↓ed01, ↓ed03, ↓ed04, ↓ed05, ↓ed06, ↓ed07, ↓ed08, ↓ed09, ↓ed10, ↓ed11, ↓ed12, ↓ed13, ↓ed14, ↓ed15, ↓ed16, ↓ed17, ↓ed18, ↓ed19, ↓ed20, ↓ed21, ↓ed23, ↓ed24, ↓ed25, ↓ed26, ↓ed27, ↓ed28, ↓ed29, ↓ed30, ↓ed31, ↓ed32, ↓ed33, ↓ed34, ↓ed35, ↓ed36, ↓ed37, ↓ed38, ↓ed39, ↓ed40, ↓ed41, ↓ed42, ↓ed46, ↓ed47, eu00, eu01, eu02, eu03, eu04, eu05, eu06, eu09, eu10, eu11, eu14, eu15, eu18, eu19, eu20, eu21, eu22, eu23, eu24, eu25, eu26, eu27, eu28, eu29, eu30, eu31, eu32, eu33, eu34, eu35, eu36, eu37, eu38, eu39, eu40, eu41, eu42, eu43, eu44, eu46, eu47, eu48, eu49, eu50, eu51, eo00, eo01, eo02, eo03, eo04, eo05, eo06, eo07, eo08, eo09, eo10, eo11, eo12, eo13, eo14, eo15, eo16, eo17, Nat.reduceAdd, Nat.reduceLT, if_true, Bool.false_eq_true, reduceIte, Nat.zero_add, Nat.succ_eq_add_one, Int.reduceNeg, beq_self_eq_true]
    refine ⟨?_, trivial⟩
    unfold spouseL
    rw [hno]; rfl

theorem w_lspouse (n lp lw : Nat) (z : V) (i d : Int) (H : Hp) (ps : List Per) (ws : List Wed) (hA : H[lp]? = some (.list (ps.map perV))) (hB : H[lw]? = some (.list (ws.map wedV))) (hok : ∀ w ∈ ws, WedOk ps.length w) (hsz : ws.length ≤ 1000) :
    Wp (callF scr pgks pfns (n + 2) i_law_spouse [.tup [.ref lp, .ref lw, z], .int i, .int d] H) fun v H' => v = diV (spouseL ps ws i d) ∧ Kept H.length H H' := by
  rw [c_law_spouse, Wp_end]
  refine WSs.sound _ ?_
  unfold pb_law_spouse
  have hB' := at_app [.list []] hB
  have hlw := at_lt hB
  try simp (disch := first | decide | omega) only [↓ed00, ↓ed01, ↓ed03, ↓ed04, ↓ed05, ↓ed06, ↓ed07, ↓ed08, ↓ed09, ↓ed10, ↓ed11, ↓ed12, ↓ed13, ↓ed14, ↓ed15, ↓ed16, ↓ed17, ↓ed18, ↓ed19, ↓ed20, ↓ed21, ↓ed23, ↓ed24, ↓ed25, ↓ed26, ↓ed27, ↓ed28, ↓ed29, ↓ed30, ↓ed31, ↓ed32, ↓ed33, ↓ed34, ↓ed35, ↓ed36, ↓ed37, ↓ed38, ↓ed39, ↓ed40, ↓ed41, ↓ed42, ↓ed46, ↓ed47, eu00, eu01, eu02, eu03, eu04, eu05, eu06, eu09, eu10, eu11, eu14, eu15, eu18, eu19, eu20, eu21, eu22, eu23, eu24, eu25, eu26, eu27, eu28, eu29, eu30, eu31, eu32, eu33, eu34, eu35, eu36, eu37, eu38, eu39, eu40, eu41, eu42, eu43, eu44, eu46, eu47, eu48, eu49, eu50, eu51, eo00, eo01, eo02, eo03, eo04, eo05, eo06, eo07, eo08, eo09, eo10, eo11, eo12, eo13, eo14, eo15, eo16, eo17, Nat.reduceAdd, Nat.reduceLT, if_true, Bool.false_eq_true, reduceIte, Nat.zero_add, Nat.succ_eq_add_one, Int.reduceNeg, beq_self_eq_true, seqOf_lst _ _ hB']
  refine for_inv (fun k ρ H' => ∃ (a b c : Option V) (ms : List Int), ρ = [some (.tup [.ref lp, .ref lw, z]), some (.int i), some (.int d), some (.ref H.length), a, b, c] ∧ Kept H.length H H' ∧ H'[H.length]? = some (.list (ms.map .int)) ∧ ms.length ≤ 2 * k ∧ (ws.take k).findSome? (spF ps i d) = ms.head?) ?_ ?_ ?_
  · exact ⟨_, _, _, [], rfl, Kept.app _ _, at_new _ _, by simp, by simp⟩
  · rintro k v ρ Hk hv ⟨oa, ob, oc, ms, rfl, hFk, hNk, hml, hms⟩
    obtain ⟨w, hw, rfl⟩ := get_map _ hv
    have hkw := (List.getElem?_eq_some_iff.mp hw).1
    obtain ⟨h1, h2, h3, h4, h5⟩ := hok w (List.mem_of_getElem? hw)
    obtain ⟨p, hp, hpa⟩ := per_alive h1 h2
    obtain ⟨q, hq, hqa⟩ := per_alive h3 h4
    have hAk := hFk.at' hA
    rw [wedV]
    simp only [wSome_some, asg_var, asg_tup, asgs_cons, asgs_nil, Option.bind_some, List.set_cons_succ, List.set_cons_zero, List.length_cons, List.length_nil, Nat.reduceAdd, Nat.reduceLT, reduceIte, Nat.zero_add, Nat.succ_eq_add_one, List.take_succ_cons, List.take_zero, List.drop_succ_cons, List.drop_zero]
    refine cut 1 (fun ρ' H' => ∃ ms' : List Int, ρ' = [some (.tup [.ref lp, .ref lw, z]), some (.int i), some (.int d), some (.ref H.length), some (.int w.1), some (.int w.2.1), some (.int w.2.2)] ∧ Kept H.length H H' ∧ H'[H.length]? = some (.list (ms'.map .int)) ∧ ms'.length ≤ ms.length + 1 ∧ ms' = if w.2.2 ≤ d ∧ w.1 = i ∧ aliveI ps w.2.1 d = true then ms ++ [w.2.1] else ms) ?_ ?_
    · refine if_cut (fun b H' => H' = Hk ∧ b = decide (w.2.2 ≤ d ∧ w.1 = i ∧ aliveI ps w.2.1 d = true)) ?_ ?_ ?_
      · by_cases hd : w.2.2 ≤ d
        · by_cases he : w.1 = i
          · try simp (disch := first | decide | omega) only [↓ed00, ↓ed01, ↓ed03, ↓ed04, ↓ed05, ↓ed06, ↓ed07, ↓ed08, ↓ed09, ↓ed10, ↓ed11, ↓ed12, ↓ed13, ↓ed14, ↓ed15, ↓ed16, ↓ed17, ↓ed18, ↓ed19, ↓ed20, ↓ed21, ↓ed23, ↓ed24, ↓ed25, ↓ed26, ↓ed27, ↓ed28, ↓ed29, ↓ed30, ↓ed31, ↓ed32, ↓ed33, ↓ed34, ↓ed35, ↓ed36, ↓ed37, ↓ed38, ↓ed39, ↓ed40, ↓ed41, ↓ed42, ↓ed46, ↓ed47, eu00, eu01, eu02, eu03, eu04, eu05, eu06, eu09, eu10, eu11, eu14, eu15, eu18, eu19, eu20, eu21, eu22, eu23, eu24, eu25, eu26, eu27, eu28, eu29, eu30, eu31, eu32, eu33, eu34, eu35, eu36, eu37, eu38, eu39, eu40, eu41, eu42, eu43, eu44, eu46, eu47, eu48, eu49, eu50, eu51, eo00, eo01, eo02, eo03, eo04, eo05, eo06, eo07, eo08, eo09, eo10, eo11, eo12, eo13, eo14, eo15, eo16, eo17, Nat.reduceAdd, Nat.reduceLT, if_true, Bool.false_eq_true, reduceIte, Nat.zero_add, Nat.succ_eq_add_one, Int.reduceNeg, beq_self_eq_true, hd, he, decide_true]
            refine call_of (w_llives scr n lp _ d Hk ps q hAk h3 hq) ?_
            rintro v H' ⟨rfl, rfl⟩
            try simp (disch := first | decide | omega) only [↓ed00, ↓ed01, ↓ed03, ↓ed04, ↓ed05, ↓ed06, ↓ed07, ↓ed08, ↓ed09, ↓ed10, ↓ed11, ↓ed12, ↓ed13, ↓ed14, ↓ed15, ↓ed16, ↓ed17, ↓ed18, ↓ed19, ↓ed20, ↓ed21, ↓ed23, ↓ed24, ↓ed25, ↓ed26, ↓ed27, ↓ed28, ↓ed29, ↓ed30, ↓ed31, ↓ed32, ↓ed33, ↓ed34, ↓ed35, ↓ed36, ↓ed37, ↓ed38, ↓ed39, ↓ed40, ↓ed41, ↓ed42, ↓ed46, ↓ed47, eu00, eu01, eu02, eu03, eu04, eu05, eu06, eu09, eu10, eu11, eu14, eu15, eu18, eu19, eu20, eu21, eu22, eu23, eu24, eu25, eu26, eu27, eu28, eu29, eu30, eu31, eu32, eu33, eu34, eu35, eu36, eu37, eu38, eu39, eu40, eu41, eu42, eu43, eu44, eu46, eu47, eu48, eu49, eu50, eu51, eo00, eo01, eo02, eo03, eo04, eo05, eo06, eo07, eo08, eo09, eo10, eo11, eo12, eo13, eo14, eo15, eo16, eo17, Nat.reduceAdd, Nat.reduceLT, if_true, Bool.false_eq_true, reduceIte, Nat.zero_add, Nat.succ_eq_add_one, Int.reduceNeg, beq_self_eq_true]
            exact ⟨trivial, by simp [hqa]⟩
          · have he' : (w.1 == i) = false := by simpa using he
            try simp (disch := first | decide | omega) only [↓ed00, ↓ed01, ↓ed03, ↓ed04, ↓ed05, ↓ed06, ↓ed07, ↓ed08, ↓ed09, ↓ed10, ↓ed11, ↓ed12, ↓ed13, ↓ed14, ↓ed15, ↓ed16, ↓ed17, ↓ed18, ↓ed19, ↓ed20, ↓ed21, ↓ed23, ↓ed24, ↓ed25, ↓ed26, ↓ed27, ↓ed28, ↓ed29, ↓ed30, ↓ed31, ↓ed32, ↓ed33, ↓ed34, ↓ed35, ↓ed36, ↓ed37, ↓ed38, ↓ed39, ↓ed40, ↓ed41, ↓ed42, ↓ed46, ↓ed47, eu00, eu01, eu02, eu03, eu04, eu05, eu06, eu09, eu10, eu11, eu14, eu15, eu18, eu19, eu20, eu21, eu22, eu23, eu24, eu25, eu26, eu27, eu28, eu29, eu30, eu31, eu32, eu33, eu34, eu35, eu36, eu37, eu38, eu39, eu40, eu41, eu42, eu43, eu44, eu46, eu47, eu48, eu49, eu50, eu51, eo00, eo01, eo02, eo03, eo04, eo05, eo06, eo07, eo08, eo09, eo10, eo11, eo12, eo13, eo14, eo15, eo16, eo17, Nat.reduceAdd, Nat.reduceLT, if_true, Bool.false_eq_true, reduceIte, Nat.zero_add, Nat.succ_eq_add_one, Int.reduceNeg, beq_self_eq_true, hd, he', decide_true]
            exact ⟨trivial, by simp [he]⟩
        · try simp (disch := first | decide | omega) only [↓ed00, ↓ed01, ↓ed03, ↓ed04, ↓ed05, ↓ed06, ↓ed07, ↓ed08, ↓ed09, ↓ed10, ↓ed11, ↓ed12, ↓ed13, ↓ed14, ↓ed15, ↓ed16, ↓ed17, ↓ed18, ↓ed19, ↓ed20, ↓ed21, ↓ed23, ↓ed24, ↓ed25, ↓ed26, ↓ed27, ↓ed28, ↓ed29, ↓ed30, ↓ed31, ↓ed32, ↓ed33, ↓ed34, ↓ed35, ↓ed36, ↓ed37, ↓ed38, ↓ed39, ↓ed40, ↓ed41, ↓ed42, ↓ed46, ↓ed47, eu00, eu01, eu02, eu03, eu04, eu05, eu06, eu09, eu10, eu11, eu14, eu15, eu18, eu19, eu20, eu21, eu22, eu23, eu24, eu25, eu26, eu27, eu28, eu29, eu30, eu31, eu32, eu33, eu34, eu35, eu36, eu37, eu38, eu39, eu40, eu41, eu42, eu43, eu44, eu46, eu47, eu48, eu49, eu50, eu51, eo00, eo01, eo02, eo03, eo04, eo05, eo06, eo07, eo08, eo09, eo10, eo11, eo12, eo13, eo14, eo15, eo16, eo17, Nat.reduceAdd, Nat.reduceLT, if_true, Bool.false_eq_true, reduceIte, Nat.zero_add, Nat.succ_eq_add_one, Int.reduceNeg, beq_self_eq_true, hd, decide_false]
          exact ⟨trivial, by simp [hd]⟩
      · rintro H' ⟨rfl, h⟩
        have h : w.2.2 ≤ d ∧ w.1 = i ∧ aliveI ps w.2.1 d = true := by simpa using h
        have hsz : (ms.map V.int).length < 1000000 := by rw [List.length_map]; omega
        try simp (disch := first | decide | omega) only [↓ed00, ↓ed01, ↓ed03, ↓ed04, ↓ed05, ↓ed06, ↓ed07, ↓ed08, ↓ed09, ↓ed10, ↓ed11, ↓ed12, ↓ed13, ↓ed14, ↓ed15, ↓ed16, ↓ed17, ↓ed18, ↓ed19, ↓ed20, ↓ed21, ↓ed23, ↓ed24, ↓ed25, ↓ed26, ↓ed27, ↓ed28, ↓ed29, ↓ed30, ↓ed31, ↓ed32, ↓ed33, ↓ed34, ↓ed35, ↓ed36, ↓ed37, ↓ed38, ↓ed39, ↓ed40, ↓ed41, ↓ed42, ↓ed46, ↓ed47, eu00, eu01, eu02, eu03, eu04, eu05, eu06, eu09, eu10, eu11, eu14, eu15, eu18, eu19, eu20, eu21, eu22, eu23, eu24, eu25, eu26, eu27, eu28, eu29, eu30, eu31, eu32, eu33, eu34, eu35, eu36, eu37, eu38, eu39, eu40, eu41, eu42, eu43, eu44, eu46, eu47, eu48, eu49, eu50, eu51, eo00, eo01, eo02, eo03, eo04, eo05, eo06, eo07, eo08, eo09, eo10, eo11, eo12, eo13, eo14, eo15, eo16, eo17, Nat.reduceAdd, Nat.reduceLT, if_true, Bool.false_eq_true, reduceIte, Nat.zero_add, Nat.succ_eq_add_one, Int.reduceNeg, beq_self_eq_true, meKind_app _ hNk, WMeth_app _ _ _ hNk hsz]
        refine ⟨ms ++ [w.2.1], trivial, hFk.trans (Kept.set _ (Nat.le_refl _) (Nat.le_of_lt (at_lt hNk))) (Nat.le_refl _), ?_, by simp, by rw [if_pos h]⟩
        rw [at_set hNk]; simp
      · rintro H' ⟨rfl, h⟩
        have h : ¬ (w.2.2 ≤ d ∧ w.1 = i ∧ aliveI ps w.2.1 d = true) := of_decide_eq_false h.symm
        try simp (disch := first | decide | omega) only [↓ed00, ↓ed01, ↓ed03, ↓ed04, ↓ed05, ↓ed06, ↓ed07, ↓ed08, ↓ed09, ↓ed10, ↓ed11, ↓ed12, ↓ed13, ↓ed14, ↓ed15, ↓ed16, ↓ed17, ↓ed18, ↓ed19, ↓ed20, ↓ed21, ↓ed23, ↓ed24, ↓ed25, ↓ed26, ↓ed27, ↓ed28, ↓ed29, ↓ed30, ↓ed31, ↓ed32, ↓ed33, ↓ed34, ↓ed35, ↓ed36, ↓ed37, ↓ed38, ↓ed39, ↓ed40, ↓ed41, ↓ed42, ↓ed46, ↓ed47, eu00, eu01, eu02, eu03, eu04, eu05, eu06, eu09, eu10, eu11, eu14, eu15, eu18, eu19, eu20, eu21, eu22, eu23, eu24, eu25, eu26, eu27, eu28, eu29, eu30, eu31, eu32, eu33, eu34, eu35, eu36, eu37, eu38, eu39, eu40, eu41, eu42, eu43, eu44, eu46, eu47, eu48, eu49, eu50, eu51, eo00, eo01, eo02, eo03, eo04, eo05, eo06, eo07, eo08, eo09, eo10, eo11, eo12, eo13, eo14, eo15, eo16, eo17, Nat.reduceAdd, Nat.reduceLT, if_true, Bool.false_eq_true, reduceIte, Nat.zero_add, Nat.succ_eq_add_one, Int.reduceNeg, beq_self_eq_true]
        exact ⟨ms, trivial, hFk, hNk, by omega, by rw [if_neg h]⟩
    · rintro ρ' Hm ⟨ms', rfl, hFm, hNm, hl', hms'⟩
      have hAm := hFm.at' hA
      simp only [List.drop_succ_cons, List.drop_zero]
      have hst : ∀ {H'' : Hp}, Kept H.length H H'' → stands (watch (.ref lw)) (H ++ [.list []]) H'' = true := fun h => stands_ref (h.at' hB) hB'
      refine if_cut (fun b H' => H' = Hm ∧ b = decide (w.2.2 ≤ d ∧ w.2.1 = i ∧ aliveI ps w.1 d = true)) ?_ ?_ ?_
      · by_cases hd : w.2.2 ≤ d
        · by_cases he : w.2.1 = i
          · try simp (disch := first | decide | omega) only [↓ed00, ↓ed01, ↓ed03, ↓ed04, ↓ed05, ↓ed06, ↓ed07, ↓ed08, ↓ed09, ↓ed10, ↓ed11, ↓ed12, ↓ed13, ↓ed14, ↓ed15, ↓ed16, ↓ed17, ↓ed18, ↓ed19, ↓ed20, ↓ed21, ↓ed23, ↓ed24, ↓ed25, ↓ed26, ↓ed27, ↓ed28, ↓ed29, ↓ed30, ↓ed31, ↓ed32, ↓ed33, ↓ed34, ↓ed35, ↓ed36, ↓ed37, ↓ed38, ↓ed39, ↓ed40, ↓ed41, ↓ed42, ↓ed46, ↓ed47, eu00, eu01, eu02, eu03, eu04, eu05, eu06, eu09, eu10, eu11, eu14, eu15, eu18, eu19, eu20, eu21, eu22, eu23, eu24, eu25, eu26, eu27, eu28, eu29, eu30, eu31, eu32, eu33, eu34, eu35, eu36, eu37, eu38, eu39, eu40, eu41, eu42, eu43, eu44, eu46, eu47, eu48, eu49, eu50, eu51, eo00, eo01, eo02, eo03, eo04, eo05, eo06, eo07, eo08, eo09, eo10, eo11, eo12, eo13, eo14, eo15, eo16, eo17, Nat.reduceAdd, Nat.reduceLT, if_true, Bool.false_eq_true, reduceIte, Nat.zero_add, Nat.succ_eq_add_one, Int.reduceNeg, beq_self_eq_true, hd, he, decide_true]
            refine call_of (w_llives scr n lp _ d Hm ps p hAm h1 hp) ?_
            rintro v H' ⟨rfl, rfl⟩
            try simp (disch := first | decide | omega) only [↓ed00, ↓ed01, ↓ed03, ↓ed04, ↓ed05, ↓ed06, ↓ed07, ↓ed08, ↓ed09, ↓ed10, ↓ed11, ↓ed12, ↓ed13, ↓ed14, ↓ed15, ↓ed16, ↓ed17, ↓ed18, ↓ed19, ↓ed20, ↓ed21, ↓ed23, ↓ed24, ↓ed25, ↓ed26, ↓ed27, ↓ed28, ↓ed29, ↓ed30, ↓ed31, ↓ed32, ↓ed33, ↓ed34, ↓ed35, ↓ed36, ↓ed37, ↓ed38, ↓ed39, ↓ed40, ↓ed41, ↓ed42, ↓ed46, ↓ed47, eu00, eu01, eu02, eu03, eu04, eu05, eu06, eu09, eu10, eu11, eu14, eu15, eu18, eu19, eu20, eu21, eu22, eu23, eu24, eu25, eu26, eu27, eu28, eu29, eu30, eu31, eu32, eu33, eu34, eu35, eu36, eu37, eu38, eu39, eu40, eu41, eu42, eu43, eu44, eu46, eu47, eu48, eu49, eu50, eu51, eo00, eo01, eo02, eo03, eo04, eo05, eo06, eo07, eo08, eo09, eo10, eo11, eo12, eo13, eo14, eo15, eo16, eo17, Nat.reduceAdd, Nat.reduceLT, if_true, Bool.false_eq_true, reduceIte, Nat.zero_add, Nat.succ_eq_add_one, Int.reduceNeg, beq_self_eq_true]
            exact ⟨trivial, by simp [hpa]⟩
          · have he' : (w.2.1 == i) = false := by simpa using he
            try simp (disch := first | decide | omega) only [↓ed00, ↓ed01, ↓ed03, ↓ed04, ↓ed05, ↓ed06, ↓ed07, ↓ed08, ↓ed09, ↓ed10, ↓ed11, ↓ed12, ↓ed13, ↓ed14, ↓ed15, ↓ed16, ↓ed17, ↓ed18, ↓ed19, ↓ed20, ↓ed21, ↓ed23, ↓ed24, ↓ed25, ↓ed26, ↓ed27, ↓ed28, ↓ed29, ↓ed30, ↓ed31, ↓ed32, ↓ed33, ↓ed34, ↓ed35, ↓ed36, ↓ed37, ↓ed38, ↓ed39, ↓ed40, ↓ed41, ↓ed42, ↓ed46, ↓ed47, eu00, eu01, eu02, eu03, eu04, eu05, eu06, eu09, eu10, eu11, eu14, eu15, eu18, eu19, eu20, eu21, eu22, eu23, eu24, eu25, eu26, eu27, eu28, eu29, eu30, eu31, eu32, eu33, eu34, eu35, eu36, eu37, eu38, eu39, eu40, eu41, eu42, eu43, eu44, eu46, eu47, eu48, eu49, eu50, eu51, eo00, eo01, eo02, eo03, eo04, eo05, eo06, eo07, eo08, eo09, eo10, eo11, eo12, eo13, eo14, eo15, eo16, eo17, Nat.reduceAdd, Nat.reduceLT, if_true, Bool.false_eq_true, reduceIte, Nat.zero_add, Nat.succ_eq_add_one, Int.reduceNeg, beq_self_eq_true, hd, he', decide_true]
            exact ⟨trivial, by simp [he]⟩
        · try simp (disch := first | decide | omega) only [↓ed00, ↓ed01, ↓ed03, ↓ed04, ↓ed05, ↓ed06, ↓ed07, ↓ed08, ↓ed09, ↓ed10, ↓ed11, ↓ed12, ↓ed13, ↓ed14, ↓ed15, ↓ed16, ↓ed17, ↓ed18, ↓ed19, ↓ed20, ↓ed21, ↓ed23, ↓ed24, ↓ed25, ↓ed26, ↓ed27, ↓ed28, ↓ed29, ↓ed30, ↓ed31, ↓ed32, ↓ed33, ↓ed34, ↓ed35, ↓ed36, ↓ed37, ↓ed38, ↓ed39, ↓ed40, ↓ed41, ↓ed42, ↓ed46, ↓ed47, eu00, eu01, eu02, eu03, eu04, eu05, eu06, eu09, eu10, eu11, eu14, eu15, eu18, eu19, eu20, eu21, eu22, eu23, eu24, eu25, eu26, eu27, eu28, eu29, eu30, eu31, eu32, eu33, eu34, eu35, eu36, eu37, eu38, eu39, eu40, eu41, eu42, eu43, eu44, eu46, eu47, eu48, eu49, eu50, eu51, eo00, eo01, eo02, eo03, eo04, eo05, eo06, eo07, eo08, eo09, eo10, eo11, eo12, eo13, eo14, eo15, eo16, eo17, Nat.reduceAdd, Nat.reduceLT, if_true, Bool.false_eq_true, reduceIte, Nat.zero_add, Nat.succ_eq_add_one, Int.reduceNeg, beq_self_eq_true, hd, decide_false]
          exact ⟨trivial, by simp [hd]⟩
      · rintro H' ⟨rfl, h⟩
        have h : w.2.2 ≤ d ∧ w.2.1 = i ∧ aliveI ps w.1 d = true := by simpa using h
        have hsz : (ms'.map V.int).length < 1000000 := by rw [List.length_map]; omega
        have hFs := hFm.trans (Kept.set (.list (ms'.map V.int ++ [.int w.1])) (Nat.le_refl _) (by have := at_lt hNm; omega)) (Nat.le_refl _)
        try simp (disch := first | decide | omega) only [↓ed00, ↓ed01, ↓ed03, ↓ed04, ↓ed05, ↓ed06, ↓ed07, ↓ed08, ↓ed09, ↓ed10, ↓ed11, ↓ed12, ↓ed13, ↓ed14, ↓ed15, ↓ed16, ↓ed17, ↓ed18, ↓ed19, ↓ed20, ↓ed21, ↓ed23, ↓ed24, ↓ed25, ↓ed26, ↓ed27, ↓ed28, ↓ed29, ↓ed30, ↓ed31, ↓ed32, ↓ed33, ↓ed34, ↓ed35, ↓ed36, ↓ed37, ↓ed38, ↓ed39, ↓ed40, ↓ed41, ↓ed42, ↓ed46, ↓ed47, eu00, eu01, eu02, eu03, eu04, eu05, eu06, eu09, eu10, eu11, eu14, eu15, eu18, eu19, eu20, eu21, eu22, eu23, eu24, eu25, eu26, eu27, eu28, eu29, eu30, eu31, eu32, eu33, eu34, eu35, eu36, eu37, eu38, eu39, eu40, eu41, eu42, eu43, eu44, eu46, eu47, eu48, eu49, eu50, eu51, eo00, eo01, eo02, eo03, eo04, eo05, eo06, eo07, eo08, eo09, eo10, eo11, eo12, eo13, eo14, eo15, eo16, eo17, Nat.reduceAdd, Nat.reduceLT, if_true, Bool.false_eq_true, reduceIte, Nat.zero_add, Nat.succ_eq_add_one, Int.reduceNeg, beq_self_eq_true, meKind_app _ hNm, WMeth_app _ _ _ hNm hsz]
        refine ⟨hst hFs, _, _, _, ms' ++ [w.1], rfl, hFs, ?_, by simp <;> omega, ?_⟩
        · rw [at_set hNm]; simp
        · rw [take_next hw, List.findSome?_append, hms, hms']
          unfold spF
          by_cases h0 : w.2.2 ≤ d ∧ w.1 = i ∧ aliveI ps w.2.1 d = true
          · simp only [List.findSome?, if_pos h0]; cases ms <;> simp
          · simp only [List.findSome?, if_neg h0, if_pos h]; cases ms <;> simp
      · rintro H' ⟨rfl, h⟩
        have h : ¬ (w.2.2 ≤ d ∧ w.2.1 = i ∧ aliveI ps w.1 d = true) := of_decide_eq_false h.symm
        try simp (disch := first | decide | omega) only [↓ed00, ↓ed01, ↓ed03, ↓ed04, ↓ed05, ↓ed06, ↓ed07, ↓ed08, ↓ed09, ↓ed10, ↓ed11, ↓ed12, ↓ed13, ↓ed14, ↓ed15, ↓ed16, ↓ed17, ↓ed18, ↓ed19, ↓ed20, ↓ed21, ↓ed23, ↓ed24, ↓ed25, ↓ed26, ↓ed27, ↓ed28, ↓ed29, ↓ed30, ↓ed31, ↓ed32, ↓ed33, ↓ed34, ↓ed35, ↓ed36, ↓ed37, ↓ed38, ↓ed39, ↓ed40, ↓ed41, ↓ed42, ↓ed46, ↓ed47, eu00, eu01, eu02, eu03, eu04, eu05, eu06, eu09, eu10, eu11, eu14, eu15, eu18, eu19, eu20, eu21, eu22, eu23, eu24, eu25, eu26, eu27, eu28, eu29, eu30, eu31, eu32, eu33, eu34, eu35, eu36, eu37, eu38, eu39, eu40, eu41, eu42, eu43, eu44, eu46, eu47, eu48, eu49, eu50, eu51, eo00, eo01, eo02, eo03, eo04, eo05, eo06, eo07, eo08, eo09, eo10, eo11, eo12, eo13, eo14, eo15, eo16, eo17, Nat.reduceAdd, Nat.reduceLT, if_true, Bool.false_eq_true, reduceIte, Nat.zero_add, Nat.succ_eq_add_one, Int.reduceNeg, beq_self_eq_true]
        refine ⟨hst hFm, _, _, _, ms', rfl, hFm, hNm, by omega, ?_⟩
        rw [take_next hw, List.findSome?_append, hms, hms']
        unfold spF
        by_cases h0 : w.2.2 ≤ d ∧ w.1 = i ∧ aliveI ps w.2.1 d = true
        · simp only [List.findSome?, if_pos h0]; cases ms <;> simp
        · simp only [List.findSome?, if_neg h0, if_neg h]; cases ms <;> simp
  · rintro ρ H' ⟨oa, ob, oc, ms, rfl, hF', hN', hml, hms⟩
    rw [List.length_map] at hms hml
    rw [List.take_length] at hms
    have hsz : (ms.map V.int ++ [V.none]).length < 1000000 := by simp <;> omega
    have hs : seqAt (ms.map V.int ++ [V.none]) 0 = some (diV ms.head?) := by cases ms <;> rfl
    try simp (disch := first | decide | omega) only [↓ed00, ↓ed01, ↓ed03, ↓ed04, ↓ed05, ↓ed06, ↓ed07, ↓ed08, ↓ed09, ↓ed10, ↓ed11, ↓ed12, ↓ed13, ↓ed14, ↓ed15, ↓ed16, ↓ed17, ↓ed18, ↓ed19, ↓ed20, ↓ed21, ↓ed23, ↓ed24, ↓ed25, ↓ed26, ↓ed27, ↓ed28, ↓ed29, ↓ed30, ↓ed31, ↓ed32, ↓ed33, ↓ed34, ↓ed35, ↓ed36, ↓ed37, ↓ed38, ↓ed39, ↓ed40, ↓ed41, ↓ed42, ↓ed46, ↓ed47, eu00, eu01, eu02, eu03, eu04, eu05, eu06, eu09, eu10, eu11, eu14, eu15, eu18, eu19, eu20, eu21, eu22, eu23, eu24, eu25, eu26, eu27, eu28, eu29, eu30, eu31, eu32, eu33, eu34, eu35, eu36, eu37, eu38, eu39, eu40, eu41, eu42, eu43, eu44, eu46, eu47, eu48, eu49, eu50, eu51, eo00, eo01, eo02, eo03, eo04, eo05, eo06, eo07, eo08, eo09, eo10, eo11, eo12, eo13, eo14, eo15, eo16, eo17, Nat.reduceAdd, Nat.reduceLT, if_true, Bool.false_eq_true, reduceIte, Nat.zero_add, Nat.succ_eq_add_one, Int.reduceNeg, beq_self_eq_true, WBin_cat _ _ (at_app _ hN') (at_new _ _), WAllocL_ok _ _ _ hsz, idx_lst _ _ _ (at_new _ _), hs]
    refine ⟨by rw [spouseL, hms], ?_⟩
    have := at_lt hN'
    exact (hF'.tr (Kept.app _ _)).tr (Kept.app _ _)
end Mine.P

end
section
set_option autoImplicit false
set_option linter.unusedVariables false
set_option linter.unusedSimpArgs false
set_option maxRecDepth 100000
namespace Mine.P
open PySem
variable (scr : List Int)
noncomputable def Fits (i d : Int) (w : Will) : Prop := w.who = i ∧ w.day ≤ d
noncomputable def Best (ws : List Will) (i d : Int) (j : Nat) (w : Will) : Prop := ws[j]? = some w ∧ Fits i d w ∧ ∀ (j' : Nat) w', ws[j']? = some w' → Fits i d w' → w'.day < w.day ∨ (w'.day = w.day ∧ j' ≤ j)
noncomputable def WillRes (ws : List Will) (i d : Int) (gs : List Gift) : Prop := (∃ j w, Best ws i d j w ∧ gs = w.gifts) ∨ ((∀ (j : Nat) w, ws[j]? = some w → ¬ Fits i d w) ∧ gs = [])
theorem WillRes.uniq {ws : List Will} {i d : Int} {gs gs' : List Gift} (h : WillRes ws i d gs) (h' : WillRes ws i d gs') : gs = gs' := by
  rcases h with ⟨j, w, ⟨b1, b2, b3⟩, rfl⟩ | ⟨hn, rfl⟩
  · rcases h' with ⟨j', w', ⟨b1', b2', b3'⟩, rfl⟩ | ⟨hn', rfl⟩
    · have h1 := b3 j' w' b1' b2'
      have h2 := b3' j w b1 b2
      have : j = j' := by omega
      subst this
      rw [b1] at b1'
      have : w = w' := by simpa using b1'
      rw [this]
    · exact absurd b2 (hn' j w b1)
  · rcases h' with ⟨j', w', ⟨b1', b2', b3'⟩, rfl⟩ | ⟨hn', rfl⟩
    · exact absurd b2' (hn j' w' b1')
    · rfl
theorem take_get {α : Type} {xs : List α} {k j : Nat} {x : α} (h : (xs.take k)[j]? = some x) : xs[j]? = some x ∧ j < k := by
  have hl := (List.getElem?_eq_some_iff.mp h).1
  rw [List.length_take] at hl
  rw [List.getElem?_take_of_lt (by omega)] at h
  exact ⟨h, by omega⟩
/-- the next one of a list -/
theorem take_get_succ {α : Type} {xs : List α} {k j : Nat} {x y : α} (hx : xs[k]? = some x) (h : (xs.take (k + 1))[j]? = some y) : (xs.take k)[j]? = some y ∨ (j = k ∧ y = x) := by
  obtain ⟨h1, h2⟩ := take_get h
  rcases Nat.lt_or_ge j k with hj | hj
  · left; rw [List.getElem?_take_of_lt hj]; exact h1
  · right
    have : j = k := by omega
    subst this
    rw [hx] at h1
    exact ⟨rfl, by simpa using h1.symm⟩

theorem w_will_on (n lw : Nat) (y z : V) (i d : Int) (H : Hp) (ws : List Will) (hB : H[lw]? = some (.list (ws.map willV))) (hok : ∀ w ∈ ws, 0 ≤ w.day) :
    Wp (callF scr pgks pfns (n + 1) i_will_on [.tup [y, z, .ref lw], .int i, .int d] H) fun v H' => ∃ gs, v = .tup (gs.map giftV) ∧ WillRes ws i d gs ∧ H' = H := by
  rw [c_will_on, Wp_end]
  refine WSs.sound _ ?_
  unfold pb_will_on
  try simp (disch := first | decide | omega) only [↓ed00, ↓ed01, ↓ed03, ↓ed04, ↓ed05, ↓ed06, ↓ed07, ↓ed08, ↓ed09, ↓ed10, ↓ed11, ↓ed12, ↓ed13, ↓ed14, ↓ed15, ↓ed16, ↓ed17, ↓ed18, ↓ed19, ↓ed20, ↓ed21, ↓ed23, ↓ed24, ↓ed25, ↓ed26, ↓ed27, ↓ed28, ↓ed29, ↓ed30, ↓ed31, ↓ed32, ↓ed33, ↓ed34, ↓ed35, ↓ed36, ↓ed37, ↓ed38, ↓ed39, ↓ed40, ↓ed41, ↓ed42, ↓ed46, ↓ed47, eu00, eu01, eu02, eu03, eu04, eu05, eu06, eu09, eu10, eu11, eu14, eu15, eu18, eu19, eu20, eu21, eu22, eu23, eu24, eu25, eu26, eu27, eu28, eu29, eu30, eu31, eu32, eu33, eu34, eu35, eu36, eu37, eu38, eu39, eu40, eu41, eu42, eu43, eu44, eu46, eu47, eu48, eu49, eu50, eu51, eo00, eo01, eo02, eo03, eo04, eo05, eo06, eo07, eo08, eo09, eo10, eo11, eo12, eo13, eo14, eo15, eo16, eo17, Nat.reduceAdd, Nat.reduceLT, if_true, Bool.false_eq_true, reduceIte, Nat.zero_add, Nat.succ_eq_add_one, Int.reduceNeg, beq_self_eq_true, seqOf_lst _ _ hB]
  refine for_inv (fun k ρ H' => ∃ (a b c : Option V) (lt : Int) (gs : List Gift), ρ = [some (.tup [y, z, .ref lw]), some (.int i), some (.int d), some (.int lt), some (.tup (gs.map giftV)), a, b, c] ∧ H' = H ∧ ((∃ j w, Best (ws.take k) i d j w ∧ lt = w.day ∧ gs = w.gifts) ∨ ((∀ (j : Nat) w, (ws.take k)[j]? = some w → ¬ Fits i d w) ∧ lt = -1 ∧ gs = []))) ?_ ?_ ?_
  · exact ⟨_, _, _, -1, [], rfl, rfl, .inr ⟨by simp, rfl, rfl⟩⟩
  · rintro k v ρ Hk hv ⟨oa, ob, oc, lt, gs, rfl, rfl, hB'⟩
    obtain ⟨w, hw, rfl⟩ := get_map _ hv
    have hday := hok w (List.mem_of_getElem? hw)
    rw [willV]
    simp only [wSome_some, asg_var, asg_tup, asgs_cons, asgs_nil, Option.bind_some, List.set_cons_succ, List.set_cons_zero, List.length_cons, List.length_nil, Nat.reduceAdd, Nat.reduceLT, reduceIte, Nat.zero_add, Nat.succ_eq_add_one, List.take_succ_cons, List.take_zero, List.drop_succ_cons, List.drop_zero]
    have hst : stands (watch (.ref lw)) Hk Hk = true := by simp [stands]
    refine if_cut (fun b H' => H' = Hk ∧ b = decide (w.who = i ∧ lt ≤ w.day ∧ w.day ≤ d)) ?_ ?_ ?_
    · by_cases hi : w.who = i
      · by_cases hl : lt ≤ w.day
        · try simp (disch := first | decide | omega) only [↓ed00, ↓ed01, ↓ed03, ↓ed04, ↓ed05, ↓ed06, ↓ed07, ↓ed08, ↓ed09, ↓ed10, ↓ed11, ↓ed12, ↓ed13, ↓ed14, ↓ed15, ↓ed16, ↓ed17, ↓ed18, ↓ed19, ↓ed20, ↓ed21, ↓ed23, ↓ed24, ↓ed25, ↓ed26, ↓ed27, ↓ed28, ↓ed29, ↓ed30, ↓ed31, ↓ed32, ↓ed33, ↓ed34, ↓ed35, ↓ed36, ↓ed37, ↓ed38, ↓ed39, ↓ed40, ↓ed41, ↓ed42, ↓ed46, ↓ed47, eu00, eu01, eu02, eu03, eu04, eu05, eu06, eu09, eu10, eu11, eu14, eu15, eu18, eu19, eu20, eu21, eu22, eu23, eu24, eu25, eu26, eu27, eu28, eu29, eu30, eu31, eu32, eu33, eu34, eu35, eu36, eu37, eu38, eu39, eu40, eu41, eu42, eu43, eu44, eu46, eu47, eu48, eu49, eu50, eu51, eo00, eo01, eo02, eo03, eo04, eo05, eo06, eo07, eo08, eo09, eo10, eo11, eo12, eo13, eo14, eo15, eo16, eo17, Nat.reduceAdd, Nat.reduceLT, if_true, Bool.false_eq_true, reduceIte, Nat.zero_add, Nat.succ_eq_add_one, Int.reduceNeg, beq_self_eq_true, hi, hl, decide_true]
          exact ⟨trivial, by simp [hl]⟩
        · try simp (disch := first | decide | omega) only [↓ed00, ↓ed01, ↓ed03, ↓ed04, ↓ed05, ↓ed06, ↓ed07, ↓ed08, ↓ed09, ↓ed10, ↓ed11, ↓ed12, ↓ed13, ↓ed14, ↓ed15, ↓ed16, ↓ed17, ↓ed18, ↓ed19, ↓ed20, ↓ed21, ↓ed23, ↓ed24, ↓ed25, ↓ed26, ↓ed27, ↓ed28, ↓ed29, ↓ed30, ↓ed31, ↓ed32, ↓ed33, ↓ed34, ↓ed35, ↓ed36, ↓ed37, ↓ed38, ↓ed39, ↓ed40, ↓ed41, ↓ed42, ↓ed46, ↓ed47, eu00, eu01, eu02, eu03, eu04, eu05, eu06, eu09, eu10, eu11, eu14, eu15, eu18, eu19, eu20, eu21, eu22, eu23, eu24, eu25, eu26, eu27, eu28, eu29, eu30, eu31, eu32, eu33, eu34, eu35, eu36, eu37, eu38, eu39, eu40, eu41, eu42, eu43, eu44, eu46, eu47, eu48, eu49, eu50, eu51, eo00, eo01, eo02, eo03, eo04, eo05, eo06, eo07, eo08, eo09, eo10, eo11, eo12, eo13, eo14, eo15, eo16, eo17, Nat.reduceAdd, Nat.reduceLT, if_true, Bool.false_eq_true, reduceIte, Nat.zero_add, Nat.succ_eq_add_one, Int.reduceNeg, beq_self_eq_true, hi, hl, decide_false]
          exact ⟨trivial, by simp [hl]⟩
      · have hi' : (w.who == i) = false := by simpa using hi
        try simp (disch := first | decide | omega) only [↓ed00, ↓ed01, ↓ed03, ↓ed04, ↓ed05, ↓ed06, ↓ed07, ↓ed08, ↓ed09, ↓ed10, ↓ed11, ↓ed12, ↓ed13, ↓ed14, ↓ed15, ↓ed16, ↓ed17, ↓ed18, ↓ed19, ↓ed20, ↓ed21, ↓ed23, ↓ed24, ↓ed25, ↓ed26, ↓ed27, ↓ed28, ↓ed29, ↓ed30, ↓ed31, ↓ed32, ↓ed33, ↓ed34, ↓ed35, ↓ed36, ↓ed37, ↓ed38, ↓ed39, ↓ed40, ↓ed41, ↓ed42, ↓ed46, ↓ed47, eu00, eu01, eu02, eu03, eu04, eu05, eu06, eu09, eu10, eu11, eu14, eu15, eu18, eu19, eu20, eu21, eu22, eu23, eu24, eu25, eu26, eu27, eu28, eu29, eu30, eu31, eu32, eu33, eu34, eu35, eu36, eu37, eu38, eu39, eu40, eu41, eu42, eu43, eu44, eu46, eu47, eu48, eu49, eu50, eu51, eo00, eo01, eo02, eo03, eo04, eo05, eo06, eo07, eo08, eo09, eo10, eo11, eo12, eo13, eo14, eo15, eo16, eo17, Nat.reduceAdd, Nat.reduceLT, if_true, Bool.false_eq_true, reduceIte, Nat.zero_add, Nat.succ_eq_add_one, Int.reduceNeg, beq_self_eq_true, hi']
        exact ⟨trivial, by simp [hi]⟩
    · rintro H' ⟨rfl, h⟩
      obtain ⟨h1, h2, h3⟩ : w.who = i ∧ lt ≤ w.day ∧ w.day ≤ d := by simpa using h
      try simp (disch := first | decide | omega) only [↓ed00, ↓ed01, ↓ed03, ↓ed04, ↓ed05, ↓ed06, ↓ed07, ↓ed08, ↓ed09, ↓ed10, ↓ed11, ↓ed12, ↓ed13, ↓ed14, ↓ed15, ↓ed16, ↓ed17, ↓ed18, ↓ed19, ↓ed20, ↓ed21, ↓ed23, ↓ed24, ↓ed25, ↓ed26, ↓ed27, ↓ed28, ↓ed29, ↓ed30, ↓ed31, ↓ed32, ↓ed33, ↓ed34, ↓ed35, ↓ed36, ↓ed37, ↓ed38, ↓ed39, ↓ed40, ↓ed41, ↓ed42, ↓ed46, ↓ed47, eu00, eu01, eu02, eu03, eu04, eu05, eu06, eu09, eu10, eu11, eu14, eu15, eu18, eu19, eu20, eu21, eu22, eu23, eu24, eu25, eu26, eu27, eu28, eu29, eu30, eu31, eu32, eu33, eu34, eu35, eu36, eu37, eu38, eu39, eu40, eu41, eu42, eu43, eu44, eu46, eu47, eu48, eu49, eu50, eu51, eo00, eo01, eo02, eo03, eo04, eo05, eo06, eo07, eo08, eo09, eo10, eo11, eo12, eo13, eo14, eo15, eo16, eo17, Nat.reduceAdd, Nat.reduceLT, if_true, Bool.false_eq_true, reduceIte, Nat.zero_add, Nat.succ_eq_add_one, Int.reduceNeg, beq_self_eq_true]
      refine ⟨hst, _, _, _, w.day, w.gifts, rfl, trivial, .inl ⟨k, w, ⟨?_, ⟨h1, h3⟩, ?_⟩, rfl, rfl⟩⟩
      · rw [List.getElem?_take_of_lt (by omega)]; exact hw
      · intro j' w' hj' hf
        rcases take_get_succ hw hj' with hq | ⟨rfl, rfl⟩
        · have hj := (take_get hq).2
          rcases hB' with ⟨j, u, ⟨b1, b2, b3⟩, rfl, rfl⟩ | ⟨hn, rfl, rfl⟩
          · have := b3 j' w' hq hf
            omega
          · exact absurd hf (hn j' w' hq)
        · exact .inr ⟨rfl, Nat.le_refl _⟩
    · rintro H' ⟨rfl, h⟩
      have hn : ¬ (w.who = i ∧ lt ≤ w.day ∧ w.day ≤ d) := of_decide_eq_false h.symm
      try simp (disch := first | decide | omega) only [↓ed00, ↓ed01, ↓ed03, ↓ed04, ↓ed05, ↓ed06, ↓ed07, ↓ed08, ↓ed09, ↓ed10, ↓ed11, ↓ed12, ↓ed13, ↓ed14, ↓ed15, ↓ed16, ↓ed17, ↓ed18, ↓ed19, ↓ed20, ↓ed21, ↓ed23, ↓ed24, ↓ed25, ↓ed26, ↓ed27, ↓ed28, ↓ed29, ↓ed30, ↓ed31, ↓ed32, ↓ed33, ↓ed34, ↓ed35, ↓ed36, ↓ed37, ↓ed38, ↓ed39, ↓ed40, ↓ed41, ↓ed42, ↓ed46, ↓ed47, eu00, eu01, eu02, eu03, eu04, eu05, eu06, eu09, eu10, eu11, eu14, eu15, eu18, eu19, eu20, eu21, eu22, eu23, eu24, eu25, eu26, eu27, eu28, eu29, eu30, eu31, eu32, eu33, eu34, eu35, eu36, eu37, eu38, eu39, eu40, eu41, eu42, eu43, eu44, eu46, eu47, eu48, eu49, eu50, eu51, eo00, eo01, eo02, eo03, eo04, eo05, eo06, eo07, eo08, eo09, eo10, eo11, eo12, eo13, eo14, eo15, eo16, eo17, Nat.reduceAdd, Nat.reduceLT, if_true, Bool.false_eq_true, reduceIte, Nat.zero_add, Nat.succ_eq_add_one, Int.reduceNeg, beq_self_eq_true]
      refine ⟨hst, _, _, _, lt, gs, rfl, trivial, ?_⟩
      rcases hB' with ⟨j, u, ⟨b1, b2, b3⟩, rfl, rfl⟩ | ⟨hn', rfl, rfl⟩
      · refine .inl ⟨j, u, ⟨?_, b2, ?_⟩, rfl, rfl⟩
        · obtain ⟨c1, c2⟩ := take_get b1
          rw [List.getElem?_take_of_lt (by omega)]; exact c1
        · intro j' w' hj' hf
          rcases take_get_succ hw hj' with h | ⟨rfl, rfl⟩
          · exact b3 j' w' h hf
          · left
            obtain ⟨f1, f2⟩ := hf
            rcases Int.lt_or_le w'.day u.day with h | h
            · exact h
            · exact absurd ⟨f1, h, f2⟩ hn
      · refine .inr ⟨?_, rfl, rfl⟩
        intro j' w' hj' hf
        rcases take_get_succ hw hj' with h | ⟨rfl, rfl⟩
        · exact hn' j' w' h hf
        · exact hn ⟨hf.1, by omega, hf.2⟩
  · rintro ρ H' ⟨oa, ob, oc, lt, gs, rfl, rfl, hB'⟩
    rw [List.length_map, List.take_length] at hB'
    try simp (disch := first | decide | omega) only [↓ed00, ↓ed01, ↓ed03, ↓ed04, ↓ed05, ↓ed06, ↓ed07, ↓ed08, ↓ed09, ↓ed10, ↓ed11, ↓ed12, ↓ed13, ↓ed14, ↓ed15, ↓ed16, ↓ed17, ↓ed18, ↓ed19, ↓ed20, ↓ed21, ↓ed23, ↓ed24, ↓ed25, ↓ed26, ↓ed27, ↓ed28, ↓ed29, ↓ed30, ↓ed31, ↓ed32, ↓ed33, ↓ed34, ↓ed35, ↓ed36, ↓ed37, ↓ed38, ↓ed39, ↓ed40, ↓ed41, ↓ed42, ↓ed46, ↓ed47, eu00, eu01, eu02, eu03, eu04, eu05, eu06, eu09, eu10, eu11, eu14, eu15, eu18, eu19, eu20, eu21, eu22, eu23, eu24, eu25, eu26, eu27, eu28, eu29, eu30, eu31, eu32, eu33, eu34, eu35, eu36, eu37, eu38, eu39, eu40, eu41, eu42, eu43, eu44, eu46, eu47, eu48, eu49, eu50, eu51, eo00, eo01, eo02, eo03, eo04, eo05, eo06, eo07, eo08, eo09, eo10, eo11, eo12, eo13, eo14, eo15, eo16, eo17, Nat.reduceAdd, Nat.reduceLT, if_true, Bool.false_eq_true, reduceIte, Nat.zero_add, Nat.succ_eq_add_one, Int.reduceNeg, beq_self_eq_true]
    refine ⟨gs, by simp, ?_, by simp⟩
    rcases hB' with ⟨j, u, b, rfl, rfl⟩ | ⟨hn', rfl, rfl⟩
    · exact .inl ⟨j, u, b, rfl⟩
    · exact .inr ⟨hn', rfl⟩

noncomputable def lexLe (x y : Int × Int) : Prop := x.1 < y.1 ∨ (x.1 = y.1 ∧ x.2 ≤ y.2)
theorem gtP_le (x y : Int × Int) : (gtP x y = true → lexLe y x) ∧ (gtP x y = false → lexLe x y) := by
  unfold gtP lexLe
  by_cases h : x.1 = y.1
  · rw [if_pos h]
    simp only [decide_eq_true_eq, decide_eq_false_iff_not]
    omega
  · rw [if_neg h]
    simp only [decide_eq_true_eq, decide_eq_false_iff_not]
    omega
theorem best_max : ∀ (r : List (Int × Int)) (m : Int × Int), bestOf m r ∈ m :: r ∧ ∀ y ∈ m :: r, lexLe y (bestOf m r)
  | [], m => ⟨List.mem_singleton.mpr rfl, fun y hy => by rw [List.mem_singleton.mp hy]; exact .inr ⟨rfl, Int.le_refl _⟩⟩
  | a :: r, m => by
    have e : bestOf m (a :: r) = bestOf (if gtP a m then a else m) r := rfl
    obtain ⟨h1, h2⟩ := gtP_le a m
    obtain ⟨hm, hl⟩ := best_max r (if gtP a m then a else m)
    rw [e]
    cases hg : gtP a m with
    | true =>
      rw [hg] at hm hl
      simp only [if_true] at hm hl ⊢
      refine ⟨List.mem_cons_of_mem _ hm, fun y hy => ?_⟩
      rcases List.mem_cons.mp hy with rfl | hy
      · have ha := hl a (List.mem_cons_self ..)
        have := h1 hg
        unfold lexLe at *
        omega
      · exact hl y hy
    | false =>
      rw [hg] at hm hl
      simp only [Bool.false_eq_true, if_false] at hm hl ⊢
      refine ⟨?_, fun y hy => ?_⟩
      · rcases List.mem_cons.mp hm with h | h
        · rw [h]; exact List.mem_cons_self ..
        · exact List.mem_cons_of_mem _ (List.mem_cons_of_mem _ h)
      · rcases List.mem_cons.mp hy with rfl | hy
        · exact hl y (List.mem_cons_self ..)
        · rcases List.mem_cons.mp hy with rfl | hy
          · have ha := hl m (List.mem_cons_self ..)
            have := h2 hg
            unfold lexLe at *
            omega
          · exact hl y (List.mem_cons_of_mem _ hy)
theorem pairs_map : ∀ ps : List (Int × Int), pairsOf (ps.map pairV) = some ps
  | [] => rfl
  | p :: r => by
    show ((pairsOf (r.map pairV)).map (p :: ·)) = _
    rw [pairs_map r]; rfl

theorem enum_map {α : Type} (f : α → V) : ∀ (ws : List α) (j : Nat), enumV j (ws.map f) = (ws.zipIdx j).map fun x => .tup [.int (x.2 : Int), f x.1]
  | [], j => rfl
  | a :: r, j => by rw [List.map_cons, enumV, List.zipIdx_cons, List.map_cons, enum_map f r]
noncomputable def env4 (v : V) : Env' := match v with | .tup [k, .tup [a, b, c]] => [some k, some a, some b, some c] | _ => []
theorem env4_ok {ρ pre : Env'} {k a b c : V} (hp : pre.length = 4) : (env4 (.tup [k, .tup [a, b, c]])).length = pre.length ∧ ∀ p : Env', p.length = pre.length → asg (.tup [.var 0, .tup [.var 1, .var 2, .var 3]]) (.tup [k, .tup [a, b, c]]) (p ++ ρ) = some (env4 (.tup [k, .tup [a, b, c]]) ++ ρ) := by
  refine ⟨by simp [hp, env4], ?_⟩
  intro p hpl
  rw [hp] at hpl
  match p, hpl with
  | [x, y, z, u], _ => simp [asg, asgs, env4]

theorem w_lwill (n lw : Nat) (y z : V) (i d : Int) (H : Hp) (ws : List Will) (hB : H[lw]? = some (.list (ws.map willV))) (hsz : ws.length ≤ 1000) :
    Wp (callF scr pgks pfns (n + 1) i_law_will [.tup [y, z, .ref lw], .int i, .int d] H) fun v H' => ∃ gs, v = .tup (gs.map giftV) ∧ WillRes ws i d gs ∧ Kept H.length H H' := by
  rw [c_law_will, Wp_end]
  refine WSs.sound _ ?_
  unfold pb_law_will
  refine cut 1 (fun ρ' H' => ∃ fs : List (Int × Int), ρ' = [some (.tup [y, z, .ref lw]), some (.int i), some (.int d), some (.ref H.length)] ∧ H' = H ++ [.list (fs.map pairV)] ∧ (∀ x ∈ fs, ∃ (j : Nat) (w : Will), ws[j]? = some w ∧ Fits i d w ∧ x = (w.day, (j : Int))) ∧ ∀ (j : Nat) (w : Will), ws[j]? = some w → Fits i d w → (w.day, (j : Int)) ∈ fs) ?_ ?_
  · try simp (disch := first | decide | omega) only [↓ed00, ↓ed01, ↓ed03, ↓ed04, ↓ed05, ↓ed06, ↓ed07, ↓ed08, ↓ed09, ↓ed10, ↓ed11, ↓ed12, ↓ed13, ↓ed14, ↓ed15, ↓ed16, ↓ed17, ↓ed18, ↓ed19, ↓ed20, ↓ed21, ↓ed23, ↓ed24, ↓ed25, ↓ed26, ↓ed27, ↓ed28, ↓ed29, ↓ed30, ↓ed31, ↓ed32, ↓ed33, ↓ed34, ↓ed35, ↓ed36, ↓ed37, ↓ed38, ↓ed39, ↓ed40, ↓ed41, ↓ed42, ↓ed46, ↓ed47, eu00, eu01, eu02, eu03, eu04, eu05, eu06, eu09, eu10, eu11, eu14, eu15, eu18, eu19, eu20, eu21, eu22, eu23, eu24, eu25, eu26, eu27, eu28, eu29, eu30, eu31, eu32, eu33, eu34, eu35, eu36, eu37, eu38, eu39, eu40, eu41, eu42, eu43, eu44, eu46, eu47, eu48, eu49, eu50, eu51, eo00, eo01, eo02, eo03, eo04, eo05, eo06, eo07, eo08, eo09, eo10, eo11, eo12, eo13, eo14, eo15, eo16, eo17, Nat.reduceAdd, Nat.reduceLT, if_true, Bool.false_eq_true, reduceIte, Nat.zero_add, Nat.succ_eq_add_one, Int.reduceNeg, beq_self_eq_true, lstOf_lst _ _ hB, enum_map]
    refine comp_gen (pre := [none, none, none, none]) (fun x : Will × Nat => .tup [.int (x.2 : Int), willV x.1]) env4 (fun x => decide (x.1.who = i ∧ x.1.day ≤ d)) (fun x => pairV (x.1.day, (x.2 : Int))) (by simp <;> omega) ?_ ?_ ?_ ?_
    · intro x _
      exact env4_ok rfl
    · rintro ⟨w, k⟩ hx Q hQ
      simp only [willV, env4]
      simp only at hQ
      by_cases hi : w.who = i
      · by_cases hd : w.day ≤ d
        · try simp (disch := first | decide | omega) only [↓ed00, ↓ed01, ↓ed03, ↓ed04, ↓ed05, ↓ed06, ↓ed07, ↓ed08, ↓ed09, ↓ed10, ↓ed11, ↓ed12, ↓ed13, ↓ed14, ↓ed15, ↓ed16, ↓ed17, ↓ed18, ↓ed19, ↓ed20, ↓ed21, ↓ed23, ↓ed24, ↓ed25, ↓ed26, ↓ed27, ↓ed28, ↓ed29, ↓ed30, ↓ed31, ↓ed32, ↓ed33, ↓ed34, ↓ed35, ↓ed36, ↓ed37, ↓ed38, ↓ed39, ↓ed40, ↓ed41, ↓ed42, ↓ed46, ↓ed47, eu00, eu01, eu02, eu03, eu04, eu05, eu06, eu09, eu10, eu11, eu14, eu15, eu18, eu19, eu20, eu21, eu22, eu23, eu24, eu25, eu26, eu27, eu28, eu29, eu30, eu31, eu32, eu33, eu34, eu35, eu36, eu37, eu38, eu39, eu40, eu41, eu42, eu43, eu44, eu46, eu47, eu48, eu49, eu50, eu51, eo00, eo01, eo02, eo03, eo04, eo05, eo06, eo07, eo08, eo09, eo10, eo11, eo12, eo13, eo14, eo15, eo16, eo17, Nat.reduceAdd, Nat.reduceLT, if_true, Bool.false_eq_true, reduceIte, Nat.zero_add, Nat.succ_eq_add_one, Int.reduceNeg, beq_self_eq_true, hi, hd, decide_true]
          simpa [hi, hd] using hQ
        · try simp (disch := first | decide | omega) only [↓ed00, ↓ed01, ↓ed03, ↓ed04, ↓ed05, ↓ed06, ↓ed07, ↓ed08, ↓ed09, ↓ed10, ↓ed11, ↓ed12, ↓ed13, ↓ed14, ↓ed15, ↓ed16, ↓ed17, ↓ed18, ↓ed19, ↓ed20, ↓ed21, ↓ed23, ↓ed24, ↓ed25, ↓ed26, ↓ed27, ↓ed28, ↓ed29, ↓ed30, ↓ed31, ↓ed32, ↓ed33, ↓ed34, ↓ed35, ↓ed36, ↓ed37, ↓ed38, ↓ed39, ↓ed40, ↓ed41, ↓ed42, ↓ed46, ↓ed47, eu00, eu01, eu02, eu03, eu04, eu05, eu06, eu09, eu10, eu11, eu14, eu15, eu18, eu19, eu20, eu21, eu22, eu23, eu24, eu25, eu26, eu27, eu28, eu29, eu30, eu31, eu32, eu33, eu34, eu35, eu36, eu37, eu38, eu39, eu40, eu41, eu42, eu43, eu44, eu46, eu47, eu48, eu49, eu50, eu51, eo00, eo01, eo02, eo03, eo04, eo05, eo06, eo07, eo08, eo09, eo10, eo11, eo12, eo13, eo14, eo15, eo16, eo17, Nat.reduceAdd, Nat.reduceLT, if_true, Bool.false_eq_true, reduceIte, Nat.zero_add, Nat.succ_eq_add_one, Int.reduceNeg, beq_self_eq_true, hi, hd, decide_false]
          simpa [hi, hd] using hQ
      · have hi' : (w.who == i) = false := by simpa using hi
        try simp (disch := first | decide | omega) only [↓ed00, ↓ed01, ↓ed03, ↓ed04, ↓ed05, ↓ed06, ↓ed07, ↓ed08, ↓ed09, ↓ed10, ↓ed11, ↓ed12, ↓ed13, ↓ed14, ↓ed15, ↓ed16, ↓ed17, ↓ed18, ↓ed19, ↓ed20, ↓ed21, ↓ed23, ↓ed24, ↓ed25, ↓ed26, ↓ed27, ↓ed28, ↓ed29, ↓ed30, ↓ed31, ↓ed32, ↓ed33, ↓ed34, ↓ed35, ↓ed36, ↓ed37, ↓ed38, ↓ed39, ↓ed40, ↓ed41, ↓ed42, ↓ed46, ↓ed47, eu00, eu01, eu02, eu03, eu04, eu05, eu06, eu09, eu10, eu11, eu14, eu15, eu18, eu19, eu20, eu21, eu22, eu23, eu24, eu25, eu26, eu27, eu28, eu29, eu30, eu31, eu32, eu33, eu34, eu35, eu36, eu37, eu38, eu39, eu40, eu41, eu42, eu43, eu44, eu46, eu47, eu48, eu49, eu50, eu51, eo00, eo01, eo02, eo03, eo04, eo05, eo06, eo07, eo08, eo09, eo10, eo11, eo12, eo13, eo14, eo15, eo16, eo17, Nat.reduceAdd, Nat.reduceLT, if_true, Bool.false_eq_true, reduceIte, Nat.zero_add, Nat.succ_eq_add_one, Int.reduceNeg, beq_self_eq_true, hi']
        simpa [hi] using hQ
    · rintro ⟨w, k⟩ hx _ Q hQ
      simp only [willV, env4]
      try simp (disch := first | decide | omega) only [↓ed00, ↓ed01, ↓ed03, ↓ed04, ↓ed05, ↓ed06, ↓ed07, ↓ed08, ↓ed09, ↓ed10, ↓ed11, ↓ed12, ↓ed13, ↓ed14, ↓ed15, ↓ed16, ↓ed17, ↓ed18, ↓ed19, ↓ed20, ↓ed21, ↓ed23, ↓ed24, ↓ed25, ↓ed26, ↓ed27, ↓ed28, ↓ed29, ↓ed30, ↓ed31, ↓ed32, ↓ed33, ↓ed34, ↓ed35, ↓ed36, ↓ed37, ↓ed38, ↓ed39, ↓ed40, ↓ed41, ↓ed42, ↓ed46, ↓ed47, eu00, eu01, eu02, eu03, eu04, eu05, eu06, eu09, eu10, eu11, eu14, eu15, eu18, eu19, eu20, eu21, eu22, eu23, eu24, eu25, eu26, eu27, eu28, eu29, eu30, eu31, eu32, eu33, eu34, eu35, eu36, eu37, eu38, eu39, eu40, eu41, eu42, eu43, eu44, eu46, eu47, eu48, eu49, eu50, eu51, eo00, eo01, eo02, eo03, eo04, eo05, eo06, eo07, eo08, eo09, eo10, eo11, eo12, eo13, eo14, eo15, eo16, eo17, Nat.reduceAdd, Nat.reduceLT, if_true, Bool.false_eq_true, reduceIte, Nat.zero_add, Nat.succ_eq_add_one, Int.reduceNeg, beq_self_eq_true]
      exact hQ
    · try simp (disch := first | decide | omega) only [↓ed00, ↓ed01, ↓ed03, ↓ed04, ↓ed05, ↓ed06, ↓ed07, ↓ed08, ↓ed09, ↓ed10, ↓ed11, ↓ed12, ↓ed13, ↓ed14, ↓ed15, ↓ed16, ↓ed17, ↓ed18, ↓ed19, ↓ed20, ↓ed21, ↓ed23, ↓ed24, ↓ed25, ↓ed26, ↓ed27, ↓ed28, ↓ed29, ↓ed30, ↓ed31, ↓ed32, ↓ed33, ↓ed34, ↓ed35, ↓ed36, ↓ed37, ↓ed38, ↓ed39, ↓ed40, ↓ed41, ↓ed42, ↓ed46, ↓ed47, eu00, eu01, eu02, eu03, eu04, eu05, eu06, eu09, eu10, eu11, eu14, eu15, eu18, eu19, eu20, eu21, eu22, eu23, eu24, eu25, eu26, eu27, eu28, eu29, eu30, eu31, eu32, eu33, eu34, eu35, eu36, eu37, eu38, eu39, eu40, eu41, eu42, eu43, eu44, eu46, eu47, eu48, eu49, eu50, eu51, eo00, eo01, eo02, eo03, eo04, eo05, eo06, eo07, eo08, eo09, eo10, eo11, eo12, eo13, eo14, eo15, eo16, eo17, Nat.reduceAdd, Nat.reduceLT, if_true, Bool.false_eq_true, reduceIte, Nat.zero_add, Nat.succ_eq_add_one, Int.reduceNeg, beq_self_eq_true]
      refine ⟨((ws.zipIdx 0).filter fun x => decide (x.1.who = i ∧ x.1.day ≤ d)).map fun x => (x.1.day, (x.2 : Int)), trivial, by rw [List.map_map]; rfl, ?_, ?_⟩
      · intro x hx
        obtain ⟨⟨w, k⟩, hw, rfl⟩ := List.mem_map.mp hx
        obtain ⟨h1, h2⟩ := List.mem_filter.mp hw
        have h1 := List.mem_zipIdx_iff_getElem?.mp h1
        exact ⟨k, w, h1, by simpa [Fits] using h2, rfl⟩
      · intro j w hj hf
        refine List.mem_map.mpr ⟨(w, j), List.mem_filter.mpr ⟨List.mem_zipIdx_iff_getElem?.mpr hj, by simpa [Fits] using hf⟩, rfl⟩
  · rintro ρ' H' ⟨fs, rfl, rfl, hf1, hf2⟩
    simp only [List.drop_succ_cons, List.drop_zero]
    have hN := at_new H (.list (fs.map pairV))
    have hpl : ∀ v, v ∈ fs.map pairV → plain 8 v = true := map_plain _ (fun _ => rfl) _
    refine if_cut (fun b H'' => H'' = H ++ [.list (fs.map pairV)] ++ [.list []] ∧ b = fs.isEmpty) ?_ ?_ ?_
    · try simp (disch := first | decide | omega) only [↓ed00, ↓ed01, ↓ed03, ↓ed04, ↓ed05, ↓ed06, ↓ed07, ↓ed08, ↓ed09, ↓ed10, ↓ed11, ↓ed12, ↓ed13, ↓ed14, ↓ed15, ↓ed16, ↓ed17, ↓ed18, ↓ed19, ↓ed20, ↓ed21, ↓ed23, ↓ed24, ↓ed25, ↓ed26, ↓ed27, ↓ed28, ↓ed29, ↓ed30, ↓ed31, ↓ed32, ↓ed33, ↓ed34, ↓ed35, ↓ed36, ↓ed37, ↓ed38, ↓ed39, ↓ed40, ↓ed41, ↓ed42, ↓ed46, ↓ed47, eu00, eu01, eu02, eu03, eu04, eu05, eu06, eu09, eu10, eu11, eu14, eu15, eu18, eu19, eu20, eu21, eu22, eu23, eu24, eu25, eu26, eu27, eu28, eu29, eu30, eu31, eu32, eu33, eu34, eu35, eu36, eu37, eu38, eu39, eu40, eu41, eu42, eu43, eu44, eu46, eu47, eu48, eu49, eu50, eu51, eo00, eo01, eo02, eo03, eo04, eo05, eo06, eo07, eo08, eo09, eo10, eo11, eo12, eo13, eo14, eo15, eo16, eo17, Nat.reduceAdd, Nat.reduceLT, if_true, Bool.false_eq_true, reduceIte, Nat.zero_add, Nat.succ_eq_add_one, Int.reduceNeg, beq_self_eq_true, cmp_eq_empty hN hpl]
      exact ⟨trivial, by simp⟩
    · rintro H'' ⟨rfl, h⟩
      have h : fs = [] := by simpa using h.symm
      try simp (disch := first | decide | omega) only [↓ed00, ↓ed01, ↓ed03, ↓ed04, ↓ed05, ↓ed06, ↓ed07, ↓ed08, ↓ed09, ↓ed10, ↓ed11, ↓ed12, ↓ed13, ↓ed14, ↓ed15, ↓ed16, ↓ed17, ↓ed18, ↓ed19, ↓ed20, ↓ed21, ↓ed23, ↓ed24, ↓ed25, ↓ed26, ↓ed27, ↓ed28, ↓ed29, ↓ed30, ↓ed31, ↓ed32, ↓ed33, ↓ed34, ↓ed35, ↓ed36, ↓ed37, ↓ed38, ↓ed39, ↓ed40, ↓ed41, ↓ed42, ↓ed46, ↓ed47, eu00, eu01, eu02, eu03, eu04, eu05, eu06, eu09, eu10, eu11, eu14, eu15, eu18, eu19, eu20, eu21, eu22, eu23, eu24, eu25, eu26, eu27, eu28, eu29, eu30, eu31, eu32, eu33, eu34, eu35, eu36, eu37, eu38, eu39, eu40, eu41, eu42, eu43, eu44, eu46, eu47, eu48, eu49, eu50, eu51, eo00, eo01, eo02, eo03, eo04, eo05, eo06, eo07, eo08, eo09, eo10, eo11, eo12, eo13, eo14, eo15, eo16, eo17, Nat.reduceAdd, Nat.reduceLT, if_true, Bool.false_eq_true, reduceIte, Nat.zero_add, Nat.succ_eq_add_one, Int.reduceNeg, beq_self_eq_true]
      refine ⟨[], rfl, .inr ⟨?_, rfl⟩, (Kept.app _ _).tr (Kept.app _ _)⟩
      intro j w hj hf
      have := hf2 j w hj hf
      rw [h] at this
      simp at this
    · rintro H'' ⟨rfl, h⟩
      cases fs with
      | nil => simp at h
      | cons m r =>
        obtain ⟨hm, hl⟩ := best_max r m
        obtain ⟨j, w, hj, hf, hx⟩ := hf1 _ hm
        rw [hx] at hl
        have hN2 := at_app [.list []] hN
        have hB2 := at_app [.list []] (at_app [.list ((m :: r).map pairV)] hB)
        have hmax : ∀ Q, WBi scr .maxL [.ref H.length] (H ++ [.list ((m :: r).map pairV)] ++ [.list []]) Q = Q (pairV (w.day, (j : Int))) (H ++ [.list ((m :: r).map pairV)] ++ [.list []]) := by
          intro Q
          show Wp (onL _ (.ref H.length) fun l => onO ((pairsOf l).bind maxOf) fun m => .ok (pairV m) _) Q = _
          rw [onL_at hN2, pairs_map]
          show Q (pairV (bestOf m r)) _ = _
          rw [hx]
        have hs : seqAt (ws.map willV) (j : Int) = some (willV w) := by
          unfold seqAt; rw [if_pos (by omega), List.getElem?_map]
          simp [hj]
        try simp (disch := first | decide | omega) only [↓ed00, ↓ed01, ↓ed03, ↓ed04, ↓ed05, ↓ed06, ↓ed07, ↓ed08, ↓ed09, ↓ed10, ↓ed11, ↓ed12, ↓ed13, ↓ed14, ↓ed15, ↓ed16, ↓ed17, ↓ed18, ↓ed19, ↓ed20, ↓ed21, ↓ed23, ↓ed24, ↓ed25, ↓ed26, ↓ed27, ↓ed28, ↓ed29, ↓ed30, ↓ed31, ↓ed32, ↓ed33, ↓ed34, ↓ed35, ↓ed36, ↓ed37, ↓ed38, ↓ed39, ↓ed40, ↓ed41, ↓ed42, ↓ed46, ↓ed47, eu00, eu01, eu02, eu03, eu04, eu05, eu06, eu09, eu10, eu11, eu14, eu15, eu18, eu19, eu20, eu21, eu22, eu23, eu24, eu25, eu26, eu27, eu28, eu29, eu30, eu31, eu32, eu33, eu34, eu35, eu36, eu37, eu38, eu39, eu40, eu41, eu42, eu43, eu44, eu46, eu47, eu48, eu49, eu50, eu51, eo00, eo01, eo02, eo03, eo04, eo05, eo06, eo07, eo08, eo09, eo10, eo11, eo12, eo13, eo14, eo15, eo16, eo17, Nat.reduceAdd, Nat.reduceLT, if_true, Bool.false_eq_true, reduceIte, Nat.zero_add, Nat.succ_eq_add_one, Int.reduceNeg, beq_self_eq_true, hmax, pairV, idx_lst _ _ _ hB2, hs, willV]
        refine ⟨w.gifts, by simp, .inl ⟨j, w, ⟨hj, hf, ?_⟩, rfl⟩, (Kept.app _ _).tr (Kept.app _ _)⟩
        intro j' w' hj' hf'
        have := hl _ (hf2 j' w' hj' hf')
        unfold lexLe at this
        simp only at this
        omega

theorem w_days (n lp lw lt : Nat) (i c : Int) (H : Hp) (ps : List Per) (ws : List Wed) (ts : List Will) (hA : H[lp]? = some (.list (ps.map perV))) (hB : H[lw]? = some (.list (ws.map wedV))) (hC : H[lt]? = some (.list (ts.map willV)))
    (h0 : 0 ≤ i) (h1 : i < ps.length) (s1 : ps.length ≤ 1000) (s2 : ws.length ≤ 1000) (s3 : ts.length ≤ 1000) :
    Wp (callF scr pgks pfns (n + 1) i_law_days [.tup [.ref lp, .ref lw, .ref lt], .int i, .int c] H) fun v H' => ∃ e : Int, v = .int e ∧ Kept H.length H H' := by
  rw [c_law_days, Wp_end]
  refine WSs.sound _ ?_
  unfold pb_law_days
  obtain ⟨p, hp, hp'⟩ := per_at (ps := ps) h0 h1
  refine cut 2 (fun ρ' H' => ∃ (l : Nat) (ds : List Int), ρ' = [some (.tup [.ref lp, .ref lw, .ref lt]), some (.int i), some (.int c), some (.ref l)] ∧ Kept H.length H H' ∧ H'[l]? = some (.list (ds.map .int)) ∧ ds ≠ []) ?_ ?_
  · have hB1 := at_app [.list [V.int p.born]] hB
    try simp (disch := first | decide | omega) only [↓ed00, ↓ed01, ↓ed03, ↓ed04, ↓ed05, ↓ed06, ↓ed07, ↓ed08, ↓ed09, ↓ed10, ↓ed11, ↓ed12, ↓ed13, ↓ed14, ↓ed15, ↓ed16, ↓ed17, ↓ed18, ↓ed19, ↓ed20, ↓ed21, ↓ed23, ↓ed24, ↓ed25, ↓ed26, ↓ed27, ↓ed28, ↓ed29, ↓ed30, ↓ed31, ↓ed32, ↓ed33, ↓ed34, ↓ed35, ↓ed36, ↓ed37, ↓ed38, ↓ed39, ↓ed40, ↓ed41, ↓ed42, ↓ed46, ↓ed47, eu00, eu01, eu02, eu03, eu04, eu05, eu06, eu09, eu10, eu11, eu14, eu15, eu18, eu19, eu20, eu21, eu22, eu23, eu24, eu25, eu26, eu27, eu28, eu29, eu30, eu31, eu32, eu33, eu34, eu35, eu36, eu37, eu38, eu39, eu40, eu41, eu42, eu43, eu44, eu46, eu47, eu48, eu49, eu50, eu51, eo00, eo01, eo02, eo03, eo04, eo05, eo06, eo07, eo08, eo09, eo10, eo11, eo12, eo13, eo14, eo15, eo16, eo17, Nat.reduceAdd, Nat.reduceLT, if_true, Bool.false_eq_true, reduceIte, Nat.zero_add, Nat.succ_eq_add_one, Int.reduceNeg, beq_self_eq_true, idx_lst _ _ _ hA, hp, perV, seqOf_lst _ _ hB1]
    refine comp_fm wedV (fun _ => true) (fun w => .int w.2.2) (by omega) ?_ ?_ ?_
    · intro w _ Q hQ
      try simp (disch := first | decide | omega) only [↓ed00, ↓ed01, ↓ed03, ↓ed04, ↓ed05, ↓ed06, ↓ed07, ↓ed08, ↓ed09, ↓ed10, ↓ed11, ↓ed12, ↓ed13, ↓ed14, ↓ed15, ↓ed16, ↓ed17, ↓ed18, ↓ed19, ↓ed20, ↓ed21, ↓ed23, ↓ed24, ↓ed25, ↓ed26, ↓ed27, ↓ed28, ↓ed29, ↓ed30, ↓ed31, ↓ed32, ↓ed33, ↓ed34, ↓ed35, ↓ed36, ↓ed37, ↓ed38, ↓ed39, ↓ed40, ↓ed41, ↓ed42, ↓ed46, ↓ed47, eu00, eu01, eu02, eu03, eu04, eu05, eu06, eu09, eu10, eu11, eu14, eu15, eu18, eu19, eu20, eu21, eu22, eu23, eu24, eu25, eu26, eu27, eu28, eu29, eu30, eu31, eu32, eu33, eu34, eu35, eu36, eu37, eu38, eu39, eu40, eu41, eu42, eu43, eu44, eu46, eu47, eu48, eu49, eu50, eu51, eo00, eo01, eo02, eo03, eo04, eo05, eo06, eo07, eo08, eo09, eo10, eo11, eo12, eo13, eo14, eo15, eo16, eo17, Nat.reduceAdd, Nat.reduceLT, if_true, Bool.false_eq_true, reduceIte, Nat.zero_add, Nat.succ_eq_add_one, Int.reduceNeg, beq_self_eq_true]
      exact hQ
    · intro w _ _ Q hQ
      rw [wedV]
      try simp (disch := first | decide | omega) only [↓ed00, ↓ed01, ↓ed03, ↓ed04, ↓ed05, ↓ed06, ↓ed07, ↓ed08, ↓ed09, ↓ed10, ↓ed11, ↓ed12, ↓ed13, ↓ed14, ↓ed15, ↓ed16, ↓ed17, ↓ed18, ↓ed19, ↓ed20, ↓ed21, ↓ed23, ↓ed24, ↓ed25, ↓ed26, ↓ed27, ↓ed28, ↓ed29, ↓ed30, ↓ed31, ↓ed32, ↓ed33, ↓ed34, ↓ed35, ↓ed36, ↓ed37, ↓ed38, ↓ed39, ↓ed40, ↓ed41, ↓ed42, ↓ed46, ↓ed47, eu00, eu01, eu02, eu03, eu04, eu05, eu06, eu09, eu10, eu11, eu14, eu15, eu18, eu19, eu20, eu21, eu22, eu23, eu24, eu25, eu26, eu27, eu28, eu29, eu30, eu31, eu32, eu33, eu34, eu35, eu36, eu37, eu38, eu39, eu40, eu41, eu42, eu43, eu44, eu46, eu47, eu48, eu49, eu50, eu51, eo00, eo01, eo02, eo03, eo04, eo05, eo06, eo07, eo08, eo09, eo10, eo11, eo12, eo13, eo14, eo15, eo16, eo17, Nat.reduceAdd, Nat.reduceLT, if_true, Bool.false_eq_true, reduceIte, Nat.zero_add, Nat.succ_eq_add_one, Int.reduceNeg, beq_self_eq_true]
      exact hQ
    · rw [List.filter_eq_self.mpr (by simp)]
      have e2 : (ws.map fun w => V.int w.2.2) = (ws.map fun w => w.2.2).map .int := by rw [List.map_map]; rfl
      rw [e2]
      generalize hd2 : (ws.map fun w => w.2.2) = d2
      have l2 : d2.length = ws.length := by rw [← hd2]; simp
      have f1 := Kept.app H [.list [V.int p.born]]
      have f2 : Kept H.length H (H ++ [.list [V.int p.born]] ++ [.list (d2.map .int)]) := f1.tr (Kept.app _ _)
      have a1 := at_app [.list (d2.map .int)] (at_new H (.list [V.int p.born]))
      have a2 := at_new (H ++ [.list [V.int p.born]]) (.list (d2.map .int))
      generalize H ++ [.list [V.int p.born]] ++ [.list (d2.map .int)] = H2 at f2 a1 a2 ⊢
      have z1 : (V.int p.born :: d2.map V.int).length < 1000000 := by simp <;> omega
      have hC3 := at_app [.list (V.int p.born :: d2.map V.int)] (f2.at' hC)
      try simp (disch := first | decide | omega) only [↓ed00, ↓ed01, ↓ed03, ↓ed04, ↓ed05, ↓ed06, ↓ed07, ↓ed08, ↓ed09, ↓ed10, ↓ed11, ↓ed12, ↓ed13, ↓ed14, ↓ed15, ↓ed16, ↓ed17, ↓ed18, ↓ed19, ↓ed20, ↓ed21, ↓ed23, ↓ed24, ↓ed25, ↓ed26, ↓ed27, ↓ed28, ↓ed29, ↓ed30, ↓ed31, ↓ed32, ↓ed33, ↓ed34, ↓ed35, ↓ed36, ↓ed37, ↓ed38, ↓ed39, ↓ed40, ↓ed41, ↓ed42, ↓ed46, ↓ed47, eu00, eu01, eu02, eu03, eu04, eu05, eu06, eu09, eu10, eu11, eu14, eu15, eu18, eu19, eu20, eu21, eu22, eu23, eu24, eu25, eu26, eu27, eu28, eu29, eu30, eu31, eu32, eu33, eu34, eu35, eu36, eu37, eu38, eu39, eu40, eu41, eu42, eu43, eu44, eu46, eu47, eu48, eu49, eu50, eu51, eo00, eo01, eo02, eo03, eo04, eo05, eo06, eo07, eo08, eo09, eo10, eo11, eo12, eo13, eo14, eo15, eo16, eo17, Nat.reduceAdd, Nat.reduceLT, if_true, Bool.false_eq_true, reduceIte, Nat.zero_add, Nat.succ_eq_add_one, Int.reduceNeg, beq_self_eq_true, WBin_cat _ _ a1 a2, WAllocL_ok _ _ _ z1, seqOf_lst _ _ hC3]
      have f3 : Kept H.length H (H2 ++ [.list (V.int p.born :: d2.map V.int)]) := f2.tr (Kept.app _ _)
      have a3 := at_new H2 (.list (V.int p.born :: d2.map V.int))
      generalize H2 ++ [.list (V.int p.born :: d2.map V.int)] = H3 at f3 a3 hC3 ⊢
      generalize H2.length = l3 at a3 ⊢
      refine comp_fm (xs := ts) willV (fun _ => true) (fun w => .int w.day) (by omega) ?_ ?_ ?_
      · intro w _ Q hQ
        try simp (disch := first | decide | omega) only [↓ed00, ↓ed01, ↓ed03, ↓ed04, ↓ed05, ↓ed06, ↓ed07, ↓ed08, ↓ed09, ↓ed10, ↓ed11, ↓ed12, ↓ed13, ↓ed14, ↓ed15, ↓ed16, ↓ed17, ↓ed18, ↓ed19, ↓ed20, ↓ed21, ↓ed23, ↓ed24, ↓ed25, ↓ed26, ↓ed27, ↓ed28, ↓ed29, ↓ed30, ↓ed31, ↓ed32, ↓ed33, ↓ed34, ↓ed35, ↓ed36, ↓ed37, ↓ed38, ↓ed39, ↓ed40, ↓ed41, ↓ed42, ↓ed46, ↓ed47, eu00, eu01, eu02, eu03, eu04, eu05, eu06, eu09, eu10, eu11, eu14, eu15, eu18, eu19, eu20, eu21, eu22, eu23, eu24, eu25, eu26, eu27, eu28, eu29, eu30, eu31, eu32, eu33, eu34, eu35, eu36, eu37, eu38, eu39, eu40, eu41, eu42, eu43, eu44, eu46, eu47, eu48, eu49, eu50, eu51, eo00, eo01, eo02, eo03, eo04, eo05, eo06, eo07, eo08, eo09, eo10, eo11, eo12, eo13, eo14, eo15, eo16, eo17, Nat.reduceAdd, Nat.reduceLT, if_true, Bool.false_eq_true, reduceIte, Nat.zero_add, Nat.succ_eq_add_one, Int.reduceNeg, beq_self_eq_true]
        exact hQ
      · intro w _ _ Q hQ
        rw [willV]
        try simp (disch := first | decide | omega) only [↓ed00, ↓ed01, ↓ed03, ↓ed04, ↓ed05, ↓ed06, ↓ed07, ↓ed08, ↓ed09, ↓ed10, ↓ed11, ↓ed12, ↓ed13, ↓ed14, ↓ed15, ↓ed16, ↓ed17, ↓ed18, ↓ed19, ↓ed20, ↓ed21, ↓ed23, ↓ed24, ↓ed25, ↓ed26, ↓ed27, ↓ed28, ↓ed29, ↓ed30, ↓ed31, ↓ed32, ↓ed33, ↓ed34, ↓ed35, ↓ed36, ↓ed37, ↓ed38, ↓ed39, ↓ed40, ↓ed41, ↓ed42, ↓ed46, ↓ed47, eu00, eu01, eu02, eu03, eu04, eu05, eu06, eu09, eu10, eu11, eu14, eu15, eu18, eu19, eu20, eu21, eu22, eu23, eu24, eu25, eu26, eu27, eu28, eu29, eu30, eu31, eu32, eu33, eu34, eu35, eu36, eu37, eu38, eu39, eu40, eu41, eu42, eu43, eu44, eu46, eu47, eu48, eu49, eu50, eu51, eo00, eo01, eo02, eo03, eo04, eo05, eo06, eo07, eo08, eo09, eo10, eo11, eo12, eo13, eo14, eo15, eo16, eo17, Nat.reduceAdd, Nat.reduceLT, if_true, Bool.false_eq_true, reduceIte, Nat.zero_add, Nat.succ_eq_add_one, Int.reduceNeg, beq_self_eq_true]
        exact hQ
      · rw [List.filter_eq_self.mpr (by simp)]
        have e4 : (ts.map fun w => V.int w.day) = (ts.map fun w => w.day).map .int := by rw [List.map_map]; rfl
        rw [e4]
        generalize hd4 : (ts.map fun w => w.day) = d4
        have l4 : d4.length = ts.length := by rw [← hd4]; simp
        have z2 : (V.int p.born :: d2.map V.int ++ d4.map V.int).length < 1000000 := by simp <;> omega
        have f4 : Kept H.length H (H3 ++ [.list (d4.map .int)]) := f3.tr (Kept.app _ _)
        have a4 := at_new H3 (.list (d4.map .int))
        have a3' := at_app [.list (d4.map .int)] a3
        generalize H3 ++ [.list (d4.map .int)] = H4 at f4 a4 a3' ⊢
        have hA5 := at_app [.list (V.int p.born :: d2.map V.int ++ d4.map V.int)] (f4.at' hA)
        have f5 : Kept H.length H (H4 ++ [.list (V.int p.born :: d2.map V.int ++ d4.map V.int)]) := f4.tr (Kept.app _ _)
        have a5 := at_new H4 (.list (V.int p.born :: d2.map V.int ++ d4.map V.int))
        rw [WBin_cat _ _ a3' a4, WAllocL_ok _ _ _ z2]
        generalize H4 ++ [.list (V.int p.born :: d2.map V.int ++ d4.map V.int)] = H5 at f5 a5 hA5 ⊢
        try simp (disch := first | decide | omega) only [↓ed00, ↓ed01, ↓ed03, ↓ed04, ↓ed05, ↓ed06, ↓ed07, ↓ed08, ↓ed09, ↓ed10, ↓ed11, ↓ed12, ↓ed13, ↓ed14, ↓ed15, ↓ed16, ↓ed17, ↓ed18, ↓ed19, ↓ed20, ↓ed21, ↓ed23, ↓ed24, ↓ed25, ↓ed26, ↓ed27, ↓ed28, ↓ed29, ↓ed30, ↓ed31, ↓ed32, ↓ed33, ↓ed34, ↓ed35, ↓ed36, ↓ed37, ↓ed38, ↓ed39, ↓ed40, ↓ed41, ↓ed42, ↓ed46, ↓ed47, eu00, eu01, eu02, eu03, eu04, eu05, eu06, eu09, eu10, eu11, eu14, eu15, eu18, eu19, eu20, eu21, eu22, eu23, eu24, eu25, eu26, eu27, eu28, eu29, eu30, eu31, eu32, eu33, eu34, eu35, eu36, eu37, eu38, eu39, eu40, eu41, eu42, eu43, eu44, eu46, eu47, eu48, eu49, eu50, eu51, eo00, eo01, eo02, eo03, eo04, eo05, eo06, eo07, eo08, eo09, eo10, eo11, eo12, eo13, eo14, eo15, eo16, eo17, Nat.reduceAdd, Nat.reduceLT, if_true, Bool.false_eq_true, reduceIte, Nat.zero_add, Nat.succ_eq_add_one, Int.reduceNeg, beq_self_eq_true, seqOf_lst _ _ hA5]
        refine comp_fm (xs := ps) perV (fun p => p.died.isSome) (fun p => .int (p.died.getD 0)) (by omega) ?_ ?_ ?_
        · intro q _ Q hQ
          rw [perV]
          cases hd : q.died with
          | none =>
            rw [hd] at hQ
            try simp (disch := first | decide | omega) only [↓ed00, ↓ed01, ↓ed03, ↓ed04, ↓ed05, ↓ed06, ↓ed07, ↓ed08, ↓ed09, ↓ed10, ↓ed11, ↓ed12, ↓ed13, ↓ed14, ↓ed15, ↓ed16, ↓ed17, ↓ed18, ↓ed19, ↓ed20, ↓ed21, ↓ed23, ↓ed24, ↓ed25, ↓ed26, ↓ed27, ↓ed28, ↓ed29, ↓ed30, ↓ed31, ↓ed32, ↓ed33, ↓ed34, ↓ed35, ↓ed36, ↓ed37, ↓ed38, ↓ed39, ↓ed40, ↓ed41, ↓ed42, ↓ed46, ↓ed47, eu00, eu01, eu02, eu03, eu04, eu05, eu06, eu09, eu10, eu11, eu14, eu15, eu18, eu19, eu20, eu21, eu22, eu23, eu24, eu25, eu26, eu27, eu28, eu29, eu30, eu31, eu32, eu33, eu34, eu35, eu36, eu37, eu38, eu39, eu40, eu41, eu42, eu43, eu44, eu46, eu47, eu48, eu49, eu50, eu51, eo00, eo01, eo02, eo03, eo04, eo05, eo06, eo07, eo08, eo09, eo10, eo11, eo12, eo13, eo14, eo15, eo16, eo17, Nat.reduceAdd, Nat.reduceLT, if_true, Bool.false_eq_true, reduceIte, Nat.zero_add, Nat.succ_eq_add_one, Int.reduceNeg, beq_self_eq_true, diV, isNone_none]
            exact hQ
          | some e =>
            rw [hd] at hQ
            try simp (disch := first | decide | omega) only [↓ed00, ↓ed01, ↓ed03, ↓ed04, ↓ed05, ↓ed06, ↓ed07, ↓ed08, ↓ed09, ↓ed10, ↓ed11, ↓ed12, ↓ed13, ↓ed14, ↓ed15, ↓ed16, ↓ed17, ↓ed18, ↓ed19, ↓ed20, ↓ed21, ↓ed23, ↓ed24, ↓ed25, ↓ed26, ↓ed27, ↓ed28, ↓ed29, ↓ed30, ↓ed31, ↓ed32, ↓ed33, ↓ed34, ↓ed35, ↓ed36, ↓ed37, ↓ed38, ↓ed39, ↓ed40, ↓ed41, ↓ed42, ↓ed46, ↓ed47, eu00, eu01, eu02, eu03, eu04, eu05, eu06, eu09, eu10, eu11, eu14, eu15, eu18, eu19, eu20, eu21, eu22, eu23, eu24, eu25, eu26, eu27, eu28, eu29, eu30, eu31, eu32, eu33, eu34, eu35, eu36, eu37, eu38, eu39, eu40, eu41, eu42, eu43, eu44, eu46, eu47, eu48, eu49, eu50, eu51, eo00, eo01, eo02, eo03, eo04, eo05, eo06, eo07, eo08, eo09, eo10, eo11, eo12, eo13, eo14, eo15, eo16, eo17, Nat.reduceAdd, Nat.reduceLT, if_true, Bool.false_eq_true, reduceIte, Nat.zero_add, Nat.succ_eq_add_one, Int.reduceNeg, beq_self_eq_true, diV, isNone_int]
            exact hQ
        · intro q _ hq Q hQ
          rw [perV]
          cases hd : q.died with
          | none => rw [hd] at hq; simp at hq
          | some e =>
            rw [hd] at hQ
            try simp (disch := first | decide | omega) only [↓ed00, ↓ed01, ↓ed03, ↓ed04, ↓ed05, ↓ed06, ↓ed07, ↓ed08, ↓ed09, ↓ed10, ↓ed11, ↓ed12, ↓ed13, ↓ed14, ↓ed15, ↓ed16, ↓ed17, ↓ed18, ↓ed19, ↓ed20, ↓ed21, ↓ed23, ↓ed24, ↓ed25, ↓ed26, ↓ed27, ↓ed28, ↓ed29, ↓ed30, ↓ed31, ↓ed32, ↓ed33, ↓ed34, ↓ed35, ↓ed36, ↓ed37, ↓ed38, ↓ed39, ↓ed40, ↓ed41, ↓ed42, ↓ed46, ↓ed47, eu00, eu01, eu02, eu03, eu04, eu05, eu06, eu09, eu10, eu11, eu14, eu15, eu18, eu19, eu20, eu21, eu22, eu23, eu24, eu25, eu26, eu27, eu28, eu29, eu30, eu31, eu32, eu33, eu34, eu35, eu36, eu37, eu38, eu39, eu40, eu41, eu42, eu43, eu44, eu46, eu47, eu48, eu49, eu50, eu51, eo00, eo01, eo02, eo03, eo04, eo05, eo06, eo07, eo08, eo09, eo10, eo11, eo12, eo13, eo14, eo15, eo16, eo17, Nat.reduceAdd, Nat.reduceLT, if_true, Bool.false_eq_true, reduceIte, Nat.zero_add, Nat.succ_eq_add_one, Int.reduceNeg, beq_self_eq_true, diV]
            exact hQ
        · have e6 : ∀ l : List Per, (l.map fun p => V.int (p.died.getD 0)) = (l.map fun p => p.died.getD 0).map .int := by intro l; rw [List.map_map]; rfl
          rw [e6]
          generalize hd6 : ((ps.filter fun p => p.died.isSome).map fun p => p.died.getD 0) = d6
          have l6 : d6.length ≤ ps.length := by rw [← hd6, List.length_map]; exact List.length_filter_le _ _
          have z3 : (V.int p.born :: d2.map V.int ++ d4.map V.int ++ d6.map V.int).length < 1000000 := by simp <;> omega
          rw [WBin_cat _ _ (at_app _ a5) (at_new _ _), WAllocL_ok _ _ _ z3]
          try simp (disch := first | decide | omega) only [↓ed00, ↓ed01, ↓ed03, ↓ed04, ↓ed05, ↓ed06, ↓ed07, ↓ed08, ↓ed09, ↓ed10, ↓ed11, ↓ed12, ↓ed13, ↓ed14, ↓ed15, ↓ed16, ↓ed17, ↓ed18, ↓ed19, ↓ed20, ↓ed21, ↓ed23, ↓ed24, ↓ed25, ↓ed26, ↓ed27, ↓ed28, ↓ed29, ↓ed30, ↓ed31, ↓ed32, ↓ed33, ↓ed34, ↓ed35, ↓ed36, ↓ed37, ↓ed38, ↓ed39, ↓ed40, ↓ed41, ↓ed42, ↓ed46, ↓ed47, eu00, eu01, eu02, eu03, eu04, eu05, eu06, eu09, eu10, eu11, eu14, eu15, eu18, eu19, eu20, eu21, eu22, eu23, eu24, eu25, eu26, eu27, eu28, eu29, eu30, eu31, eu32, eu33, eu34, eu35, eu36, eu37, eu38, eu39, eu40, eu41, eu42, eu43, eu44, eu46, eu47, eu48, eu49, eu50, eu51, eo00, eo01, eo02, eo03, eo04, eo05, eo06, eo07, eo08, eo09, eo10, eo11, eo12, eo13, eo14, eo15, eo16, eo17, Nat.reduceAdd, Nat.reduceLT, if_true, Bool.false_eq_true, reduceIte, Nat.zero_add, Nat.succ_eq_add_one, Int.reduceNeg, beq_self_eq_true]
          refine ⟨_, p.born :: (d2 ++ d4 ++ d6), rfl, (f5.tr (Kept.app _ _)).tr (Kept.app _ _), ?_, by simp⟩
          rw [at_new]; simp
  · rintro ρ' H' ⟨l, ds, rfl, hF', hD, hne⟩
    simp only [List.drop_succ_cons, List.drop_zero]
    have hlen : (0 : Int) < ds.length := by have := List.length_pos_iff.mpr hne; omega
    obtain ⟨hm0, hm1⟩ := emod_rng (c / 5) hlen
    obtain ⟨e, he, _⟩ := seqAt_map V.int ds _ hm0 hm1
    refine if_cut (fun b H'' => H'' = H') ?_ ?_ ?_
    · try simp (disch := first | decide | omega) only [↓ed00, ↓ed01, ↓ed03, ↓ed04, ↓ed05, ↓ed06, ↓ed07, ↓ed08, ↓ed09, ↓ed10, ↓ed11, ↓ed12, ↓ed13, ↓ed14, ↓ed15, ↓ed16, ↓ed17, ↓ed18, ↓ed19, ↓ed20, ↓ed21, ↓ed23, ↓ed24, ↓ed25, ↓ed26, ↓ed27, ↓ed28, ↓ed29, ↓ed30, ↓ed31, ↓ed32, ↓ed33, ↓ed34, ↓ed35, ↓ed36, ↓ed37, ↓ed38, ↓ed39, ↓ed40, ↓ed41, ↓ed42, ↓ed46, ↓ed47, eu00, eu01, eu02, eu03, eu04, eu05, eu06, eu09, eu10, eu11, eu14, eu15, eu18, eu19, eu20, eu21, eu22, eu23, eu24, eu25, eu26, eu27, eu28, eu29, eu30, eu31, eu32, eu33, eu34, eu35, eu36, eu37, eu38, eu39, eu40, eu41, eu42, eu43, eu44, eu46, eu47, eu48, eu49, eu50, eu51, eo00, eo01, eo02, eo03, eo04, eo05, eo06, eo07, eo08, eo09, eo10, eo11, eo12, eo13, eo14, eo15, eo16, eo17, Nat.reduceAdd, Nat.reduceLT, if_true, Bool.false_eq_true, reduceIte, Nat.zero_add, Nat.succ_eq_add_one, Int.reduceNeg, beq_self_eq_true]
    · rintro H'' rfl
      try simp (disch := first | decide | omega) only [↓ed00, ↓ed01, ↓ed03, ↓ed04, ↓ed05, ↓ed06, ↓ed07, ↓ed08, ↓ed09, ↓ed10, ↓ed11, ↓ed12, ↓ed13, ↓ed14, ↓ed15, ↓ed16, ↓ed17, ↓ed18, ↓ed19, ↓ed20, ↓ed21, ↓ed23, ↓ed24, ↓ed25, ↓ed26, ↓ed27, ↓ed28, ↓ed29, ↓ed30, ↓ed31, ↓ed32, ↓ed33, ↓ed34, ↓ed35, ↓ed36, ↓ed37, ↓ed38, ↓ed39, ↓ed40, ↓ed41, ↓ed42, ↓ed46, ↓ed47, eu00, eu01, eu02, eu03, eu04, eu05, eu06, eu09, eu10, eu11, eu14, eu15, eu18, eu19, eu20, eu21, eu22, eu23, eu24, eu25, eu26, eu27, eu28, eu29, eu30, eu31, eu32, eu33, eu34, eu35, eu36, eu37, eu38, eu39, eu40, eu41, eu42, eu43, eu44, eu46, eu47, eu48, eu49, eu50, eu51, eo00, eo01, eo02, eo03, eo04, eo05, eo06, eo07, eo08, eo09, eo10, eo11, eo12, eo13, eo14, eo15, eo16, eo17, Nat.reduceAdd, Nat.reduceLT, if_true, Bool.false_eq_true, reduceIte, Nat.zero_add, Nat.succ_eq_add_one, Int.reduceNeg, beq_self_eq_true]
      exact ⟨_, rfl, hF'⟩
    · rintro H'' rfl
      try simp (disch := first | decide | omega) only [↓ed00, ↓ed01, ↓ed03, ↓ed04, ↓ed05, ↓ed06, ↓ed07, ↓ed08, ↓ed09, ↓ed10, ↓ed11, ↓ed12, ↓ed13, ↓ed14, ↓ed15, ↓ed16, ↓ed17, ↓ed18, ↓ed19, ↓ed20, ↓ed21, ↓ed23, ↓ed24, ↓ed25, ↓ed26, ↓ed27, ↓ed28, ↓ed29, ↓ed30, ↓ed31, ↓ed32, ↓ed33, ↓ed34, ↓ed35, ↓ed36, ↓ed37, ↓ed38, ↓ed39, ↓ed40, ↓ed41, ↓ed42, ↓ed46, ↓ed47, eu00, eu01, eu02, eu03, eu04, eu05, eu06, eu09, eu10, eu11, eu14, eu15, eu18, eu19, eu20, eu21, eu22, eu23, eu24, eu25, eu26, eu27, eu28, eu29, eu30, eu31, eu32, eu33, eu34, eu35, eu36, eu37, eu38, eu39, eu40, eu41, eu42, eu43, eu44, eu46, eu47, eu48, eu49, eu50, eu51, eo00, eo01, eo02, eo03, eo04, eo05, eo06, eo07, eo08, eo09, eo10, eo11, eo12, eo13, eo14, eo15, eo16, eo17, Nat.reduceAdd, Nat.reduceLT, if_true, Bool.false_eq_true, reduceIte, Nat.zero_add, Nat.succ_eq_add_one, Int.reduceNeg, beq_self_eq_true, WBi_lenL _ _ _ hD, List.length_map, idx_lst _ _ _ hD, he]
      exact ⟨_, rfl, hF'⟩
end Mine.P

end
section
set_option autoImplicit false
set_option linter.unusedVariables false
set_option linter.unusedSimpArgs false
set_option maxRecDepth 100000
namespace Mine.P
open PySem
variable (scr : List Int)

theorem rd_cells {H : Hp} {a a' : Nat} {x : List V} (h : H[a]? = some (.list x)) (h' : H[a']? = some (.list x)) (hp : ∀ v ∈ x, plain 8 v = true) : ∃ d, rd scr 9 H (.ref a) = some d ∧ rd scr 9 H (.ref a') = some d := by
  obtain ⟨ds, hds⟩ := rdL_some (f := rd scr 8 H) (vs := x) fun v hv => plain_rd scr H 8 8 v (by omega) (hp v hv)
  exact ⟨.list ds, by rw [rd, h]; simp only [hds]; rfl, by rw [rd, h']; simp only [hds]; rfl⟩
theorem ne_roll {H : Hp} {a a' b b' c c' : Nat} {x y z : List V} (h1 : H[a]? = some (.list x)) (h1' : H[a']? = some (.list x)) (h2 : H[b]? = some (.list y)) (h2' : H[b']? = some (.list y)) (h3 : H[c]? = some (.list z)) (h3' : H[c']? = some (.list z))
    (p1 : ∀ v ∈ x, plain 8 v = true) (p2 : ∀ v ∈ y, plain 8 v = true) (p3 : ∀ v ∈ z, plain 8 v = true) : cmpV scr .ne (.tup [.ref a, .ref b, .ref c]) (.tup [.ref a', .ref b', .ref c']) H = some false := by
  obtain ⟨d1, e1, e1'⟩ := rd_cells scr h1 h1' p1
  obtain ⟨d2, e2, e2'⟩ := rd_cells scr h2 h2' p2
  obtain ⟨d3, e3, e3'⟩ := rd_cells scr h3 h3' p3
  have r1 : rd scr 10 H (.tup [.ref a, .ref b, .ref c]) = some (.tuple [d1, d2, d3]) := by rw [rd]; simp only [rdL, e1, e2, e3]; rfl
  have r2 : rd scr 10 H (.tup [.ref a', .ref b', .ref c']) = some (.tuple [d1, d2, d3]) := by rw [rd]; simp only [rdL, e1', e2', e3']; rfl
  rw [cmpV]
  unfold eqV
  simp only [r1, r2]
  rw [eqv_self scr H 10 _ _ r1]; rfl

theorem run (n : Nat) : Wp (callF scr pgks pfns (n + 5) i_law [.script] []) fun v _ => v = .bool true := by
  rw [c_law, Wp_end]
  refine WSs.sound _ ?_
  unfold pb_law
  have c0 : ∀ H, Wp (callF scr pgks pfns (n + 4) i_law_cell_at [.script, .int 0] H) fun v H' => v = .int (scr.getD 0 0) ∧ H' = H := fun H => w_cell scr (n + 3) 0 H
  have c1 : ∀ H, Wp (callF scr pgks pfns (n + 4) i_law_cell_at [.script, .int 1] H) fun v H' => v = .int (scr.getD 1 0) ∧ H' = H := fun H => w_cell scr (n + 3) 1 H
  have c2 : ∀ H, Wp (callF scr pgks pfns (n + 4) i_law_cell_at [.script, .int 2] H) fun v H' => v = .int (scr.getD 2 0) ∧ H' = H := fun H => w_cell scr (n + 3) 2 H
  have c3 : ∀ H, Wp (callF scr pgks pfns (n + 4) i_law_cell_at [.script, .int 3] H) fun v H' => v = .int (scr.getD 3 0) ∧ H' = H := fun H => w_cell scr (n + 3) 3 H
  have c4 : ∀ H, Wp (callF scr pgks pfns (n + 4) i_law_cell_at [.script, .int 4] H) fun v H' => v = .int (scr.getD 4 0) ∧ H' = H := fun H => w_cell scr (n + 3) 4 H
  have c5 : ∀ H, Wp (callF scr pgks pfns (n + 4) i_law_cell_at [.script, .int 5] H) fun v H' => v = .int (scr.getD 5 0) ∧ H' = H := fun H => w_cell scr (n + 3) 5 H
  have c6 : ∀ H, Wp (callF scr pgks pfns (n + 4) i_law_cell_at [.script, .int 6] H) fun v H' => v = .int (scr.getD 6 0) ∧ H' = H := fun H => w_cell scr (n + 3) 6 H
  generalize scr.getD 0 0 = s0 at c0
  generalize scr.getD 1 0 = s1 at c1
  generalize scr.getD 2 0 = s2 at c2
  generalize scr.getD 3 0 = s3 at c3
  generalize scr.getD 4 0 = s4 at c4
  generalize scr.getD 5 0 = s5 at c5
  generalize scr.getD 6 0 = s6 at c6
  refine cut 2 (fun ρ' H' => ∃ (l : Nat) (ps : List Per), ρ' = [some .script, some (.int ps.length), some (.ref l), none, none, none, none, none, none, none, none, none, none, none] ∧ H'[l]? = some (.list (ps.map perV)) ∧ 0 < ps.length ∧ ps.length ≤ 12 ∧ WfP ps) ?_ ?_
  · try simp (disch := first | decide | omega) only [↓ed00, ↓ed01, ↓ed03, ↓ed04, ↓ed05, ↓ed06, ↓ed07, ↓ed08, ↓ed09, ↓ed10, ↓ed11, ↓ed12, ↓ed13, ↓ed14, ↓ed15, ↓ed16, ↓ed17, ↓ed18, ↓ed19, ↓ed20, ↓ed21, ↓ed23, ↓ed24, ↓ed25, ↓ed26, ↓ed27, ↓ed28, ↓ed29, ↓ed30, ↓ed31, ↓ed32, ↓ed33, ↓ed34, ↓ed35, ↓ed36, ↓ed37, ↓ed38, ↓ed39, ↓ed40, ↓ed41, ↓ed42, ↓ed46, ↓ed47, eu00, eu01, eu02, eu03, eu04, eu05, eu06, eu09, eu10, eu11, eu14, eu15, eu18, eu19, eu20, eu21, eu22, eu23, eu24, eu25, eu26, eu27, eu28, eu29, eu30, eu31, eu32, eu33, eu34, eu35, eu36, eu37, eu38, eu39, eu40, eu41, eu42, eu43, eu44, eu46, eu47, eu48, eu49, eu50, eu51, eo00, eo01, eo02, eo03, eo04, eo05, eo06, eo07, eo08, eo09, eo10, eo11, eo12, eo13, eo14, eo15, eo16, eo17, Nat.reduceAdd, Nat.reduceLT, if_true, Bool.false_eq_true, reduceIte, Nat.zero_add, Nat.succ_eq_add_one, Int.reduceNeg, beq_self_eq_true]
    refine call_of (c0 _) ?_
    rintro v H ⟨rfl, rfl⟩
    try simp (disch := first | decide | omega) only [↓ed00, ↓ed01, ↓ed03, ↓ed04, ↓ed05, ↓ed06, ↓ed07, ↓ed08, ↓ed09, ↓ed10, ↓ed11, ↓ed12, ↓ed13, ↓ed14, ↓ed15, ↓ed16, ↓ed17, ↓ed18, ↓ed19, ↓ed20, ↓ed21, ↓ed23, ↓ed24, ↓ed25, ↓ed26, ↓ed27, ↓ed28, ↓ed29, ↓ed30, ↓ed31, ↓ed32, ↓ed33, ↓ed34, ↓ed35, ↓ed36, ↓ed37, ↓ed38, ↓ed39, ↓ed40, ↓ed41, ↓ed42, ↓ed46, ↓ed47, eu00, eu01, eu02, eu03, eu04, eu05, eu06, eu09, eu10, eu11, eu14, eu15, eu18, eu19, eu20, eu21, eu22, eu23, eu24, eu25, eu26, eu27, eu28, eu29, eu30, eu31, eu32, eu33, eu34, eu35, eu36, eu37, eu38, eu39, eu40, eu41, eu42, eu43, eu44, eu46, eu47, eu48, eu49, eu50, eu51, eo00, eo01, eo02, eo03, eo04, eo05, eo06, eo07, eo08, eo09, eo10, eo11, eo12, eo13, eo14, eo15, eo16, eo17, Nat.reduceAdd, Nat.reduceLT, if_true, Bool.false_eq_true, reduceIte, Nat.zero_add, Nat.succ_eq_add_one, Int.reduceNeg, beq_self_eq_true]
    refine call_of (c1 _) ?_
    rintro v H ⟨rfl, rfl⟩
    try simp (disch := first | decide | omega) only [↓ed00, ↓ed01, ↓ed03, ↓ed04, ↓ed05, ↓ed06, ↓ed07, ↓ed08, ↓ed09, ↓ed10, ↓ed11, ↓ed12, ↓ed13, ↓ed14, ↓ed15, ↓ed16, ↓ed17, ↓ed18, ↓ed19, ↓ed20, ↓ed21, ↓ed23, ↓ed24, ↓ed25, ↓ed26, ↓ed27, ↓ed28, ↓ed29, ↓ed30, ↓ed31, ↓ed32, ↓ed33, ↓ed34, ↓ed35, ↓ed36, ↓ed37, ↓ed38, ↓ed39, ↓ed40, ↓ed41, ↓ed42, ↓ed46, ↓ed47, eu00, eu01, eu02, eu03, eu04, eu05, eu06, eu09, eu10, eu11, eu14, eu15, eu18, eu19, eu20, eu21, eu22, eu23, eu24, eu25, eu26, eu27, eu28, eu29, eu30, eu31, eu32, eu33, eu34, eu35, eu36, eu37, eu38, eu39, eu40, eu41, eu42, eu43, eu44, eu46, eu47, eu48, eu49, eu50, eu51, eo00, eo01, eo02, eo03, eo04, eo05, eo06, eo07, eo08, eo09, eo10, eo11, eo12, eo13, eo14, eo15, eo16, eo17, Nat.reduceAdd, Nat.reduceLT, if_true, Bool.false_eq_true, reduceIte, Nat.zero_add, Nat.succ_eq_add_one, Int.reduceNeg, beq_self_eq_true]
    refine call_of (w_people scr (n + 2) s1 (1 + s0 % 12) _ (by omega) (by omega)) ?_
    rintro v H ⟨l, ps, rfl, _, hA, hl, hW⟩
    try simp (disch := first | decide | omega) only [↓ed00, ↓ed01, ↓ed03, ↓ed04, ↓ed05, ↓ed06, ↓ed07, ↓ed08, ↓ed09, ↓ed10, ↓ed11, ↓ed12, ↓ed13, ↓ed14, ↓ed15, ↓ed16, ↓ed17, ↓ed18, ↓ed19, ↓ed20, ↓ed21, ↓ed23, ↓ed24, ↓ed25, ↓ed26, ↓ed27, ↓ed28, ↓ed29, ↓ed30, ↓ed31, ↓ed32, ↓ed33, ↓ed34, ↓ed35, ↓ed36, ↓ed37, ↓ed38, ↓ed39, ↓ed40, ↓ed41, ↓ed42, ↓ed46, ↓ed47, eu00, eu01, eu02, eu03, eu04, eu05, eu06, eu09, eu10, eu11, eu14, eu15, eu18, eu19, eu20, eu21, eu22, eu23, eu24, eu25, eu26, eu27, eu28, eu29, eu30, eu31, eu32, eu33, eu34, eu35, eu36, eu37, eu38, eu39, eu40, eu41, eu42, eu43, eu44, eu46, eu47, eu48, eu49, eu50, eu51, eo00, eo01, eo02, eo03, eo04, eo05, eo06, eo07, eo08, eo09, eo10, eo11, eo12, eo13, eo14, eo15, eo16, eo17, Nat.reduceAdd, Nat.reduceLT, if_true, Bool.false_eq_true, reduceIte, Nat.zero_add, Nat.succ_eq_add_one, Int.reduceNeg, beq_self_eq_true]
    refine call_of (c2 _) ?_
    rintro v H ⟨rfl, rfl⟩
    refine call_of (w_adopting scr (n + 2) l s2 _ ps hA hW (by omega)) ?_
    rintro v H ⟨l', ps', rfl, _, hA', hl', hW'⟩
    try simp (disch := first | decide | omega) only [↓ed00, ↓ed01, ↓ed03, ↓ed04, ↓ed05, ↓ed06, ↓ed07, ↓ed08, ↓ed09, ↓ed10, ↓ed11, ↓ed12, ↓ed13, ↓ed14, ↓ed15, ↓ed16, ↓ed17, ↓ed18, ↓ed19, ↓ed20, ↓ed21, ↓ed23, ↓ed24, ↓ed25, ↓ed26, ↓ed27, ↓ed28, ↓ed29, ↓ed30, ↓ed31, ↓ed32, ↓ed33, ↓ed34, ↓ed35, ↓ed36, ↓ed37, ↓ed38, ↓ed39, ↓ed40, ↓ed41, ↓ed42, ↓ed46, ↓ed47, eu00, eu01, eu02, eu03, eu04, eu05, eu06, eu09, eu10, eu11, eu14, eu15, eu18, eu19, eu20, eu21, eu22, eu23, eu24, eu25, eu26, eu27, eu28, eu29, eu30, eu31, eu32, eu33, eu34, eu35, eu36, eu37, eu38, eu39, eu40, eu41, eu42, eu43, eu44, eu46, eu47, eu48, eu49, eu50, eu51, eo00, eo01, eo02, eo03, eo04, eo05, eo06, eo07, eo08, eo09, eo10, eo11, eo12, eo13, eo14, eo15, eo16, eo17, Nat.reduceAdd, Nat.reduceLT, if_true, Bool.false_eq_true, reduceIte, Nat.zero_add, Nat.succ_eq_add_one, Int.reduceNeg, beq_self_eq_true]
    have e : (1 + s0 % 12 : Int) = (ps'.length : Int) := by omega
    refine ⟨l', ps', by rw [e], hA', by omega, by omega, hW'⟩
  · rintro ρ' H ⟨lp, ps, rfl, hP, hp0, hp12, hW⟩
    simp only [List.drop_succ_cons, List.drop_zero]
    refine cut 2 (fun ρ' H' => ∃ (lw lt : Nat) (ws : List Wed) (ts : List Will), ρ' = [some .script, some (.int ps.length), some (.ref lp), some (.ref lw), some (.ref lt), none, none, none, none, none, none, none, none, none] ∧ H'[lp]? = some (.list (ps.map perV)) ∧ H'[lw]? = some (.list (ws.map wedV)) ∧ H'[lt]? = some (.list (ts.map willV)) ∧ lp < lt ∧ lw < lt ∧ ws.length ≤ 60 ∧ ts.length ≤ 60 ∧ (∀ w ∈ ws, WedOk ps.length w) ∧ ∀ w ∈ ts, WillOk ps.length w) ?_ ?_
    · try simp (disch := first | decide | omega) only [↓ed00, ↓ed01, ↓ed03, ↓ed04, ↓ed05, ↓ed06, ↓ed07, ↓ed08, ↓ed09, ↓ed10, ↓ed11, ↓ed12, ↓ed13, ↓ed14, ↓ed15, ↓ed16, ↓ed17, ↓ed18, ↓ed19, ↓ed20, ↓ed21, ↓ed23, ↓ed24, ↓ed25, ↓ed26, ↓ed27, ↓ed28, ↓ed29, ↓ed30, ↓ed31, ↓ed32, ↓ed33, ↓ed34, ↓ed35, ↓ed36, ↓ed37, ↓ed38, ↓ed39, ↓ed40, ↓ed41, ↓ed42, ↓ed46, ↓ed47, eu00, eu01, eu02, eu03, eu04, eu05, eu06, eu09, eu10, eu11, eu14, eu15, eu18, eu19, eu20, eu21, eu22, eu23, eu24, eu25, eu26, eu27, eu28, eu29, eu30, eu31, eu32, eu33, eu34, eu35, eu36, eu37, eu38, eu39, eu40, eu41, eu42, eu43, eu44, eu46, eu47, eu48, eu49, eu50, eu51, eo00, eo01, eo02, eo03, eo04, eo05, eo06, eo07, eo08, eo09, eo10, eo11, eo12, eo13, eo14, eo15, eo16, eo17, Nat.reduceAdd, Nat.reduceLT, if_true, Bool.false_eq_true, reduceIte, Nat.zero_add, Nat.succ_eq_add_one, Int.reduceNeg, beq_self_eq_true]
      refine call_of (c3 _) ?_
      rintro v H' ⟨rfl, rfl⟩
      try simp (disch := first | decide | omega) only [↓ed00, ↓ed01, ↓ed03, ↓ed04, ↓ed05, ↓ed06, ↓ed07, ↓ed08, ↓ed09, ↓ed10, ↓ed11, ↓ed12, ↓ed13, ↓ed14, ↓ed15, ↓ed16, ↓ed17, ↓ed18, ↓ed19, ↓ed20, ↓ed21, ↓ed23, ↓ed24, ↓ed25, ↓ed26, ↓ed27, ↓ed28, ↓ed29, ↓ed30, ↓ed31, ↓ed32, ↓ed33, ↓ed34, ↓ed35, ↓ed36, ↓ed37, ↓ed38, ↓ed39, ↓ed40, ↓ed41, ↓ed42, ↓ed46, ↓ed47, eu00, eu01, eu02, eu03, eu04, eu05, eu06, eu09, eu10, eu11, eu14, eu15, eu18, eu19, eu20, eu21, eu22, eu23, eu24, eu25, eu26, eu27, eu28, eu29, eu30, eu31, eu32, eu33, eu34, eu35, eu36, eu37, eu38, eu39, eu40, eu41, eu42, eu43, eu44, eu46, eu47, eu48, eu49, eu50, eu51, eo00, eo01, eo02, eo03, eo04, eo05, eo06, eo07, eo08, eo09, eo10, eo11, eo12, eo13, eo14, eo15, eo16, eo17, Nat.reduceAdd, Nat.reduceLT, if_true, Bool.false_eq_true, reduceIte, Nat.zero_add, Nat.succ_eq_add_one, Int.reduceNeg, beq_self_eq_true]
      refine call_of (c0 _) ?_
      rintro v H' ⟨rfl, rfl⟩
      try simp (disch := first | decide | omega) only [↓ed00, ↓ed01, ↓ed03, ↓ed04, ↓ed05, ↓ed06, ↓ed07, ↓ed08, ↓ed09, ↓ed10, ↓ed11, ↓ed12, ↓ed13, ↓ed14, ↓ed15, ↓ed16, ↓ed17, ↓ed18, ↓ed19, ↓ed20, ↓ed21, ↓ed23, ↓ed24, ↓ed25, ↓ed26, ↓ed27, ↓ed28, ↓ed29, ↓ed30, ↓ed31, ↓ed32, ↓ed33, ↓ed34, ↓ed35, ↓ed36, ↓ed37, ↓ed38, ↓ed39, ↓ed40, ↓ed41, ↓ed42, ↓ed46, ↓ed47, eu00, eu01, eu02, eu03, eu04, eu05, eu06, eu09, eu10, eu11, eu14, eu15, eu18, eu19, eu20, eu21, eu22, eu23, eu24, eu25, eu26, eu27, eu28, eu29, eu30, eu31, eu32, eu33, eu34, eu35, eu36, eu37, eu38, eu39, eu40, eu41, eu42, eu43, eu44, eu46, eu47, eu48, eu49, eu50, eu51, eo00, eo01, eo02, eo03, eo04, eo05, eo06, eo07, eo08, eo09, eo10, eo11, eo12, eo13, eo14, eo15, eo16, eo17, Nat.reduceAdd, Nat.reduceLT, if_true, Bool.false_eq_true, reduceIte, Nat.zero_add, Nat.succ_eq_add_one, Int.reduceNeg, beq_self_eq_true]
      refine call_of (w_weddings scr (n + 1) lp s3 (s0 / 12 % 13) _ ps hP hW hp0 (by omega) (by omega)) ?_
      rintro v H1 ⟨lw, ws, rfl, _, hF1, hB, hwl, hws⟩
      have hP1 := hF1.at' hP
      try simp (disch := first | decide | omega) only [↓ed00, ↓ed01, ↓ed03, ↓ed04, ↓ed05, ↓ed06, ↓ed07, ↓ed08, ↓ed09, ↓ed10, ↓ed11, ↓ed12, ↓ed13, ↓ed14, ↓ed15, ↓ed16, ↓ed17, ↓ed18, ↓ed19, ↓ed20, ↓ed21, ↓ed23, ↓ed24, ↓ed25, ↓ed26, ↓ed27, ↓ed28, ↓ed29, ↓ed30, ↓ed31, ↓ed32, ↓ed33, ↓ed34, ↓ed35, ↓ed36, ↓ed37, ↓ed38, ↓ed39, ↓ed40, ↓ed41, ↓ed42, ↓ed46, ↓ed47, eu00, eu01, eu02, eu03, eu04, eu05, eu06, eu09, eu10, eu11, eu14, eu15, eu18, eu19, eu20, eu21, eu22, eu23, eu24, eu25, eu26, eu27, eu28, eu29, eu30, eu31, eu32, eu33, eu34, eu35, eu36, eu37, eu38, eu39, eu40, eu41, eu42, eu43, eu44, eu46, eu47, eu48, eu49, eu50, eu51, eo00, eo01, eo02, eo03, eo04, eo05, eo06, eo07, eo08, eo09, eo10, eo11, eo12, eo13, eo14, eo15, eo16, eo17, Nat.reduceAdd, Nat.reduceLT, if_true, Bool.false_eq_true, reduceIte, Nat.zero_add, Nat.succ_eq_add_one, Int.reduceNeg, beq_self_eq_true]
      refine call_of (c4 _) ?_
      rintro v H' ⟨rfl, rfl⟩
      try simp (disch := first | decide | omega) only [↓ed00, ↓ed01, ↓ed03, ↓ed04, ↓ed05, ↓ed06, ↓ed07, ↓ed08, ↓ed09, ↓ed10, ↓ed11, ↓ed12, ↓ed13, ↓ed14, ↓ed15, ↓ed16, ↓ed17, ↓ed18, ↓ed19, ↓ed20, ↓ed21, ↓ed23, ↓ed24, ↓ed25, ↓ed26, ↓ed27, ↓ed28, ↓ed29, ↓ed30, ↓ed31, ↓ed32, ↓ed33, ↓ed34, ↓ed35, ↓ed36, ↓ed37, ↓ed38, ↓ed39, ↓ed40, ↓ed41, ↓ed42, ↓ed46, ↓ed47, eu00, eu01, eu02, eu03, eu04, eu05, eu06, eu09, eu10, eu11, eu14, eu15, eu18, eu19, eu20, eu21, eu22, eu23, eu24, eu25, eu26, eu27, eu28, eu29, eu30, eu31, eu32, eu33, eu34, eu35, eu36, eu37, eu38, eu39, eu40, eu41, eu42, eu43, eu44, eu46, eu47, eu48, eu49, eu50, eu51, eo00, eo01, eo02, eo03, eo04, eo05, eo06, eo07, eo08, eo09, eo10, eo11, eo12, eo13, eo14, eo15, eo16, eo17, Nat.reduceAdd, Nat.reduceLT, if_true, Bool.false_eq_true, reduceIte, Nat.zero_add, Nat.succ_eq_add_one, Int.reduceNeg, beq_self_eq_true]
      refine call_of (c0 _) ?_
      rintro v H' ⟨rfl, rfl⟩
      try simp (disch := first | decide | omega) only [↓ed00, ↓ed01, ↓ed03, ↓ed04, ↓ed05, ↓ed06, ↓ed07, ↓ed08, ↓ed09, ↓ed10, ↓ed11, ↓ed12, ↓ed13, ↓ed14, ↓ed15, ↓ed16, ↓ed17, ↓ed18, ↓ed19, ↓ed20, ↓ed21, ↓ed23, ↓ed24, ↓ed25, ↓ed26, ↓ed27, ↓ed28, ↓ed29, ↓ed30, ↓ed31, ↓ed32, ↓ed33, ↓ed34, ↓ed35, ↓ed36, ↓ed37, ↓ed38, ↓ed39, ↓ed40, ↓ed41, ↓ed42, ↓ed46, ↓ed47, eu00, eu01, eu02, eu03, eu04, eu05, eu06, eu09, eu10, eu11, eu14, eu15, eu18, eu19, eu20, eu21, eu22, eu23, eu24, eu25, eu26, eu27, eu28, eu29, eu30, eu31, eu32, eu33, eu34, eu35, eu36, eu37, eu38, eu39, eu40, eu41, eu42, eu43, eu44, eu46, eu47, eu48, eu49, eu50, eu51, eo00, eo01, eo02, eo03, eo04, eo05, eo06, eo07, eo08, eo09, eo10, eo11, eo12, eo13, eo14, eo15, eo16, eo17, Nat.reduceAdd, Nat.reduceLT, if_true, Bool.false_eq_true, reduceIte, Nat.zero_add, Nat.succ_eq_add_one, Int.reduceNeg, beq_self_eq_true]
      refine call_of (w_wills scr (n + 2) lp s4 (s0 / 156 % 9) _ ps hP1 hW hp0 (by omega) (by omega)) ?_
      rintro v H2 ⟨lt, ts, rfl, hlt, hF2, hC, htl, hts⟩
      try simp (disch := first | decide | omega) only [↓ed00, ↓ed01, ↓ed03, ↓ed04, ↓ed05, ↓ed06, ↓ed07, ↓ed08, ↓ed09, ↓ed10, ↓ed11, ↓ed12, ↓ed13, ↓ed14, ↓ed15, ↓ed16, ↓ed17, ↓ed18, ↓ed19, ↓ed20, ↓ed21, ↓ed23, ↓ed24, ↓ed25, ↓ed26, ↓ed27, ↓ed28, ↓ed29, ↓ed30, ↓ed31, ↓ed32, ↓ed33, ↓ed34, ↓ed35, ↓ed36, ↓ed37, ↓ed38, ↓ed39, ↓ed40, ↓ed41, ↓ed42, ↓ed46, ↓ed47, eu00, eu01, eu02, eu03, eu04, eu05, eu06, eu09, eu10, eu11, eu14, eu15, eu18, eu19, eu20, eu21, eu22, eu23, eu24, eu25, eu26, eu27, eu28, eu29, eu30, eu31, eu32, eu33, eu34, eu35, eu36, eu37, eu38, eu39, eu40, eu41, eu42, eu43, eu44, eu46, eu47, eu48, eu49, eu50, eu51, eo00, eo01, eo02, eo03, eo04, eo05, eo06, eo07, eo08, eo09, eo10, eo11, eo12, eo13, eo14, eo15, eo16, eo17, Nat.reduceAdd, Nat.reduceLT, if_true, Bool.false_eq_true, reduceIte, Nat.zero_add, Nat.succ_eq_add_one, Int.reduceNeg, beq_self_eq_true]
      exact ⟨lw, lt, ws, ts, rfl, hF2.at' hP1, hF2.at' hB, hC, by have := at_lt hP1; omega, by have := at_lt hB; omega, hwl, htl, hws, hts⟩
    · rintro ρ' H ⟨lw, lt, ws, ts, rfl, hP, hB, hC, hpt, hwt, hwl, htl, hws, hts⟩
      simp only [List.drop_succ_cons, List.drop_zero]
      -- one more will
      refine cut 1 (fun ρ' H' => ∃ (ts : List Will), ρ' = [some .script, some (.int ps.length), some (.ref lp), some (.ref lw), some (.ref lt), none, none, none, none, none, none, none, none, none] ∧ H'[lp]? = some (.list (ps.map perV)) ∧ H'[lw]? = some (.list (ws.map wedV)) ∧ H'[lt]? = some (.list (ts.map willV)) ∧ ts.length ≤ 61 ∧ ∀ w ∈ ts, WillOk ps.length w) ?_ ?_
      · refine if_cut (fun b H' => Kept H.length H H' ∧ (b = true → ts ≠ [])) ?_ ?_ ?_
        · try simp (disch := first | decide | omega) only [↓ed00, ↓ed01, ↓ed03, ↓ed04, ↓ed05, ↓ed06, ↓ed07, ↓ed08, ↓ed09, ↓ed10, ↓ed11, ↓ed12, ↓ed13, ↓ed14, ↓ed15, ↓ed16, ↓ed17, ↓ed18, ↓ed19, ↓ed20, ↓ed21, ↓ed23, ↓ed24, ↓ed25, ↓ed26, ↓ed27, ↓ed28, ↓ed29, ↓ed30, ↓ed31, ↓ed32, ↓ed33, ↓ed34, ↓ed35, ↓ed36, ↓ed37, ↓ed38, ↓ed39, ↓ed40, ↓ed41, ↓ed42, ↓ed46, ↓ed47, eu00, eu01, eu02, eu03, eu04, eu05, eu06, eu09, eu10, eu11, eu14, eu15, eu18, eu19, eu20, eu21, eu22, eu23, eu24, eu25, eu26, eu27, eu28, eu29, eu30, eu31, eu32, eu33, eu34, eu35, eu36, eu37, eu38, eu39, eu40, eu41, eu42, eu43, eu44, eu46, eu47, eu48, eu49, eu50, eu51, eo00, eo01, eo02, eo03, eo04, eo05, eo06, eo07, eo08, eo09, eo10, eo11, eo12, eo13, eo14, eo15, eo16, eo17, Nat.reduceAdd, Nat.reduceLT, if_true, Bool.false_eq_true, reduceIte, Nat.zero_add, Nat.succ_eq_add_one, Int.reduceNeg, beq_self_eq_true, cmp_ne_empty hC (map_plain _ will_plain _)]
          refine wIf_split ?_ ?_
          · intro h
            have h : ts ≠ [] := by simpa using h
            refine call_of (c4 _) ?_
            rintro v H' ⟨rfl, rfl⟩
            try simp (disch := first | decide | omega) only [↓ed00, ↓ed01, ↓ed03, ↓ed04, ↓ed05, ↓ed06, ↓ed07, ↓ed08, ↓ed09, ↓ed10, ↓ed11, ↓ed12, ↓ed13, ↓ed14, ↓ed15, ↓ed16, ↓ed17, ↓ed18, ↓ed19, ↓ed20, ↓ed21, ↓ed23, ↓ed24, ↓ed25, ↓ed26, ↓ed27, ↓ed28, ↓ed29, ↓ed30, ↓ed31, ↓ed32, ↓ed33, ↓ed34, ↓ed35, ↓ed36, ↓ed37, ↓ed38, ↓ed39, ↓ed40, ↓ed41, ↓ed42, ↓ed46, ↓ed47, eu00, eu01, eu02, eu03, eu04, eu05, eu06, eu09, eu10, eu11, eu14, eu15, eu18, eu19, eu20, eu21, eu22, eu23, eu24, eu25, eu26, eu27, eu28, eu29, eu30, eu31, eu32, eu33, eu34, eu35, eu36, eu37, eu38, eu39, eu40, eu41, eu42, eu43, eu44, eu46, eu47, eu48, eu49, eu50, eu51, eo00, eo01, eo02, eo03, eo04, eo05, eo06, eo07, eo08, eo09, eo10, eo11, eo12, eo13, eo14, eo15, eo16, eo17, Nat.reduceAdd, Nat.reduceLT, if_true, Bool.false_eq_true, reduceIte, Nat.zero_add, Nat.succ_eq_add_one, Int.reduceNeg, beq_self_eq_true]
            exact ⟨Kept.app _ _, fun _ => h⟩
          · intro h
            rw [h]
            exact ⟨Kept.app _ _, by simp⟩
        · rintro H' ⟨hF', h⟩
          have hne := h rfl
          have hC' := hF'.at' hC
          have hsz : (ts.map willV).length < 1000000 := by rw [List.length_map]; omega
          cases ts with
          | nil => simp at hne
          | cons t r =>
            obtain ⟨u, hu⟩ : ∃ u, (t :: r)[r.length]? = some u := ⟨(t :: r)[r.length]'(by simp), by simp⟩
            have hm1 : seqAt ((t :: r).map willV) (-1) = some (willV u) := by
              have e0 : ¬ (0 : Int) ≤ -1 := by omega
              have e1 : -(((t :: r).map willV).length : Int) ≤ -1 := by simp <;> omega
              have e2 : ((-1 : Int) + (((t :: r).map willV).length : Int)).toNat = r.length := by simp <;> omega
              unfold seqAt
              rw [if_neg e0, if_pos e1, e2, List.getElem?_map, hu]; rfl
            have h0 : seqAt ((t :: r).map willV) 0 = some (willV t) := rfl
            have w0 : ∀ k, idxV scr (willV t) (.int k) H' = seqAt [.int t.who, .int t.day, .tup (t.gifts.map giftV)] k := fun _ => rfl
            have w1 : ∀ k, idxV scr (willV u) (.int k) H' = seqAt [.int u.who, .int u.day, .tup (u.gifts.map giftV)] k := fun _ => rfl
            try simp (disch := first | decide | omega) only [↓ed00, ↓ed01, ↓ed03, ↓ed04, ↓ed05, ↓ed06, ↓ed07, ↓ed08, ↓ed09, ↓ed10, ↓ed11, ↓ed12, ↓ed13, ↓ed14, ↓ed15, ↓ed16, ↓ed17, ↓ed18, ↓ed19, ↓ed20, ↓ed21, ↓ed23, ↓ed24, ↓ed25, ↓ed26, ↓ed27, ↓ed28, ↓ed29, ↓ed30, ↓ed31, ↓ed32, ↓ed33, ↓ed34, ↓ed35, ↓ed36, ↓ed37, ↓ed38, ↓ed39, ↓ed40, ↓ed41, ↓ed42, ↓ed46, ↓ed47, eu00, eu01, eu02, eu03, eu04, eu05, eu06, eu09, eu10, eu11, eu14, eu15, eu18, eu19, eu20, eu21, eu22, eu23, eu24, eu25, eu26, eu27, eu28, eu29, eu30, eu31, eu32, eu33, eu34, eu35, eu36, eu37, eu38, eu39, eu40, eu41, eu42, eu43, eu44, eu46, eu47, eu48, eu49, eu50, eu51, eo00, eo01, eo02, eo03, eo04, eo05, eo06, eo07, eo08, eo09, eo10, eo11, eo12, eo13, eo14, eo15, eo16, eo17, Nat.reduceAdd, Nat.reduceLT, if_true, Bool.false_eq_true, reduceIte, Nat.zero_add, Nat.succ_eq_add_one, Int.reduceNeg, beq_self_eq_true, meKind_app _ hC', idx_lst _ _ _ hC', h0, hm1, w0, w1, WMeth_app _ _ _ hC' hsz]
            refine ⟨(t :: r) ++ [⟨t.who, t.day, u.gifts⟩], trivial, at_set_ne (hF'.at' hP) (by omega), at_set_ne (hF'.at' hB) (by omega), ?_, by simp at htl ⊢ <;> omega, ?_⟩
            · rw [at_set hC']; simp [willV]
            · intro w hw
              rcases List.mem_append.mp hw with h | h
              · exact hts w h
              · have : w = _ := List.mem_singleton.mp h
                subst this
                have ht := hts t (by simp)
                have hu' := hts u (List.mem_of_getElem? hu)
                exact ⟨ht.1, ht.2.1, ht.2.2.1, hu'.2.2.2⟩
        · rintro H' ⟨hF', _⟩
          try simp (disch := first | decide | omega) only [↓ed00, ↓ed01, ↓ed03, ↓ed04, ↓ed05, ↓ed06, ↓ed07, ↓ed08, ↓ed09, ↓ed10, ↓ed11, ↓ed12, ↓ed13, ↓ed14, ↓ed15, ↓ed16, ↓ed17, ↓ed18, ↓ed19, ↓ed20, ↓ed21, ↓ed23, ↓ed24, ↓ed25, ↓ed26, ↓ed27, ↓ed28, ↓ed29, ↓ed30, ↓ed31, ↓ed32, ↓ed33, ↓ed34, ↓ed35, ↓ed36, ↓ed37, ↓ed38, ↓ed39, ↓ed40, ↓ed41, ↓ed42, ↓ed46, ↓ed47, eu00, eu01, eu02, eu03, eu04, eu05, eu06, eu09, eu10, eu11, eu14, eu15, eu18, eu19, eu20, eu21, eu22, eu23, eu24, eu25, eu26, eu27, eu28, eu29, eu30, eu31, eu32, eu33, eu34, eu35, eu36, eu37, eu38, eu39, eu40, eu41, eu42, eu43, eu44, eu46, eu47, eu48, eu49, eu50, eu51, eo00, eo01, eo02, eo03, eo04, eo05, eo06, eo07, eo08, eo09, eo10, eo11, eo12, eo13, eo14, eo15, eo16, eo17, Nat.reduceAdd, Nat.reduceLT, if_true, Bool.false_eq_true, reduceIte, Nat.zero_add, Nat.succ_eq_add_one, Int.reduceNeg, beq_self_eq_true]
          exact ⟨ts, trivial, hF'.at' hP, hF'.at' hB, hF'.at' hC, by omega, hts⟩
      · clear hC hts htl
        rintro ρ' H1 ⟨ts, rfl, hP, hB, hC, htl, hts⟩
        simp only [List.drop_succ_cons, List.drop_zero]
        -- the wills that name another
        refine cut 1 (fun ρ' H' => ∃ (lv : Nat) (vs : List Will), ρ' = [some .script, some (.int ps.length), some (.ref lp), some (.ref lw), some (.ref lv), none, none, none, none, none, none, none, none, none] ∧ H'[lp]? = some (.list (ps.map perV)) ∧ H'[lw]? = some (.list (ws.map wedV)) ∧ H'[lv]? = some (.list (vs.map willV)) ∧ vs.length ≤ 61 ∧ ∀ w ∈ vs, WillOk ps.length w) ?_ ?_
        · try simp (disch := first | decide | omega) only [↓ed00, ↓ed01, ↓ed03, ↓ed04, ↓ed05, ↓ed06, ↓ed07, ↓ed08, ↓ed09, ↓ed10, ↓ed11, ↓ed12, ↓ed13, ↓ed14, ↓ed15, ↓ed16, ↓ed17, ↓ed18, ↓ed19, ↓ed20, ↓ed21, ↓ed23, ↓ed24, ↓ed25, ↓ed26, ↓ed27, ↓ed28, ↓ed29, ↓ed30, ↓ed31, ↓ed32, ↓ed33, ↓ed34, ↓ed35, ↓ed36, ↓ed37, ↓ed38, ↓ed39, ↓ed40, ↓ed41, ↓ed42, ↓ed46, ↓ed47, eu00, eu01, eu02, eu03, eu04, eu05, eu06, eu09, eu10, eu11, eu14, eu15, eu18, eu19, eu20, eu21, eu22, eu23, eu24, eu25, eu26, eu27, eu28, eu29, eu30, eu31, eu32, eu33, eu34, eu35, eu36, eu37, eu38, eu39, eu40, eu41, eu42, eu43, eu44, eu46, eu47, eu48, eu49, eu50, eu51, eo00, eo01, eo02, eo03, eo04, eo05, eo06, eo07, eo08, eo09, eo10, eo11, eo12, eo13, eo14, eo15, eo16, eo17, Nat.reduceAdd, Nat.reduceLT, if_true, Bool.false_eq_true, reduceIte, Nat.zero_add, Nat.succ_eq_add_one, Int.reduceNeg, beq_self_eq_true, seqOf_lst _ _ hC]
          refine comp_inv (pre := [none]) (fun v => [some v]) (fun k acc H' => Kept H1.length H1 H' ∧ ∃ vs : List Will, acc = vs.map willV ∧ ∀ w ∈ vs, w ∈ ts) (fun v _ => env_one rfl) (by simp <;> omega) ⟨Kept.refl (Nat.le_refl _), [], rfl, by simp⟩ ?_ ?_
          · rintro k v acc Hk hv ⟨hFk, vs, rfl, hvs⟩
            obtain ⟨w, hw, rfl⟩ := get_map _ hv
            have hst : ∀ {H'' : Hp}, Kept H1.length H1 H'' → stands (watch (.ref lt)) H1 H'' = true := fun h => stands_ref (h.at' hC) hC
            obtain ⟨_, _, _, named, ov, mo, hgs, _, hn10, _⟩ := hts w (List.mem_of_getElem? hw)
            have hgl : w.gifts.length ≤ 10 := by rw [hgs, List.length_map]; exact hn10
            rw [willV]
            try simp (disch := first | decide | omega) only [↓ed00, ↓ed01, ↓ed03, ↓ed04, ↓ed05, ↓ed06, ↓ed07, ↓ed08, ↓ed09, ↓ed10, ↓ed11, ↓ed12, ↓ed13, ↓ed14, ↓ed15, ↓ed16, ↓ed17, ↓ed18, ↓ed19, ↓ed20, ↓ed21, ↓ed23, ↓ed24, ↓ed25, ↓ed26, ↓ed27, ↓ed28, ↓ed29, ↓ed30, ↓ed31, ↓ed32, ↓ed33, ↓ed34, ↓ed35, ↓ed36, ↓ed37, ↓ed38, ↓ed39, ↓ed40, ↓ed41, ↓ed42, ↓ed46, ↓ed47, eu00, eu01, eu02, eu03, eu04, eu05, eu06, eu09, eu10, eu11, eu14, eu15, eu18, eu19, eu20, eu21, eu22, eu23, eu24, eu25, eu26, eu27, eu28, eu29, eu30, eu31, eu32, eu33, eu34, eu35, eu36, eu37, eu38, eu39, eu40, eu41, eu42, eu43, eu44, eu46, eu47, eu48, eu49, eu50, eu51, eo00, eo01, eo02, eo03, eo04, eo05, eo06, eo07, eo08, eo09, eo10, eo11, eo12, eo13, eo14, eo15, eo16, eo17, Nat.reduceAdd, Nat.reduceLT, if_true, Bool.false_eq_true, reduceIte, Nat.zero_add, Nat.succ_eq_add_one, Int.reduceNeg, beq_self_eq_true]
            refine comp_fm giftV (fun _ => true) (fun g => .int g.1) (by omega) ?_ ?_ ?_
            · intro g _ Q hQ
              try simp (disch := first | decide | omega) only [↓ed00, ↓ed01, ↓ed03, ↓ed04, ↓ed05, ↓ed06, ↓ed07, ↓ed08, ↓ed09, ↓ed10, ↓ed11, ↓ed12, ↓ed13, ↓ed14, ↓ed15, ↓ed16, ↓ed17, ↓ed18, ↓ed19, ↓ed20, ↓ed21, ↓ed23, ↓ed24, ↓ed25, ↓ed26, ↓ed27, ↓ed28, ↓ed29, ↓ed30, ↓ed31, ↓ed32, ↓ed33, ↓ed34, ↓ed35, ↓ed36, ↓ed37, ↓ed38, ↓ed39, ↓ed40, ↓ed41, ↓ed42, ↓ed46, ↓ed47, eu00, eu01, eu02, eu03, eu04, eu05, eu06, eu09, eu10, eu11, eu14, eu15, eu18, eu19, eu20, eu21, eu22, eu23, eu24, eu25, eu26, eu27, eu28, eu29, eu30, eu31, eu32, eu33, eu34, eu35, eu36, eu37, eu38, eu39, eu40, eu41, eu42, eu43, eu44, eu46, eu47, eu48, eu49, eu50, eu51, eo00, eo01, eo02, eo03, eo04, eo05, eo06, eo07, eo08, eo09, eo10, eo11, eo12, eo13, eo14, eo15, eo16, eo17, Nat.reduceAdd, Nat.reduceLT, if_true, Bool.false_eq_true, reduceIte, Nat.zero_add, Nat.succ_eq_add_one, Int.reduceNeg, beq_self_eq_true]
              exact hQ
            · intro g _ _ Q hQ
              rw [giftV]
              try simp (disch := first | decide | omega) only [↓ed00, ↓ed01, ↓ed03, ↓ed04, ↓ed05, ↓ed06, ↓ed07, ↓ed08, ↓ed09, ↓ed10, ↓ed11, ↓ed12, ↓ed13, ↓ed14, ↓ed15, ↓ed16, ↓ed17, ↓ed18, ↓ed19, ↓ed20, ↓ed21, ↓ed23, ↓ed24, ↓ed25, ↓ed26, ↓ed27, ↓ed28, ↓ed29, ↓ed30, ↓ed31, ↓ed32, ↓ed33, ↓ed34, ↓ed35, ↓ed36, ↓ed37, ↓ed38, ↓ed39, ↓ed40, ↓ed41, ↓ed42, ↓ed46, ↓ed47, eu00, eu01, eu02, eu03, eu04, eu05, eu06, eu09, eu10, eu11, eu14, eu15, eu18, eu19, eu20, eu21, eu22, eu23, eu24, eu25, eu26, eu27, eu28, eu29, eu30, eu31, eu32, eu33, eu34, eu35, eu36, eu37, eu38, eu39, eu40, eu41, eu42, eu43, eu44, eu46, eu47, eu48, eu49, eu50, eu51, eo00, eo01, eo02, eo03, eo04, eo05, eo06, eo07, eo08, eo09, eo10, eo11, eo12, eo13, eo14, eo15, eo16, eo17, Nat.reduceAdd, Nat.reduceLT, if_true, Bool.false_eq_true, reduceIte, Nat.zero_add, Nat.succ_eq_add_one, Int.reduceNeg, beq_self_eq_true]
              exact hQ
            · rw [List.filter_eq_self.mpr (by simp)]
              have e4 : (w.gifts.map fun g => V.int g.1) = (w.gifts.map fun g => g.1).map .int := by rw [List.map_map]; rfl
              rw [e4]
              have hF2 : Kept H1.length H1 (Hk ++ [.list ((w.gifts.map fun g => g.1).map .int)]) := hFk.tr (Kept.app _ _)
              try simp (disch := first | decide | omega) only [↓ed00, ↓ed01, ↓ed03, ↓ed04, ↓ed05, ↓ed06, ↓ed07, ↓ed08, ↓ed09, ↓ed10, ↓ed11, ↓ed12, ↓ed13, ↓ed14, ↓ed15, ↓ed16, ↓ed17, ↓ed18, ↓ed19, ↓ed20, ↓ed21, ↓ed23, ↓ed24, ↓ed25, ↓ed26, ↓ed27, ↓ed28, ↓ed29, ↓ed30, ↓ed31, ↓ed32, ↓ed33, ↓ed34, ↓ed35, ↓ed36, ↓ed37, ↓ed38, ↓ed39, ↓ed40, ↓ed41, ↓ed42, ↓ed46, ↓ed47, eu00, eu01, eu02, eu03, eu04, eu05, eu06, eu09, eu10, eu11, eu14, eu15, eu18, eu19, eu20, eu21, eu22, eu23, eu24, eu25, eu26, eu27, eu28, eu29, eu30, eu31, eu32, eu33, eu34, eu35, eu36, eu37, eu38, eu39, eu40, eu41, eu42, eu43, eu44, eu46, eu47, eu48, eu49, eu50, eu51, eo00, eo01, eo02, eo03, eo04, eo05, eo06, eo07, eo08, eo09, eo10, eo11, eo12, eo13, eo14, eo15, eo16, eo17, Nat.reduceAdd, Nat.reduceLT, if_true, Bool.false_eq_true, reduceIte, Nat.zero_add, Nat.succ_eq_add_one, Int.reduceNeg, beq_self_eq_true, notin_lst _ (at_new _ _)]
              refine wIf_split ?_ ?_
              · intro _
                refine ⟨hst hF2, hF2, vs ++ [w], by simp [willV], ?_⟩
                intro u hu
                rcases List.mem_append.mp hu with h | h
                · exact hvs u h
                · have : u = w := by simpa using h
                  rw [this]; exact List.mem_of_getElem? hw
              · intro _
                exact ⟨hst hF2, hF2, vs, rfl, hvs⟩
          · rintro acc H' hal ⟨hF', vs, rfl, hvs⟩
            rw [List.length_map, List.length_map] at hal
            try simp (disch := first | decide | omega) only [↓ed00, ↓ed01, ↓ed03, ↓ed04, ↓ed05, ↓ed06, ↓ed07, ↓ed08, ↓ed09, ↓ed10, ↓ed11, ↓ed12, ↓ed13, ↓ed14, ↓ed15, ↓ed16, ↓ed17, ↓ed18, ↓ed19, ↓ed20, ↓ed21, ↓ed23, ↓ed24, ↓ed25, ↓ed26, ↓ed27, ↓ed28, ↓ed29, ↓ed30, ↓ed31, ↓ed32, ↓ed33, ↓ed34, ↓ed35, ↓ed36, ↓ed37, ↓ed38, ↓ed39, ↓ed40, ↓ed41, ↓ed42, ↓ed46, ↓ed47, eu00, eu01, eu02, eu03, eu04, eu05, eu06, eu09, eu10, eu11, eu14, eu15, eu18, eu19, eu20, eu21, eu22, eu23, eu24, eu25, eu26, eu27, eu28, eu29, eu30, eu31, eu32, eu33, eu34, eu35, eu36, eu37, eu38, eu39, eu40, eu41, eu42, eu43, eu44, eu46, eu47, eu48, eu49, eu50, eu51, eo00, eo01, eo02, eo03, eo04, eo05, eo06, eo07, eo08, eo09, eo10, eo11, eo12, eo13, eo14, eo15, eo16, eo17, Nat.reduceAdd, Nat.reduceLT, if_true, Bool.false_eq_true, reduceIte, Nat.zero_add, Nat.succ_eq_add_one, Int.reduceNeg, beq_self_eq_true]
            exact ⟨_, vs, rfl, at_app _ (hF'.at' hP), at_app _ (hF'.at' hB), at_new _ _, by omega, fun w hw => hts w (hvs w hw)⟩
        · clear hC hts htl hP hB hpt hwt
          rintro ρ' H2 ⟨lt, ts, rfl, hP, hB, hC, htl, hts⟩
          simp only [List.drop_succ_cons, List.drop_zero]
          refine cut 2 (fun ρ' H' => ∃ (hp hw ht : Nat), ρ' = [some .script, some (.int ps.length), some (.ref lp), some (.ref lw), some (.ref lt), some (.tup [.ref lp, .ref lw, .ref lt]), some (.tup [.ref hp, .ref hw, .ref ht]), none, none, none, none, none, none, none] ∧ H'[lp]? = some (.list (ps.map perV)) ∧ H'[lw]? = some (.list (ws.map wedV)) ∧ H'[lt]? = some (.list (ts.map willV)) ∧ H'[hp]? = some (.list (ps.map perV)) ∧ H'[hw]? = some (.list (ws.map wedV)) ∧ H'[ht]? = some (.list (ts.map willV))) ?_ ?_
          · have z1 : (ps.map perV).length < 1000000 := by rw [List.length_map]; omega
            have z2 : (ws.map wedV).length < 1000000 := by rw [List.length_map]; omega
            have z3 : (ts.map willV).length < 1000000 := by rw [List.length_map]; omega
            have b1 := at_app [.list (ps.map perV)] hB
            have b2 := at_app [.list (ws.map wedV)] (at_app [.list (ps.map perV)] hC)
            try simp (disch := first | decide | omega) only [↓ed00, ↓ed01, ↓ed03, ↓ed04, ↓ed05, ↓ed06, ↓ed07, ↓ed08, ↓ed09, ↓ed10, ↓ed11, ↓ed12, ↓ed13, ↓ed14, ↓ed15, ↓ed16, ↓ed17, ↓ed18, ↓ed19, ↓ed20, ↓ed21, ↓ed23, ↓ed24, ↓ed25, ↓ed26, ↓ed27, ↓ed28, ↓ed29, ↓ed30, ↓ed31, ↓ed32, ↓ed33, ↓ed34, ↓ed35, ↓ed36, ↓ed37, ↓ed38, ↓ed39, ↓ed40, ↓ed41, ↓ed42, ↓ed46, ↓ed47, eu00, eu01, eu02, eu03, eu04, eu05, eu06, eu09, eu10, eu11, eu14, eu15, eu18, eu19, eu20, eu21, eu22, eu23, eu24, eu25, eu26, eu27, eu28, eu29, eu30, eu31, eu32, eu33, eu34, eu35, eu36, eu37, eu38, eu39, eu40, eu41, eu42, eu43, eu44, eu46, eu47, eu48, eu49, eu50, eu51, eo00, eo01, eo02, eo03, eo04, eo05, eo06, eo07, eo08, eo09, eo10, eo11, eo12, eo13, eo14, eo15, eo16, eo17, Nat.reduceAdd, Nat.reduceLT, if_true, Bool.false_eq_true, reduceIte, Nat.zero_add, Nat.succ_eq_add_one, Int.reduceNeg, beq_self_eq_true, itemsOf_lst _ _ hP, WAllocL_ok _ _ _ z1, itemsOf_lst _ _ b1, WAllocL_ok _ _ _ z2, itemsOf_lst _ _ b2, WAllocL_ok _ _ _ z3]
            exact ⟨_, _, _, rfl, at_app _ (at_app _ (at_app _ hP)), at_app _ (at_app _ b1), at_app _ b2, at_app _ (at_app _ (at_new _ _)), at_app _ (at_new _ _), at_new _ _⟩
          · clear hC hP hB
            rintro ρ' H3 ⟨hp, hw, ht, rfl, hP, hB, hC, hP', hB', hC'⟩
            simp only [List.drop_succ_cons, List.drop_zero]
            try simp (disch := first | decide | omega) only [↓ed00, ↓ed01, ↓ed03, ↓ed04, ↓ed05, ↓ed06, ↓ed07, ↓ed08, ↓ed09, ↓ed10, ↓ed11, ↓ed12, ↓ed13, ↓ed14, ↓ed15, ↓ed16, ↓ed17, ↓ed18, ↓ed19, ↓ed20, ↓ed21, ↓ed23, ↓ed24, ↓ed25, ↓ed26, ↓ed27, ↓ed28, ↓ed29, ↓ed30, ↓ed31, ↓ed32, ↓ed33, ↓ed34, ↓ed35, ↓ed36, ↓ed37, ↓ed38, ↓ed39, ↓ed40, ↓ed41, ↓ed42, ↓ed46, ↓ed47, eu00, eu01, eu02, eu03, eu04, eu05, eu06, eu09, eu10, eu11, eu14, eu15, eu18, eu19, eu20, eu21, eu22, eu23, eu24, eu25, eu26, eu27, eu28, eu29, eu30, eu31, eu32, eu33, eu34, eu35, eu36, eu37, eu38, eu39, eu40, eu41, eu42, eu43, eu44, eu46, eu47, eu48, eu49, eu50, eu51, eo00, eo01, eo02, eo03, eo04, eo05, eo06, eo07, eo08, eo09, eo10, eo11, eo12, eo13, eo14, eo15, eo16, eo17, Nat.reduceAdd, Nat.reduceLT, if_true, Bool.false_eq_true, reduceIte, Nat.zero_add, Nat.succ_eq_add_one, Int.reduceNeg, beq_self_eq_true]
            refine call_of (c5 _) ?_
            rintro v H' ⟨rfl, rfl⟩
            refine call_of (w_stream scr (n + 3) s5 4 _ (by omega) (by omega)) ?_
            rintro v H4 ⟨la, xa, rfl, _, hFa, hXa, hla, hra⟩
            try simp (disch := first | decide | omega) only [↓ed00, ↓ed01, ↓ed03, ↓ed04, ↓ed05, ↓ed06, ↓ed07, ↓ed08, ↓ed09, ↓ed10, ↓ed11, ↓ed12, ↓ed13, ↓ed14, ↓ed15, ↓ed16, ↓ed17, ↓ed18, ↓ed19, ↓ed20, ↓ed21, ↓ed23, ↓ed24, ↓ed25, ↓ed26, ↓ed27, ↓ed28, ↓ed29, ↓ed30, ↓ed31, ↓ed32, ↓ed33, ↓ed34, ↓ed35, ↓ed36, ↓ed37, ↓ed38, ↓ed39, ↓ed40, ↓ed41, ↓ed42, ↓ed46, ↓ed47, eu00, eu01, eu02, eu03, eu04, eu05, eu06, eu09, eu10, eu11, eu14, eu15, eu18, eu19, eu20, eu21, eu22, eu23, eu24, eu25, eu26, eu27, eu28, eu29, eu30, eu31, eu32, eu33, eu34, eu35, eu36, eu37, eu38, eu39, eu40, eu41, eu42, eu43, eu44, eu46, eu47, eu48, eu49, eu50, eu51, eo00, eo01, eo02, eo03, eo04, eo05, eo06, eo07, eo08, eo09, eo10, eo11, eo12, eo13, eo14, eo15, eo16, eo17, Nat.reduceAdd, Nat.reduceLT, if_true, Bool.false_eq_true, reduceIte, Nat.zero_add, Nat.succ_eq_add_one, Int.reduceNeg, beq_self_eq_true]
            refine call_of (c6 _) ?_
            rintro v H' ⟨rfl, rfl⟩
            refine call_of (w_stream scr (n + 3) s6 4 _ (by omega) (by omega)) ?_
            rintro v H5 ⟨lb, xb, rfl, _, hFb, hXb, hlb, hrb⟩
            have zz : (xa.map V.int ++ xb.map V.int).length < 1000000 := by
              rw [List.length_append, List.length_map, List.length_map, hla, hlb]; omega
            try simp (disch := first | decide | omega) only [↓ed00, ↓ed01, ↓ed03, ↓ed04, ↓ed05, ↓ed06, ↓ed07, ↓ed08, ↓ed09, ↓ed10, ↓ed11, ↓ed12, ↓ed13, ↓ed14, ↓ed15, ↓ed16, ↓ed17, ↓ed18, ↓ed19, ↓ed20, ↓ed21, ↓ed23, ↓ed24, ↓ed25, ↓ed26, ↓ed27, ↓ed28, ↓ed29, ↓ed30, ↓ed31, ↓ed32, ↓ed33, ↓ed34, ↓ed35, ↓ed36, ↓ed37, ↓ed38, ↓ed39, ↓ed40, ↓ed41, ↓ed42, ↓ed46, ↓ed47, eu00, eu01, eu02, eu03, eu04, eu05, eu06, eu09, eu10, eu11, eu14, eu15, eu18, eu19, eu20, eu21, eu22, eu23, eu24, eu25, eu26, eu27, eu28, eu29, eu30, eu31, eu32, eu33, eu34, eu35, eu36, eu37, eu38, eu39, eu40, eu41, eu42, eu43, eu44, eu46, eu47, eu48, eu49, eu50, eu51, eo00, eo01, eo02, eo03, eo04, eo05, eo06, eo07, eo08, eo09, eo10, eo11, eo12, eo13, eo14, eo15, eo16, eo17, Nat.reduceAdd, Nat.reduceLT, if_true, Bool.false_eq_true, reduceIte, Nat.zero_add, Nat.succ_eq_add_one, Int.reduceNeg, beq_self_eq_true, WBin_cat _ _ (hFb.at' hXa) hXb, WAllocL_ok _ _ _ zz, lstOf_lst _ _ (at_new _ _)]
            rw [← List.map_append]
            have hxr : ∀ x ∈ xa ++ xb, 0 ≤ x := by
              intro x hx
              rcases List.mem_append.mp hx with h | h
              · exact (hra x h).1
              · exact (hrb x h).1
            generalize xa ++ xb = xs at hxr ⊢
            replace hP := at_app [.list (xs.map V.int)] (hFb.at' (hFa.at' hP))
            replace hB := at_app [.list (xs.map V.int)] (hFb.at' (hFa.at' hB))
            replace hC := at_app [.list (xs.map V.int)] (hFb.at' (hFa.at' hC))
            replace hP' := at_app [.list (xs.map V.int)] (hFb.at' (hFa.at' hP'))
            replace hB' := at_app [.list (xs.map V.int)] (hFb.at' (hFa.at' hB'))
            replace hC' := at_app [.list (xs.map V.int)] (hFb.at' (hFa.at' hC'))
            have hX := at_new H5 (.list (xs.map V.int))
            generalize H5 ++ [.list (xs.map V.int)] = H6 at hP hB hC hP' hB' hC' hX ⊢
            generalize H5.length = lx at hX ⊢
            refine for_inv (fun k ρ H' => ∃ (a b c d e f g : Option V), ρ = [some .script, some (.int ps.length), some (.ref lp), some (.ref lw), some (.ref lt), some (.tup [.ref lp, .ref lw, .ref lt]), some (.tup [.ref hp, .ref hw, .ref ht]), a, b, c, d, e, f, g] ∧ Kept H6.length H6 H') ?_ ?_ ?_
            · exact ⟨_, _, _, _, _, _, _, rfl, Kept.refl (Nat.le_refl _)⟩
            · rintro k v ρ Hk hv ⟨oa, ob, oc, od, oe, of, og, rfl, hFk⟩
              obtain ⟨x, hx, rfl⟩ := enum_int hv
              have hx0 := hxr x (List.mem_of_getElem? hx)
              have kP := hFk.at' hP
              have kB := hFk.at' hB
              have kC := hFk.at' hC
              have hlen : (0 : Int) < ps.length := by omega
              obtain ⟨hi0, hi1⟩ := emod_rng (x / 7) hlen
              simp only [wSome_some, asg_var, asg_tup, asgs_cons, asgs_nil, Option.bind_some, List.set_cons_succ, List.set_cons_zero, List.length_cons, List.length_nil, Nat.reduceAdd, Nat.reduceLT, reduceIte, Nat.zero_add, Nat.succ_eq_add_one, List.take_succ_cons, List.take_zero, List.drop_succ_cons, List.drop_zero]
              -- whom, and on which day
              refine cut 3 (fun ρ' H' => ∃ (i d : Int), ρ' = [some .script, some (.int ps.length), some (.ref lp), some (.ref lw), some (.ref lt), some (.tup [.ref lp, .ref lw, .ref lt]), some (.tup [.ref hp, .ref hw, .ref ht]), some (.int k), some (.int x), some (.int i), some (.int d), oe, of, og] ∧ Kept H6.length H6 H') ?_ ?_
              · refine cut 2 (fun ρ' H' => ∃ (d : Int), ρ' = [some .script, some (.int ps.length), some (.ref lp), some (.ref lw), some (.ref lt), some (.tup [.ref lp, .ref lw, .ref lt]), some (.tup [.ref hp, .ref hw, .ref ht]), some (.int k), some (.int x), some (.int (x / 7 % ps.length)), some (.int d), oe, of, og] ∧ Kept H6.length H6 H') ?_ ?_
                · try simp (disch := first | decide | omega) only [↓ed00, ↓ed01, ↓ed03, ↓ed04, ↓ed05, ↓ed06, ↓ed07, ↓ed08, ↓ed09, ↓ed10, ↓ed11, ↓ed12, ↓ed13, ↓ed14, ↓ed15, ↓ed16, ↓ed17, ↓ed18, ↓ed19, ↓ed20, ↓ed21, ↓ed23, ↓ed24, ↓ed25, ↓ed26, ↓ed27, ↓ed28, ↓ed29, ↓ed30, ↓ed31, ↓ed32, ↓ed33, ↓ed34, ↓ed35, ↓ed36, ↓ed37, ↓ed38, ↓ed39, ↓ed40, ↓ed41, ↓ed42, ↓ed46, ↓ed47, eu00, eu01, eu02, eu03, eu04, eu05, eu06, eu09, eu10, eu11, eu14, eu15, eu18, eu19, eu20, eu21, eu22, eu23, eu24, eu25, eu26, eu27, eu28, eu29, eu30, eu31, eu32, eu33, eu34, eu35, eu36, eu37, eu38, eu39, eu40, eu41, eu42, eu43, eu44, eu46, eu47, eu48, eu49, eu50, eu51, eo00, eo01, eo02, eo03, eo04, eo05, eo06, eo07, eo08, eo09, eo10, eo11, eo12, eo13, eo14, eo15, eo16, eo17, Nat.reduceAdd, Nat.reduceLT, if_true, Bool.false_eq_true, reduceIte, Nat.zero_add, Nat.succ_eq_add_one, Int.reduceNeg, beq_self_eq_true]
                  refine call_of (w_days scr (n + 3) lp lw lt _ (x / 3) Hk ps ws ts kP kB kC hi0 hi1 (by omega) (by omega) (by omega)) ?_
                  rintro v H' ⟨e, rfl, hF'⟩
                  try simp (disch := first | decide | omega) only [↓ed00, ↓ed01, ↓ed03, ↓ed04, ↓ed05, ↓ed06, ↓ed07, ↓ed08, ↓ed09, ↓ed10, ↓ed11, ↓ed12, ↓ed13, ↓ed14, ↓ed15, ↓ed16, ↓ed17, ↓ed18, ↓ed19, ↓ed20, ↓ed21, ↓ed23, ↓ed24, ↓ed25, ↓ed26, ↓ed27, ↓ed28, ↓ed29, ↓ed30, ↓ed31, ↓ed32, ↓ed33, ↓ed34, ↓ed35, ↓ed36, ↓ed37, ↓ed38, ↓ed39, ↓ed40, ↓ed41, ↓ed42, ↓ed46, ↓ed47, eu00, eu01, eu02, eu03, eu04, eu05, eu06, eu09, eu10, eu11, eu14, eu15, eu18, eu19, eu20, eu21, eu22, eu23, eu24, eu25, eu26, eu27, eu28, eu29, eu30, eu31, eu32, eu33, eu34, eu35, eu36, eu37, eu38, eu39, eu40, eu41, eu42, eu43, eu44, eu46, eu47, eu48, eu49, eu50, eu51, eo00, eo01, eo02, eo03, eo04, eo05, eo06, eo07, eo08, eo09, eo10, eo11, eo12, eo13, eo14, eo15, eo16, eo17, Nat.reduceAdd, Nat.reduceLT, if_true, Bool.false_eq_true, reduceIte, Nat.zero_add, Nat.succ_eq_add_one, Int.reduceNeg, beq_self_eq_true]
                  exact ⟨e, rfl, hFk.tr hF'⟩
                · rintro ρ' Hm ⟨d, rfl, hFm⟩
                  have mC := hFm.at' hC
                  simp only [wSome_some, asg_var, asg_tup, asgs_cons, asgs_nil, Option.bind_some, List.set_cons_succ, List.set_cons_zero, List.length_cons, List.length_nil, Nat.reduceAdd, Nat.reduceLT, reduceIte, Nat.zero_add, Nat.succ_eq_add_one, List.take_succ_cons, List.take_zero, List.drop_succ_cons, List.drop_zero]
                  refine if_cut (fun b H' => Kept H6.length H6 H' ∧ (b = true → ts ≠ [])) ?_ ?_ ?_
                  · try simp (disch := first | decide | omega) only [↓ed00, ↓ed01, ↓ed03, ↓ed04, ↓ed05, ↓ed06, ↓ed07, ↓ed08, ↓ed09, ↓ed10, ↓ed11, ↓ed12, ↓ed13, ↓ed14, ↓ed15, ↓ed16, ↓ed17, ↓ed18, ↓ed19, ↓ed20, ↓ed21, ↓ed23, ↓ed24, ↓ed25, ↓ed26, ↓ed27, ↓ed28, ↓ed29, ↓ed30, ↓ed31, ↓ed32, ↓ed33, ↓ed34, ↓ed35, ↓ed36, ↓ed37, ↓ed38, ↓ed39, ↓ed40, ↓ed41, ↓ed42, ↓ed46, ↓ed47, eu00, eu01, eu02, eu03, eu04, eu05, eu06, eu09, eu10, eu11, eu14, eu15, eu18, eu19, eu20, eu21, eu22, eu23, eu24, eu25, eu26, eu27, eu28, eu29, eu30, eu31, eu32, eu33, eu34, eu35, eu36, eu37, eu38, eu39, eu40, eu41, eu42, eu43, eu44, eu46, eu47, eu48, eu49, eu50, eu51, eo00, eo01, eo02, eo03, eo04, eo05, eo06, eo07, eo08, eo09, eo10, eo11, eo12, eo13, eo14, eo15, eo16, eo17, Nat.reduceAdd, Nat.reduceLT, if_true, Bool.false_eq_true, reduceIte, Nat.zero_add, Nat.succ_eq_add_one, Int.reduceNeg, beq_self_eq_true]
                    refine wIf_split ?_ ?_
                    · intro _
                      try simp (disch := first | decide | omega) only [↓ed00, ↓ed01, ↓ed03, ↓ed04, ↓ed05, ↓ed06, ↓ed07, ↓ed08, ↓ed09, ↓ed10, ↓ed11, ↓ed12, ↓ed13, ↓ed14, ↓ed15, ↓ed16, ↓ed17, ↓ed18, ↓ed19, ↓ed20, ↓ed21, ↓ed23, ↓ed24, ↓ed25, ↓ed26, ↓ed27, ↓ed28, ↓ed29, ↓ed30, ↓ed31, ↓ed32, ↓ed33, ↓ed34, ↓ed35, ↓ed36, ↓ed37, ↓ed38, ↓ed39, ↓ed40, ↓ed41, ↓ed42, ↓ed46, ↓ed47, eu00, eu01, eu02, eu03, eu04, eu05, eu06, eu09, eu10, eu11, eu14, eu15, eu18, eu19, eu20, eu21, eu22, eu23, eu24, eu25, eu26, eu27, eu28, eu29, eu30, eu31, eu32, eu33, eu34, eu35, eu36, eu37, eu38, eu39, eu40, eu41, eu42, eu43, eu44, eu46, eu47, eu48, eu49, eu50, eu51, eo00, eo01, eo02, eo03, eo04, eo05, eo06, eo07, eo08, eo09, eo10, eo11, eo12, eo13, eo14, eo15, eo16, eo17, Nat.reduceAdd, Nat.reduceLT, if_true, Bool.false_eq_true, reduceIte, Nat.zero_add, Nat.succ_eq_add_one, Int.reduceNeg, beq_self_eq_true, cmp_ne_empty mC (map_plain _ will_plain _)]
                      exact ⟨hFm.tr (Kept.app _ _), fun h => by simpa using h⟩
                    · intro h
                      rw [h]
                      exact ⟨hFm, by simp⟩
                  · rintro H' ⟨hF', h⟩
                    have hne := h rfl
                    have mC' := hF'.at' hC
                    have hlt : (0 : Int) < ts.length := by have := List.length_pos_iff.mpr hne; omega
                    obtain ⟨hj0, hj1⟩ := emod_rng (x / 420) hlt
                    obtain ⟨w, hw, _⟩ : ∃ w : Will, seqAt (ts.map willV) (x / 420 % ts.length) = some (willV w) ∧ True := by
                      have hk : (x / 420 % ts.length).toNat < ts.length := by omega
                      refine ⟨ts[(x / 420 % ts.length).toNat], ?_, trivial⟩
                      unfold seqAt; rw [if_pos hj0]; simp [hk]
                    have w0 : ∀ k, idxV scr (willV w) (.int k) H' = seqAt [.int w.who, .int w.day, .tup (w.gifts.map giftV)] k := fun _ => rfl
                    try simp (disch := first | decide | omega) only [↓ed00, ↓ed01, ↓ed03, ↓ed04, ↓ed05, ↓ed06, ↓ed07, ↓ed08, ↓ed09, ↓ed10, ↓ed11, ↓ed12, ↓ed13, ↓ed14, ↓ed15, ↓ed16, ↓ed17, ↓ed18, ↓ed19, ↓ed20, ↓ed21, ↓ed23, ↓ed24, ↓ed25, ↓ed26, ↓ed27, ↓ed28, ↓ed29, ↓ed30, ↓ed31, ↓ed32, ↓ed33, ↓ed34, ↓ed35, ↓ed36, ↓ed37, ↓ed38, ↓ed39, ↓ed40, ↓ed41, ↓ed42, ↓ed46, ↓ed47, eu00, eu01, eu02, eu03, eu04, eu05, eu06, eu09, eu10, eu11, eu14, eu15, eu18, eu19, eu20, eu21, eu22, eu23, eu24, eu25, eu26, eu27, eu28, eu29, eu30, eu31, eu32, eu33, eu34, eu35, eu36, eu37, eu38, eu39, eu40, eu41, eu42, eu43, eu44, eu46, eu47, eu48, eu49, eu50, eu51, eo00, eo01, eo02, eo03, eo04, eo05, eo06, eo07, eo08, eo09, eo10, eo11, eo12, eo13, eo14, eo15, eo16, eo17, Nat.reduceAdd, Nat.reduceLT, if_true, Bool.false_eq_true, reduceIte, Nat.zero_add, Nat.succ_eq_add_one, Int.reduceNeg, beq_self_eq_true, WBi_lenL _ _ _ mC', List.length_map, idx_lst _ _ _ mC', hw, w0]
                    exact ⟨_, _, rfl, hF'⟩
                  · rintro H' ⟨hF', _⟩
                    try simp (disch := first | decide | omega) only [↓ed00, ↓ed01, ↓ed03, ↓ed04, ↓ed05, ↓ed06, ↓ed07, ↓ed08, ↓ed09, ↓ed10, ↓ed11, ↓ed12, ↓ed13, ↓ed14, ↓ed15, ↓ed16, ↓ed17, ↓ed18, ↓ed19, ↓ed20, ↓ed21, ↓ed23, ↓ed24, ↓ed25, ↓ed26, ↓ed27, ↓ed28, ↓ed29, ↓ed30, ↓ed31, ↓ed32, ↓ed33, ↓ed34, ↓ed35, ↓ed36, ↓ed37, ↓ed38, ↓ed39, ↓ed40, ↓ed41, ↓ed42, ↓ed46, ↓ed47, eu00, eu01, eu02, eu03, eu04, eu05, eu06, eu09, eu10, eu11, eu14, eu15, eu18, eu19, eu20, eu21, eu22, eu23, eu24, eu25, eu26, eu27, eu28, eu29, eu30, eu31, eu32, eu33, eu34, eu35, eu36, eu37, eu38, eu39, eu40, eu41, eu42, eu43, eu44, eu46, eu47, eu48, eu49, eu50, eu51, eo00, eo01, eo02, eo03, eo04, eo05, eo06, eo07, eo08, eo09, eo10, eo11, eo12, eo13, eo14, eo15, eo16, eo17, Nat.reduceAdd, Nat.reduceLT, if_true, Bool.false_eq_true, reduceIte, Nat.zero_add, Nat.succ_eq_add_one, Int.reduceNeg, beq_self_eq_true]
                    exact ⟨_, _, rfl, hF'⟩
              · clear kP kB kC hFk
                rintro ρ' Hk ⟨i, d, rfl, hFk⟩
                simp only [List.drop_succ_cons, List.drop_zero]
                -- the spouse
                refine cut 2 (fun ρ' H' => ρ' = [some .script, some (.int ps.length), some (.ref lp), some (.ref lw), some (.ref lt), some (.tup [.ref lp, .ref lw, .ref lt]), some (.tup [.ref hp, .ref hw, .ref ht]), some (.int k), some (.int x), some (.int i), some (.int d), some (diV (spouseL ps ws i d)), some (diV (spouseL ps ws i d)), og] ∧ Kept H6.length H6 H') ?_ ?_
                · try simp (disch := first | decide | omega) only [↓ed00, ↓ed01, ↓ed03, ↓ed04, ↓ed05, ↓ed06, ↓ed07, ↓ed08, ↓ed09, ↓ed10, ↓ed11, ↓ed12, ↓ed13, ↓ed14, ↓ed15, ↓ed16, ↓ed17, ↓ed18, ↓ed19, ↓ed20, ↓ed21, ↓ed23, ↓ed24, ↓ed25, ↓ed26, ↓ed27, ↓ed28, ↓ed29, ↓ed30, ↓ed31, ↓ed32, ↓ed33, ↓ed34, ↓ed35, ↓ed36, ↓ed37, ↓ed38, ↓ed39, ↓ed40, ↓ed41, ↓ed42, ↓ed46, ↓ed47, eu00, eu01, eu02, eu03, eu04, eu05, eu06, eu09, eu10, eu11, eu14, eu15, eu18, eu19, eu20, eu21, eu22, eu23, eu24, eu25, eu26, eu27, eu28, eu29, eu30, eu31, eu32, eu33, eu34, eu35, eu36, eu37, eu38, eu39, eu40, eu41, eu42, eu43, eu44, eu46, eu47, eu48, eu49, eu50, eu51, eo00, eo01, eo02, eo03, eo04, eo05, eo06, eo07, eo08, eo09, eo10, eo11, eo12, eo13, eo14, eo15, eo16, eo17, Nat.reduceAdd, Nat.reduceLT, if_true, Bool.false_eq_true, reduceIte, Nat.zero_add, Nat.succ_eq_add_one, Int.reduceNeg, beq_self_eq_true]
                  refine call_of (w_spouse_on scr (n + 2) hp hw _ i d Hk ps ws (hFk.at' hP') (hFk.at' hB') hws) ?_
                  rintro v H' ⟨rfl, rfl⟩
                  try simp (disch := first | decide | omega) only [↓ed00, ↓ed01, ↓ed03, ↓ed04, ↓ed05, ↓ed06, ↓ed07, ↓ed08, ↓ed09, ↓ed10, ↓ed11, ↓ed12, ↓ed13, ↓ed14, ↓ed15, ↓ed16, ↓ed17, ↓ed18, ↓ed19, ↓ed20, ↓ed21, ↓ed23, ↓ed24, ↓ed25, ↓ed26, ↓ed27, ↓ed28, ↓ed29, ↓ed30, ↓ed31, ↓ed32, ↓ed33, ↓ed34, ↓ed35, ↓ed36, ↓ed37, ↓ed38, ↓ed39, ↓ed40, ↓ed41, ↓ed42, ↓ed46, ↓ed47, eu00, eu01, eu02, eu03, eu04, eu05, eu06, eu09, eu10, eu11, eu14, eu15, eu18, eu19, eu20, eu21, eu22, eu23, eu24, eu25, eu26, eu27, eu28, eu29, eu30, eu31, eu32, eu33, eu34, eu35, eu36, eu37, eu38, eu39, eu40, eu41, eu42, eu43, eu44, eu46, eu47, eu48, eu49, eu50, eu51, eo00, eo01, eo02, eo03, eo04, eo05, eo06, eo07, eo08, eo09, eo10, eo11, eo12, eo13, eo14, eo15, eo16, eo17, Nat.reduceAdd, Nat.reduceLT, if_true, Bool.false_eq_true, reduceIte, Nat.zero_add, Nat.succ_eq_add_one, Int.reduceNeg, beq_self_eq_true]
                  refine call_of (w_lspouse scr (n + 2) lp lw _ i d H' ps ws (hFk.at' hP) (hFk.at' hB) hws (by omega)) ?_
                  rintro v H'' ⟨rfl, hF''⟩
                  try simp (disch := first | decide | omega) only [↓ed00, ↓ed01, ↓ed03, ↓ed04, ↓ed05, ↓ed06, ↓ed07, ↓ed08, ↓ed09, ↓ed10, ↓ed11, ↓ed12, ↓ed13, ↓ed14, ↓ed15, ↓ed16, ↓ed17, ↓ed18, ↓ed19, ↓ed20, ↓ed21, ↓ed23, ↓ed24, ↓ed25, ↓ed26, ↓ed27, ↓ed28, ↓ed29, ↓ed30, ↓ed31, ↓ed32, ↓ed33, ↓ed34, ↓ed35, ↓ed36, ↓ed37, ↓ed38, ↓ed39, ↓ed40, ↓ed41, ↓ed42, ↓ed46, ↓ed47, eu00, eu01, eu02, eu03, eu04, eu05, eu06, eu09, eu10, eu11, eu14, eu15, eu18, eu19, eu20, eu21, eu22, eu23, eu24, eu25, eu26, eu27, eu28, eu29, eu30, eu31, eu32, eu33, eu34, eu35, eu36, eu37, eu38, eu39, eu40, eu41, eu42, eu43, eu44, eu46, eu47, eu48, eu49, eu50, eu51, eo00, eo01, eo02, eo03, eo04, eo05, eo06, eo07, eo08, eo09, eo10, eo11, eo12, eo13, eo14, eo15, eo16, eo17, Nat.reduceAdd, Nat.reduceLT, if_true, Bool.false_eq_true, reduceIte, Nat.zero_add, Nat.succ_eq_add_one, Int.reduceNeg, beq_self_eq_true]
                  exact ⟨trivial, hFk.tr hF''⟩
                · clear hFk
                  rintro ρ' Hk ⟨rfl, hFk⟩
                  simp only [List.drop_succ_cons, List.drop_zero]
                  refine if_cut (fun b H' => b = false ∧ H' = Hk) ?_ ?_ ?_
                  · cases spouseL ps ws i d with
                    | none =>
                      try simp (disch := first | decide | omega) only [↓ed00, ↓ed01, ↓ed03, ↓ed04, ↓ed05, ↓ed06, ↓ed07, ↓ed08, ↓ed09, ↓ed10, ↓ed11, ↓ed12, ↓ed13, ↓ed14, ↓ed15, ↓ed16, ↓ed17, ↓ed18, ↓ed19, ↓ed20, ↓ed21, ↓ed23, ↓ed24, ↓ed25, ↓ed26, ↓ed27, ↓ed28, ↓ed29, ↓ed30, ↓ed31, ↓ed32, ↓ed33, ↓ed34, ↓ed35, ↓ed36, ↓ed37, ↓ed38, ↓ed39, ↓ed40, ↓ed41, ↓ed42, ↓ed46, ↓ed47, eu00, eu01, eu02, eu03, eu04, eu05, eu06, eu09, eu10, eu11, eu14, eu15, eu18, eu19, eu20, eu21, eu22, eu23, eu24, eu25, eu26, eu27, eu28, eu29, eu30, eu31, eu32, eu33, eu34, eu35, eu36, eu37, eu38, eu39, eu40, eu41, eu42, eu43, eu44, eu46, eu47, eu48, eu49, eu50, eu51, eo00, eo01, eo02, eo03, eo04, eo05, eo06, eo07, eo08, eo09, eo10, eo11, eo12, eo13, eo14, eo15, eo16, eo17, Nat.reduceAdd, Nat.reduceLT, if_true, Bool.false_eq_true, reduceIte, Nat.zero_add, Nat.succ_eq_add_one, Int.reduceNeg, beq_self_eq_true, diV, ne_plain scr Hk (v := .none) rfl, isNone_none]
                      exact ⟨trivial, trivial⟩
                    | some j =>
                      try simp (disch := first | decide | omega) only [↓ed00, ↓ed01, ↓ed03, ↓ed04, ↓ed05, ↓ed06, ↓ed07, ↓ed08, ↓ed09, ↓ed10, ↓ed11, ↓ed12, ↓ed13, ↓ed14, ↓ed15, ↓ed16, ↓ed17, ↓ed18, ↓ed19, ↓ed20, ↓ed21, ↓ed23, ↓ed24, ↓ed25, ↓ed26, ↓ed27, ↓ed28, ↓ed29, ↓ed30, ↓ed31, ↓ed32, ↓ed33, ↓ed34, ↓ed35, ↓ed36, ↓ed37, ↓ed38, ↓ed39, ↓ed40, ↓ed41, ↓ed42, ↓ed46, ↓ed47, eu00, eu01, eu02, eu03, eu04, eu05, eu06, eu09, eu10, eu11, eu14, eu15, eu18, eu19, eu20, eu21, eu22, eu23, eu24, eu25, eu26, eu27, eu28, eu29, eu30, eu31, eu32, eu33, eu34, eu35, eu36, eu37, eu38, eu39, eu40, eu41, eu42, eu43, eu44, eu46, eu47, eu48, eu49, eu50, eu51, eo00, eo01, eo02, eo03, eo04, eo05, eo06, eo07, eo08, eo09, eo10, eo11, eo12, eo13, eo14, eo15, eo16, eo17, Nat.reduceAdd, Nat.reduceLT, if_true, Bool.false_eq_true, reduceIte, Nat.zero_add, Nat.succ_eq_add_one, Int.reduceNeg, beq_self_eq_true, diV, isNone_int]
                      refine call_of (w_whole scr (n + 3) j Hk) ?_
                      rintro v H' ⟨rfl, rfl⟩
                      try simp (disch := first | decide | omega) only [↓ed00, ↓ed01, ↓ed03, ↓ed04, ↓ed05, ↓ed06, ↓ed07, ↓ed08, ↓ed09, ↓ed10, ↓ed11, ↓ed12, ↓ed13, ↓ed14, ↓ed15, ↓ed16, ↓ed17, ↓ed18, ↓ed19, ↓ed20, ↓ed21, ↓ed23, ↓ed24, ↓ed25, ↓ed26, ↓ed27, ↓ed28, ↓ed29, ↓ed30, ↓ed31, ↓ed32, ↓ed33, ↓ed34, ↓ed35, ↓ed36, ↓ed37, ↓ed38, ↓ed39, ↓ed40, ↓ed41, ↓ed42, ↓ed46, ↓ed47, eu00, eu01, eu02, eu03, eu04, eu05, eu06, eu09, eu10, eu11, eu14, eu15, eu18, eu19, eu20, eu21, eu22, eu23, eu24, eu25, eu26, eu27, eu28, eu29, eu30, eu31, eu32, eu33, eu34, eu35, eu36, eu37, eu38, eu39, eu40, eu41, eu42, eu43, eu44, eu46, eu47, eu48, eu49, eu50, eu51, eo00, eo01, eo02, eo03, eo04, eo05, eo06, eo07, eo08, eo09, eo10, eo11, eo12, eo13, eo14, eo15, eo16, eo17, Nat.reduceAdd, Nat.reduceLT, if_true, Bool.false_eq_true, reduceIte, Nat.zero_add, Nat.succ_eq_add_one, Int.reduceNeg, beq_self_eq_true]
                      exact ⟨trivial, trivial⟩
                  · rintro H' ⟨h, _⟩
                    simp at h
                  · rintro H' ⟨_, rfl⟩
                    rw [WSs_nil, thenK_next]
                    -- the will
                    refine cut 1 (fun ρ' H'' => H'' = H' ∧ ∃ gs, ρ' = [some .script, some (.int ps.length), some (.ref lp), some (.ref lw), some (.ref lt), some (.tup [.ref lp, .ref lw, .ref lt]), some (.tup [.ref hp, .ref hw, .ref ht]), some (.int k), some (.int x), some (.int i), some (.int d), some (diV (spouseL ps ws i d)), some (diV (spouseL ps ws i d)), some (.tup (gs.map giftV))] ∧ WillRes ts i d gs) ?_ ?_
                    · try simp (disch := first | decide | omega) only [↓ed00, ↓ed01, ↓ed03, ↓ed04, ↓ed05, ↓ed06, ↓ed07, ↓ed08, ↓ed09, ↓ed10, ↓ed11, ↓ed12, ↓ed13, ↓ed14, ↓ed15, ↓ed16, ↓ed17, ↓ed18, ↓ed19, ↓ed20, ↓ed21, ↓ed23, ↓ed24, ↓ed25, ↓ed26, ↓ed27, ↓ed28, ↓ed29, ↓ed30, ↓ed31, ↓ed32, ↓ed33, ↓ed34, ↓ed35, ↓ed36, ↓ed37, ↓ed38, ↓ed39, ↓ed40, ↓ed41, ↓ed42, ↓ed46, ↓ed47, eu00, eu01, eu02, eu03, eu04, eu05, eu06, eu09, eu10, eu11, eu14, eu15, eu18, eu19, eu20, eu21, eu22, eu23, eu24, eu25, eu26, eu27, eu28, eu29, eu30, eu31, eu32, eu33, eu34, eu35, eu36, eu37, eu38, eu39, eu40, eu41, eu42, eu43, eu44, eu46, eu47, eu48, eu49, eu50, eu51, eo00, eo01, eo02, eo03, eo04, eo05, eo06, eo07, eo08, eo09, eo10, eo11, eo12, eo13, eo14, eo15, eo16, eo17, Nat.reduceAdd, Nat.reduceLT, if_true, Bool.false_eq_true, reduceIte, Nat.zero_add, Nat.succ_eq_add_one, Int.reduceNeg, beq_self_eq_true]
                      refine call_of (w_will_on scr (n + 3) ht _ _ i d H' ts (hFk.at' hC') (fun w hw => (hts w hw).2.2.1)) ?_
                      rintro v H'' ⟨gs, rfl, hgs, rfl⟩
                      try simp (disch := first | decide | omega) only [↓ed00, ↓ed01, ↓ed03, ↓ed04, ↓ed05, ↓ed06, ↓ed07, ↓ed08, ↓ed09, ↓ed10, ↓ed11, ↓ed12, ↓ed13, ↓ed14, ↓ed15, ↓ed16, ↓ed17, ↓ed18, ↓ed19, ↓ed20, ↓ed21, ↓ed23, ↓ed24, ↓ed25, ↓ed26, ↓ed27, ↓ed28, ↓ed29, ↓ed30, ↓ed31, ↓ed32, ↓ed33, ↓ed34, ↓ed35, ↓ed36, ↓ed37, ↓ed38, ↓ed39, ↓ed40, ↓ed41, ↓ed42, ↓ed46, ↓ed47, eu00, eu01, eu02, eu03, eu04, eu05, eu06, eu09, eu10, eu11, eu14, eu15, eu18, eu19, eu20, eu21, eu22, eu23, eu24, eu25, eu26, eu27, eu28, eu29, eu30, eu31, eu32, eu33, eu34, eu35, eu36, eu37, eu38, eu39, eu40, eu41, eu42, eu43, eu44, eu46, eu47, eu48, eu49, eu50, eu51, eo00, eo01, eo02, eo03, eo04, eo05, eo06, eo07, eo08, eo09, eo10, eo11, eo12, eo13, eo14, eo15, eo16, eo17, Nat.reduceAdd, Nat.reduceLT, if_true, Bool.false_eq_true, reduceIte, Nat.zero_add, Nat.succ_eq_add_one, Int.reduceNeg, beq_self_eq_true]
                      exact ⟨trivial, gs, rfl, hgs⟩
                    · rintro ρ' H'' ⟨rfl, gs, rfl, hgs⟩
                      simp only [List.drop_succ_cons, List.drop_zero]
                      refine if_cut (fun b H' => b = false ∧ Kept H6.length H6 H') ?_ ?_ ?_
                      · try simp (disch := first | decide | omega) only [↓ed00, ↓ed01, ↓ed03, ↓ed04, ↓ed05, ↓ed06, ↓ed07, ↓ed08, ↓ed09, ↓ed10, ↓ed11, ↓ed12, ↓ed13, ↓ed14, ↓ed15, ↓ed16, ↓ed17, ↓ed18, ↓ed19, ↓ed20, ↓ed21, ↓ed23, ↓ed24, ↓ed25, ↓ed26, ↓ed27, ↓ed28, ↓ed29, ↓ed30, ↓ed31, ↓ed32, ↓ed33, ↓ed34, ↓ed35, ↓ed36, ↓ed37, ↓ed38, ↓ed39, ↓ed40, ↓ed41, ↓ed42, ↓ed46, ↓ed47, eu00, eu01, eu02, eu03, eu04, eu05, eu06, eu09, eu10, eu11, eu14, eu15, eu18, eu19, eu20, eu21, eu22, eu23, eu24, eu25, eu26, eu27, eu28, eu29, eu30, eu31, eu32, eu33, eu34, eu35, eu36, eu37, eu38, eu39, eu40, eu41, eu42, eu43, eu44, eu46, eu47, eu48, eu49, eu50, eu51, eo00, eo01, eo02, eo03, eo04, eo05, eo06, eo07, eo08, eo09, eo10, eo11, eo12, eo13, eo14, eo15, eo16, eo17, Nat.reduceAdd, Nat.reduceLT, if_true, Bool.false_eq_true, reduceIte, Nat.zero_add, Nat.succ_eq_add_one, Int.reduceNeg, beq_self_eq_true]
                        refine call_of (w_lwill scr (n + 3) lt _ _ i d H'' ts (hFk.at' hC) (by omega)) ?_
                        rintro v H3 ⟨gs', rfl, hgs', hF3⟩
                        have e := hgs.uniq hgs'
                        subst e
                        have hF := hFk.tr hF3
                        have hpl : plain 9 (.tup (gs.map giftV)) = true := by
                          have : ∀ gs : List Gift, (gs.map giftV).all (plain 8) = true := by
                            intro gs; induction gs with
                            | nil => rfl
                            | cons a r ih => rw [List.map_cons, List.all_cons, ih]; rfl
                          simp [plain, this]
                        try simp (disch := first | decide | omega) only [↓ed00, ↓ed01, ↓ed03, ↓ed04, ↓ed05, ↓ed06, ↓ed07, ↓ed08, ↓ed09, ↓ed10, ↓ed11, ↓ed12, ↓ed13, ↓ed14, ↓ed15, ↓ed16, ↓ed17, ↓ed18, ↓ed19, ↓ed20, ↓ed21, ↓ed23, ↓ed24, ↓ed25, ↓ed26, ↓ed27, ↓ed28, ↓ed29, ↓ed30, ↓ed31, ↓ed32, ↓ed33, ↓ed34, ↓ed35, ↓ed36, ↓ed37, ↓ed38, ↓ed39, ↓ed40, ↓ed41, ↓ed42, ↓ed46, ↓ed47, eu00, eu01, eu02, eu03, eu04, eu05, eu06, eu09, eu10, eu11, eu14, eu15, eu18, eu19, eu20, eu21, eu22, eu23, eu24, eu25, eu26, eu27, eu28, eu29, eu30, eu31, eu32, eu33, eu34, eu35, eu36, eu37, eu38, eu39, eu40, eu41, eu42, eu43, eu44, eu46, eu47, eu48, eu49, eu50, eu51, eo00, eo01, eo02, eo03, eo04, eo05, eo06, eo07, eo08, eo09, eo10, eo11, eo12, eo13, eo14, eo15, eo16, eo17, Nat.reduceAdd, Nat.reduceLT, if_true, Bool.false_eq_true, reduceIte, Nat.zero_add, Nat.succ_eq_add_one, Int.reduceNeg, beq_self_eq_true, ne_plain scr H3 hpl, ne_roll scr (hF.at' hP') (hF.at' hP) (hF.at' hB') (hF.at' hB) (hF.at' hC') (hF.at' hC) (map_plain _ perV_plain _) (map_plain _ (fun _ => rfl) _) (map_plain _ will_plain _)]
                        exact ⟨trivial, hF⟩
                      · rintro H' ⟨h, _⟩
                        simp at h
                      · rintro H' ⟨_, hF⟩
                        try simp (disch := first | decide | omega) only [↓ed00, ↓ed01, ↓ed03, ↓ed04, ↓ed05, ↓ed06, ↓ed07, ↓ed08, ↓ed09, ↓ed10, ↓ed11, ↓ed12, ↓ed13, ↓ed14, ↓ed15, ↓ed16, ↓ed17, ↓ed18, ↓ed19, ↓ed20, ↓ed21, ↓ed23, ↓ed24, ↓ed25, ↓ed26, ↓ed27, ↓ed28, ↓ed29, ↓ed30, ↓ed31, ↓ed32, ↓ed33, ↓ed34, ↓ed35, ↓ed36, ↓ed37, ↓ed38, ↓ed39, ↓ed40, ↓ed41, ↓ed42, ↓ed46, ↓ed47, eu00, eu01, eu02, eu03, eu04, eu05, eu06, eu09, eu10, eu11, eu14, eu15, eu18, eu19, eu20, eu21, eu22, eu23, eu24, eu25, eu26, eu27, eu28, eu29, eu30, eu31, eu32, eu33, eu34, eu35, eu36, eu37, eu38, eu39, eu40, eu41, eu42, eu43, eu44, eu46, eu47, eu48, eu49, eu50, eu51, eo00, eo01, eo02, eo03, eo04, eo05, eo06, eo07, eo08, eo09, eo10, eo11, eo12, eo13, eo14, eo15, eo16, eo17, Nat.reduceAdd, Nat.reduceLT, if_true, Bool.false_eq_true, reduceIte, Nat.zero_add, Nat.succ_eq_add_one, Int.reduceNeg, beq_self_eq_true]
                        exact ⟨stands_ref (hF.at' hX) hX, _, _, _, _, _, _, _, rfl, hF⟩
            · rintro ρ H' ⟨oa, ob, oc, od, oe, of, og, rfl, hF'⟩
              try simp (disch := first | decide | omega) only [↓ed00, ↓ed01, ↓ed03, ↓ed04, ↓ed05, ↓ed06, ↓ed07, ↓ed08, ↓ed09, ↓ed10, ↓ed11, ↓ed12, ↓ed13, ↓ed14, ↓ed15, ↓ed16, ↓ed17, ↓ed18, ↓ed19, ↓ed20, ↓ed21, ↓ed23, ↓ed24, ↓ed25, ↓ed26, ↓ed27, ↓ed28, ↓ed29, ↓ed30, ↓ed31, ↓ed32, ↓ed33, ↓ed34, ↓ed35, ↓ed36, ↓ed37, ↓ed38, ↓ed39, ↓ed40, ↓ed41, ↓ed42, ↓ed46, ↓ed47, eu00, eu01, eu02, eu03, eu04, eu05, eu06, eu09, eu10, eu11, eu14, eu15, eu18, eu19, eu20, eu21, eu22, eu23, eu24, eu25, eu26, eu27, eu28, eu29, eu30, eu31, eu32, eu33, eu34, eu35, eu36, eu37, eu38, eu39, eu40, eu41, eu42, eu43, eu44, eu46, eu47, eu48, eu49, eu50, eu51, eo00, eo01, eo02, eo03, eo04, eo05, eo06, eo07, eo08, eo09, eo10, eo11, eo12, eo13, eo14, eo15, eo16, eo17, Nat.reduceAdd, Nat.reduceLT, if_true, Bool.false_eq_true, reduceIte, Nat.zero_add, Nat.succ_eq_add_one, Int.reduceNeg, beq_self_eq_true]
theorem run_ok (n : Nat) : ∃ H, callF scr pgks pfns (n + 5) i_law [.script] [] = .ok (.bool true) H := by
  obtain ⟨v, H, h, rfl⟩ := Wp_ex (run scr n)
  exact ⟨H, h⟩
end Mine.P

end
section
set_option autoImplicit false
set_option linter.unusedVariables false
set_option linter.unusedSimpArgs false
set_option maxRecDepth 100000
open PySem PySem.W PyProof.Rows
namespace Mine
theorem goodTrue {c : ClaimW} {cl : Str → Option Addr} {mean : ExcName → Option Value} {args : List WData} {s₁ : Shared} {h' : Heap} {tk : Nat} (hk : ∀ b o, s₁.heap.get? b = some o → h'.get? b = some o) (hg : s₁.gens = #[])
    (hn : ∀ cls, c.raises args cls = false) (hp : c.post args (.bool true) args = true) : GoodWG c cl mean args s₁ (.ok (.ret (.bool true))) { s₁ with heap := h', toks := tk } :=
  GoodW.toG ⟨.inl ⟨_, _, _, rfl, hn, .bool true, hp, fun _ => ⟨.nil, fun _ ha => nomatch ha⟩⟩, hk, rfl, hg⟩
end Mine
set_option maxHeartbeats 40000000 in
theorem PySem.Challenge.cw_uf020001_07_holds : PySem.Challenge.rw_uf020001_07.Holds := by
  w_on
  refine holds_law (by decide +kernel) fun said => ?_
  o_head Hook.none
  case hw => w_witness2
  intro w s₀ s₁ mg mb G Y fa o pm cd doc dV kV ho hd hcd hD hmg hg args vals as hpre hlay hrd hwl hlo
  refine Ground.open G ?_
  intro T B D TE TW
  wrow_args hpre hlay hrd hwl hlo
  rename_i ns _ _ _ _ _ _ _ scr vs _ hL _ _ _ hI _ hc _
  refine Mine.law_of (K := Mine.P.pK) (fns := Mine.P.pfns) (nss := Mine.P.pnss) (gks := Mine.P.pgks) (N := 500) (lawIdx := Mine.P.i_law) T ?_ ?_ ?_ ?_ ?_ ?_ hL hI ?_ ?_ ?_ hmg (Mine.P.run_ok _ 495) ?_
  · decide +kernel
  · decide +kernel
  · decide +kernel
  · decide +kernel
  · rfl
  · intro j x h; simp [Mine.P.pK] at h
  · omega
  · omega
  · rfl
  · intro h' tk hk
    exact Mine.goodTrue hk hg (fun _ => rfl) (by with_unfolding_all rfl)

end
